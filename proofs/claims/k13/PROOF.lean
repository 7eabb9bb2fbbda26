import PyProof.Rows.All
import Wide.All
import OpenK.AllK
import Wide.FinOn
import HandS.ForMost
import HandS.ForExc
import HandS.IsInst
import HandS.Walk
import HandS.Style
import HandS.Deep
import HandS.TupLen
import HandS.ExcCtx
import KE.LtData
import KE.DataMinMax
import KE.SortData
import HandS.Zip
import HandS.HotCalls
import HandS.ExcIs
import HandS.Conv
import HandS.SuiteRaise
import KE.DataFind
import HandS.TryOnly
import HandS.Text
import HandS.TupSets
import HandS.RaiseMore
import PySem.Challenge.RW_basin_k13_texts_refused
set_option Elab.async false
set_option linter.all false
set_option maxRecDepth 100000
set_option maxHeartbeats 2000000
/-! VA: data without addresses (D), how they lie in the abstract heap (Is, Own), and the plain meaning of expressions. -/
namespace VS
open PySem L2

/-- a land, told by its rows and its table of drains -/
structure LandD where
  g : List (List (Option Int))
  o : List (List Key × Bool)

/-- data -/
inductive D where
  | non
  | bl (b : Bool)
  | int (i : Int)
  | str (s : Str)
  | lst (l : List D)
  | tup (l : List D)
  | dct (m : List (List Key × D))
  | land (L : LandD)
  | pile (l : List D)
  | raw

/-- outcomes -/
inductive O (α : Type) where
  | bad
  | exc (k : Value)
  | ok (a : α)
def O.bind {α β : Type} (x : O α) (f : α → O β) : O β := match x with
  | .bad => .bad
  | .exc k => .exc k
  | .ok a => f a
@[simp] theorem O.bind_ok {α β : Type} (a : α) (f : α → O β) : (O.ok a).bind f = f a := Eq.trans rfl rfl
@[simp] theorem O.bind_bad {α β : Type} (f : α → O β) : (O.bad : O α).bind f = .bad := rfl
@[simp] theorem O.bind_exc {α β : Type} (k : Value) (f : α → O β) : (O.exc k : O α).bind f = .exc k := rfl

/-- what is wanted of an outcome -/
def Po {α : Type} (r : O α) (P : α → Prop) (E : Value → Prop) : Prop := match r with
  | .bad => False
  | .exc k => E k
  | .ok a => P a
theorem Po.bind {α β : Type} {r : O α} {f : α → O β} {P : β → Prop} {E : Value → Prop} (h : Po (r.bind f) P E) : Po r (fun a => Po (f a) P E) E := by
  cases r with
  | bad => exact h
  | exc k => exact h
  | ok a => exact h
theorem Po.imp {α : Type} {r : O α} {P P' : α → Prop} {E E' : Value → Prop} (h : Po r P E) (hp : ∀ a, r = .ok a → P a → P' a) (he : ∀ k, r = .exc k → E k → E' k) : Po r P' E' := by
  cases r with
  | bad => exact h
  | exc k => exact he k rfl h
  | ok a => exact hp a rfl h
/-- a condition of the meaning -/
def gd {α : Type} (b : Bool) (x : O α) : O α := bif b then x else .bad
@[simp] theorem gd_true {α : Type} (x : O α) : gd true x = x := rfl
@[simp] theorem gd_false {α : Type} (x : O α) : gd false x = .bad := rfl
theorem Po.gd {α : Type} {b : Bool} {x : O α} {P : α → Prop} {E : Value → Prop} (h : Po (gd b x) P E) : b = true ∧ Po x P E := by
  cases b with
  | true => exact ⟨rfl, h⟩
  | false => exact h.elim
def ofO {α : Type} : Option α → O α
  | some a => .ok a
  | none => .bad
@[simp] theorem ofO_some {α : Type} (a : α) : ofO (some a) = .ok a := rfl
@[simp] theorem ofO_none {α : Type} : ofO (none : Option α) = .bad := rfl
theorem Po.ofO {α : Type} {o : Option α} {P : α → Prop} {E : Value → Prop} (h : Po (ofO o) P E) : ∃ a, o = some a ∧ P a := by
  cases o with
  | some a => exact ⟨a, rfl, h⟩
  | none => exact h.elim
theorem Po.ok {α : Type} {a : α} {P : α → Prop} {E : Value → Prop} (h : P a) : Po (.ok a) P E := h

structure Ct where
  K : PySem.W.Frag
  CL : Addr
  CP : Addr

/-- objects that never change -/
def sta : HO → Prop
  | .tup _ => True
  | .frz _ _ => True
  | _ => False

def hV : Option Int → V
  | none => .non
  | some i => .int i
def rowV (r : List (Option Int)) : List V := r.map hV
/-- a list of the written part -/
def KL (K : PySem.W.Frag) (a : Addr) (xs : List V) : Prop :=
  ∃ (o : Obj) (its : Array Value) (n : Nat), K.lookup a = some o ∧ o.cls = .type "list" ∧ o.dict = none ∧ o.data = .seq its n ∧ its.size ≤ sizeLine ∧ Vals xs its.toList

def landF (L : LandD) (g od : Addr) : List (Str × V) :=
  [("grid", .ref g), ("rows", .int L.g.length), ("columns", .int (L.g.headD []).length), ("open_at", .ref od)]
/-- a land at a, its objects F -/
def LandAt (c : Ct) (H : Hp) (a : Addr) (L : LandD) (F : List Addr) : Prop :=
  ∃ (dx g od : Addr) (rs : List Addr), H a = some (.ins c.CL dx (landF L g od)) ∧ H g = some (.lst (rs.map V.ref)) ∧ H od = some (.dT (L.o.map fun p => (p.1, V.bl p.2))) ∧
    Paired (fun r row => H r = some (.lst (rowV row))) rs L.g ∧ F = a :: g :: od :: rs

mutual
/-- v is the datum d in H; what can change of it lies in W -/
inductive Is (c : Ct) (W : Addr → Prop) (H : Hp) : V → D → Prop
  | non : Is c W H .non .non
  | bl (b : Bool) : Is c W H (.bl b) (.bl b)
  | int (i : Int) : Is c W H (.int i) (.int i)
  | str (x : Str) : Is c W H (.str x) (.str x)
  | lst {a : Addr} {xs : List V} {ds : List D} : W a → Rd H a (.lst xs) → IsA c W H xs ds → Is c W H (.ref a) (.lst ds)
  | lstK {a : Addr} {xs : List V} {ds : List D} : KL c.K a xs → IsA c W H xs ds → Is c W H (.ref a) (.lst ds)
  | tup {a : Addr} {xs : List V} {ds : List D} : H a = some (.tup xs) → IsA c W H xs ds → Is c W H (.ref a) (.tup ds)
  | dct {a : Addr} {ks : List (List Key)} {vs : List V} {ds : List D} : W a → H a = some (.dT (ks.zip vs)) → vs.length = ks.length → IsA c W H vs ds → Is c W H (.ref a) (.dct (ks.zip ds))
  | land {a : Addr} {L : LandD} {F : List Addr} : LandAt c H a L F → (∀ x ∈ F, W x) → Is c W H (.ref a) (.land L)
  | pile {a dx r : Addr} {xs : List V} {ds : List D} : W a → W r → H a = some (.ins c.CP dx [("row", .ref r)]) → H r = some (.lst xs) → IsA c W H xs ds → Is c W H (.ref a) (.pile ds)
  | raw {a C dx : Addr} : W a → H a = some (.ins C dx []) → Is c W H (.ref a) .raw
inductive IsA (c : Ct) (W : Addr → Prop) (H : Hp) : List V → List D → Prop
  | nil : IsA c W H [] []
  | cons {v : V} {vs : List V} {d : D} {ds : List D} : Is c W H v d → IsA c W H vs ds → IsA c W H (v :: vs) (d :: ds)
end

section
variable {c : Ct} {W W' : Addr → Prop} {H H' : Hp}
theorem Rd.carry {a : Addr} {xs : List V} (k : ∀ a o, (W a ∨ sta o) → H a = some o → H' a = some o) (w : W a) (h : Rd H a (.lst xs)) : Rd H' a (.lst xs) := by
  rcases h with h | ⟨o, h⟩
  · exact .inl (k _ _ (.inl w) h)
  · exact .inr ⟨o, k _ _ (.inl w) h⟩
theorem LandAt.carry {a : Addr} {L : LandD} {F : List Addr} (h : LandAt c H a L F) (k : ∀ x ∈ F, ∀ o, H x = some o → H' x = some o) : LandAt c H' a L F := by
  obtain ⟨dx, g, od, rs, h1, h2, h3, h4, rfl⟩ := h
  refine ⟨dx, g, od, rs, k _ (by simp) _ h1, k _ (by simp) _ h2, k _ (by simp) _ h3, ?_, rfl⟩
  have : ∀ (rs : List Addr) (gg : List (List (Option Int))), (∀ x ∈ rs, ∀ o, H x = some o → H' x = some o) → Paired (fun r row => H r = some (.lst (rowV row))) rs gg → Paired (fun r row => H' r = some (.lst (rowV row))) rs gg := by
    intro rs gg hk hp
    induction hp with
    | nil => exact .nil
    | cons p t ih => exact .cons (hk _ (by simp) _ p) (ih fun x hx => hk x (by simp [hx]))
  exact this rs L.g (fun x hx => k x (by simp [hx])) h4
mutual
theorem Is.mono (w : ∀ a, W a → W' a) (k : ∀ a o, (W a ∨ sta o) → H a = some o → H' a = some o) : ∀ {v : V} {d : D}, Is c W H v d → Is c W' H' v d
  | _, _, .non => .non
  | _, _, .bl b => .bl b
  | _, _, .int i => .int i
  | _, _, .str x => .str x
  | _, _, .lst h1 h2 h3 => .lst (w _ h1) (Rd.carry k h1 h2) (IsA.mono w k h3)
  | _, _, .lstK h2 h3 => .lstK h2 (IsA.mono w k h3)
  | _, _, .tup h1 h2 => .tup (k _ _ (.inr trivial) h1) (IsA.mono w k h2)
  | _, _, .dct h1 h2 h3 h4 => .dct (w _ h1) (k _ _ (.inl h1) h2) h3 (IsA.mono w k h4)
  | _, _, .land h1 h2 => .land (h1.carry fun x hx o => k x o (.inl (h2 x hx))) fun x hx => w x (h2 x hx)
  | _, _, .pile h1 h2 h3 h4 h5 => .pile (w _ h1) (w _ h2) (k _ _ (.inl h1) h3) (k _ _ (.inl h2) h4) (IsA.mono w k h5)
  | _, _, .raw h1 h2 => .raw (w _ h1) (k _ _ (.inl h1) h2)
theorem IsA.mono (w : ∀ a, W a → W' a) (k : ∀ a o, (W a ∨ sta o) → H a = some o → H' a = some o) : ∀ {vs : List V} {ds : List D}, IsA c W H vs ds → IsA c W' H' vs ds
  | _, _, .nil => .nil
  | _, _, .cons h t => .cons (Is.mono w k h) (IsA.mono w k t)
end
theorem IsA.length : ∀ {vs : List V} {ds : List D}, IsA c W H vs ds → vs.length = ds.length
  | _, _, .nil => rfl
  | _, _, .cons _ t => by simp [IsA.length t]
theorem IsA.get : ∀ {vs : List V} {ds : List D} {i : Nat} {v : V}, IsA c W H vs ds → vs[i]? = some v → ∃ d, ds[i]? = some d ∧ Is c W H v d
  | _, _, _, _, .nil, e => by simp at e
  | _, _, 0, v, .cons h _, e => by simp at e; subst e; exact ⟨_, rfl, h⟩
  | _, _, i + 1, v, .cons _ t, e => by
    obtain ⟨d, h1, h2⟩ := IsA.get (i := i) (v := v) t (by simpa using e)
    exact ⟨d, by simpa using h1, h2⟩
theorem IsA.getD : ∀ {vs : List V} {ds : List D} {i : Nat} {d : D}, IsA c W H vs ds → ds[i]? = some d → ∃ v, vs[i]? = some v ∧ Is c W H v d
  | _, _, _, _, .nil, e => by simp at e
  | _, _, 0, d, .cons h _, e => by simp at e; subst e; exact ⟨_, rfl, h⟩
  | _, _, i + 1, d, .cons _ t, e => by
    obtain ⟨v, h1, h2⟩ := IsA.getD (i := i) (d := d) t (by simpa using e)
    exact ⟨v, by simpa using h1, h2⟩
theorem IsA.append : ∀ {vs us : List V} {ds es : List D}, IsA c W H vs ds → IsA c W H us es → IsA c W H (vs ++ us) (ds ++ es)
  | _, _, _, _, .nil, h => h
  | _, _, _, _, .cons h t, h' => .cons h (IsA.append t h')
theorem IsA.take (n : Nat) : ∀ {vs : List V} {ds : List D}, IsA c W H vs ds → IsA c W H (vs.take n) (ds.take n) := by
  induction n with
  | zero => intro vs ds _; exact .nil
  | succ n ih =>
    intro vs ds h
    cases h with
    | nil => exact .nil
    | cons h t => exact .cons h (ih t)
theorem IsA.drop (n : Nat) : ∀ {vs : List V} {ds : List D}, IsA c W H vs ds → IsA c W H (vs.drop n) (ds.drop n) := by
  induction n with
  | zero => intro vs ds h; exact h
  | succ n ih =>
    intro vs ds h
    cases h with
    | nil => exact .nil
    | cons h t => exact ih t
theorem IsA.set {v : V} {d : D} (hv : Is c W H v d) : ∀ {vs : List V} {ds : List D} (i : Nat), IsA c W H vs ds → IsA c W H (vs.set i v) (ds.set i d)
  | _, _, _, .nil => .nil
  | _, _, 0, .cons _ t => .cons hv t
  | _, _, i + 1, .cons h t => .cons h (IsA.set hv i t)
theorem IsA.all_mono : ∀ {vs : List V} {ds : List D}, (∀ v d, d ∈ ds → Is c W H v d → Is c W' H' v d) → IsA c W H vs ds → IsA c W' H' vs ds
  | _, _, _, .nil => .nil
  | _, _, f, .cons h t => .cons (f _ _ (by simp) h) (IsA.all_mono (fun v d hd => f v d (by simp [hd])) t)
end

/-! ### what never changes -/
mutual
def D.imm : D → Bool
  | .non => true
  | .bl _ => true
  | .int _ => true
  | .str _ => true
  | .tup l => immA l
  | .lst _ => false
  | .dct _ => false
  | .land _ => false
  | .pile _ => false
  | .raw => false
def immA : List D → Bool
  | [] => true
  | d :: ds => d.imm && immA ds
end
@[simp] theorem imm_non : D.imm .non = true := by simp only [D.imm]
@[simp] theorem imm_bl (b) : D.imm (.bl b) = true := by simp only [D.imm]
@[simp] theorem imm_int (i) : D.imm (.int i) = true := by simp only [D.imm]
@[simp] theorem imm_str (s) : D.imm (.str s) = true := by simp only [D.imm]
@[simp] theorem imm_tup (l) : D.imm (.tup l) = immA l := by simp only [D.imm]
@[simp] theorem imm_lst (l) : D.imm (.lst l) = false := by simp only [D.imm]
@[simp] theorem imm_dct (l) : D.imm (.dct l) = false := by simp only [D.imm]
@[simp] theorem imm_land (l) : D.imm (.land l) = false := by simp only [D.imm]
@[simp] theorem imm_pile (l) : D.imm (.pile l) = false := by simp only [D.imm]
@[simp] theorem imm_raw : D.imm .raw = false := by simp only [D.imm]
@[simp] theorem immA_nil : immA [] = true := by simp only [immA]
@[simp] theorem immA_cons (d ds) : immA (d :: ds) = (d.imm && immA ds) := by simp only [immA]
section
variable {c : Ct} {W W' : Addr → Prop} {H H' : Hp}
mutual
theorem Is.imm (k : ∀ a o, sta o → H a = some o → H' a = some o) {v : V} {d : D} (h : Is c W H v d) (e : d.imm = true) : Is c W' H' v d := by
  match h with
  | .non => exact .non
  | .bl b => exact .bl b
  | .int i => exact .int i
  | .str x => exact .str x
  | .tup h1 h2 => exact .tup (k _ _ trivial h1) (IsA.imm k h2 (by rw [imm_tup] at e; exact e))
  | .lst _ _ _ => rw [imm_lst] at e; cases e
  | .lstK _ _ => rw [imm_lst] at e; cases e
  | .dct _ _ _ _ => rw [imm_dct] at e; cases e
  | .land _ _ => rw [imm_land] at e; cases e
  | .pile _ _ _ _ _ => rw [imm_pile] at e; cases e
  | .raw _ _ => rw [imm_raw] at e; cases e
theorem IsA.imm (k : ∀ a o, sta o → H a = some o → H' a = some o) {vs : List V} {ds : List D} (h : IsA c W H vs ds) (e : immA ds = true) : IsA c W' H' vs ds := by
  match h with
  | .nil => exact .nil
  | .cons h t =>
    rw [immA_cons, Bool.and_eq_true] at e
    exact .cons (Is.imm k h e.1) (IsA.imm k t e.2)
end
end

section
variable {c : Ct} {W W' : Addr → Prop} {H H' : Hp}
mutual
/-- what can change of it stands in H -/
theorem Is.track : ∀ {v : V} {d : D}, Is c W H v d → Is c (fun a => W a ∧ H a ≠ none) H v d
  | _, _, .non => .non
  | _, _, .bl b => .bl b
  | _, _, .int i => .int i
  | _, _, .str x => .str x
  | _, _, .lst h1 h2 h3 => .lst ⟨h1, by rcases h2 with h | ⟨o, h⟩ <;> rw [h] <;> simp⟩ h2 (IsA.track h3)
  | _, _, .lstK h2 h3 => .lstK h2 (IsA.track h3)
  | _, _, .tup h1 h2 => .tup h1 (IsA.track h2)
  | _, _, .dct h1 h2 h3 h4 => .dct ⟨h1, by rw [h2]; simp⟩ h2 h3 (IsA.track h4)
  | _, _, .land h1 h2 => .land h1 fun x hx => ⟨h2 x hx, by
      obtain ⟨dx, g, od, rs, e1, e2, e3, e4, rfl⟩ := h1
      rcases (by simpa using hx : _ ∨ x = g ∨ x = od ∨ x ∈ rs) with e | e | e | e
      · rw [e, e1]; simp
      · rw [e, e2]; simp
      · rw [e, e3]; simp
      · have : ∀ {rs : List Addr} {gg : List (List (Option Int))}, Paired (fun r row => H r = some (.lst (rowV row))) rs gg → x ∈ rs → H x ≠ none := by
          intro rs gg p hm
          induction p with
          | nil => simp at hm
          | cons h t ih =>
            rcases List.mem_cons.mp hm with e | hm
            · rw [e, h]; simp
            · exact ih hm
        exact this e4 e⟩
  | _, _, .pile h1 h2 h3 h4 h5 => .pile ⟨h1, by rw [h3]; simp⟩ ⟨h2, by rw [h4]; simp⟩ h3 h4 (IsA.track h5)
  | _, _, .raw h1 h2 => .raw ⟨h1, by rw [h2]; simp⟩ h2
theorem IsA.track : ∀ {vs : List V} {ds : List D}, IsA c W H vs ds → IsA c (fun a => W a ∧ H a ≠ none) H vs ds
  | _, _, .nil => .nil
  | _, _, .cons h t => .cons (Is.track h) (IsA.track t)
end
end

/-! ### data as the library's data -/
mutual
def toPy : D → PyData
  | .non => .none
  | .bl b => .bool b
  | .int i => .int i
  | .str s => .str s
  | .lst l => .list (toPyA l)
  | .tup l => .tuple (toPyA l)
  | .dct _ => .dict []
  | .land _ => .dict []
  | .pile _ => .dict []
  | .raw => .dict []
def toPyA : List D → List PyData
  | [] => []
  | d :: ds => toPy d :: toPyA ds
end
@[simp] theorem toPy_non : toPy .non = .none := by simp only [toPy]
@[simp] theorem toPy_bl (b) : toPy (.bl b) = .bool b := by simp only [toPy]
@[simp] theorem toPy_int (b) : toPy (.int b) = .int b := by simp only [toPy]
@[simp] theorem toPy_str (b) : toPy (.str b) = .str b := by simp only [toPy]
@[simp] theorem toPy_lst (b) : toPy (.lst b) = .list (toPyA b) := by simp only [toPy]
@[simp] theorem toPy_tup (b) : toPy (.tup b) = .tuple (toPyA b) := by simp only [toPy]
@[simp] theorem toPy_dct (b) : toPy (.dct b) = .dict [] := by simp only [toPy]
@[simp] theorem toPy_land (b) : toPy (.land b) = .dict [] := by simp only [toPy]
@[simp] theorem toPy_pile (b) : toPy (.pile b) = .dict [] := by simp only [toPy]
@[simp] theorem toPy_raw : toPy .raw = .dict [] := by simp only [toPy]
theorem toPyA_map : ∀ l, toPyA l = l.map toPy
  | [] => by simp only [toPyA, List.map_nil]
  | d :: ds => by simp only [toPyA, List.map_cons, toPyA_map ds]
section
variable {c : Ct} {W W' : Addr → Prop} {H H' : Hp}
mutual
theorem Is.dp : ∀ {v : V} {d : D}, Is c W H v d → (toPy d).canLay0 = true → Dp c.K H v (toPy d)
  | _, _, .non, _ => by rw [toPy_non]; exact .non
  | _, _, .bl b, _ => by rw [toPy_bl]; exact .bl b
  | _, _, .int i, _ => by rw [toPy_int]; exact .int i
  | _, _, .str x, _ => by rw [toPy_str]; exact .str x
  | _, _, .lst h1 h2 h3, e => by
    rw [toPy_lst] at e ⊢
    simp only [PyData.canLay0] at e
    exact .lst (.inl h2) (IsA.dp h3 e)
  | _, _, .lstK h2 h3, e => by
    rw [toPy_lst] at e ⊢
    simp only [PyData.canLay0] at e
    exact .lst (.inr h2) (IsA.dp h3 e)
  | _, _, .tup h1 h2, e => by
    rw [toPy_tup] at e ⊢
    simp only [PyData.canLay0] at e
    exact .tup (.of h1) (IsA.dp h2 e)
  | _, _, .dct _ _ _ _, e => by rw [toPy_dct] at e; simp only [PyData.canLay0] at e; cases e
  | _, _, .land _ _, e => by rw [toPy_land] at e; simp only [PyData.canLay0] at e; cases e
  | _, _, .pile _ _ _ _ _, e => by rw [toPy_pile] at e; simp only [PyData.canLay0] at e; cases e
  | _, _, .raw _ _, e => by rw [toPy_raw] at e; simp only [PyData.canLay0] at e; cases e
theorem IsA.dp : ∀ {vs : List V} {ds : List D}, IsA c W H vs ds → PyData.canLayAll0 (toPyA ds) = true → DpAll c.K H vs (toPyA ds)
  | _, _, .nil, _ => by simp only [toPyA]; exact .nil
  | _, _, .cons h t, e => by
    simp only [toPyA, PyData.canLayAll0, Bool.and_eq_true] at e ⊢
    exact .cons (Is.dp h e.1) (IsA.dp t e.2)
end
end

/-! ### what is owned -/
inductive Sh where
  | fz
  | l (s : Sh)
  | d
  | land
  | pile
  | m
  | tl
  deriving DecidableEq
inductive P3 (P : V → D → List Addr → Prop) : List V → List D → List (List Addr) → Prop
  | nil : P3 P [] [] []
  | cons {v vs d ds F Fs} : P v d F → P3 P vs ds Fs → P3 P (v :: vs) (d :: ds) (F :: Fs)
/-- v is d, and the objects F are its own -/
def Own (c : Ct) (W : Addr → Prop) (H : Hp) : Sh → V → D → List Addr → Prop
  | .fz, v, d, F => F = [] ∧ Is c W H v d
  | .l s, v, d, F => ∃ (a : Addr) (xs : List V) (ds : List D) (Gs : List (List Addr)), v = .ref a ∧ d = .lst ds ∧ H a = some (.lst xs) ∧ P3 (Own c W H s) xs ds Gs ∧ F = a :: Gs.flatten
  | .d, v, d, F => ∃ (a : Addr) (ks : List (List Key)) (vs : List V) (ds : List D), v = .ref a ∧ d = .dct (ks.zip ds) ∧ H a = some (.dT (ks.zip vs)) ∧ vs.length = ks.length ∧ IsA c W H vs ds ∧ F = [a]
  | .land, v, d, F => ∃ (a : Addr), v = .ref a ∧ ((∃ (L : LandD), d = .land L ∧ LandAt c H a L F) ∨ (∃ dx, d = .raw ∧ H a = some (.ins c.CL dx []) ∧ F = [a]))
  | .pile, v, d, F => ∃ (a : Addr), v = .ref a ∧ ((∃ (dx r : Addr) (xs : List V) (ds : List D), d = .pile ds ∧ H a = some (.ins c.CP dx [("row", .ref r)]) ∧ H r = some (.lst xs) ∧ IsA c W H xs ds ∧ F = [a, r]) ∨ (∃ dx, d = .raw ∧ H a = some (.ins c.CP dx []) ∧ F = [a]))
  | .m, v, d, F => (F = [] ∧ d.imm = true ∧ Is c W H v d) ∨ ∃ (a : Addr) (xs : List V) (ds : List D), v = .ref a ∧ d = .lst ds ∧ H a = some (.lst xs) ∧ IsA c W H xs ds ∧ F = [a]
  | .tl, v, d, F => ∃ (t a : Addr) (xs : List V) (ds : List D) (vs : List V) (es : List D), v = .ref t ∧ d = .tup (.lst ds :: es) ∧ H t = some (.tup (.ref a :: vs)) ∧ H a = some (.lst xs) ∧ IsA c W H xs ds ∧ IsA c W H vs es ∧ F = [a]
section
variable {c : Ct} {W W' : Addr → Prop} {H H' : Hp} {P P' : V → D → List Addr → Prop}
theorem P3.imp : ∀ {vs ds Fs}, P3 P vs ds Fs → (∀ v d F, F ∈ Fs → P v d F → P' v d F) → P3 P' vs ds Fs
  | _, _, _, .nil, _ => .nil
  | _, _, _, .cons h t, f => .cons (f _ _ _ (by simp) h) (t.imp fun v d F hF => f v d F (by simp [hF]))
theorem P3.toA : ∀ {vs ds Fs}, P3 P vs ds Fs → (∀ v d F, F ∈ Fs → P v d F → Is c W H v d) → IsA c W H vs ds
  | _, _, _, .nil, _ => .nil
  | _, _, _, .cons h t, f => .cons (f _ _ _ (by simp) h) (t.toA fun v d F hF => f v d F (by simp [hF]))
theorem P3.length : ∀ {vs ds Fs}, P3 P vs ds Fs → vs.length = ds.length ∧ Fs.length = ds.length
  | _, _, _, .nil => ⟨rfl, rfl⟩
  | _, _, _, .cons _ t => by simp [t.length.1, t.length.2]
theorem P3.append : ∀ {vs ds Fs us es Gs}, P3 P vs ds Fs → P3 P us es Gs → P3 P (vs ++ us) (ds ++ es) (Fs ++ Gs)
  | _, _, _, _, _, _, .nil, h => h
  | _, _, _, _, _, _, .cons h t, h' => .cons h (t.append h')
theorem P3.get : ∀ {vs ds Fs} {i : Nat} {v : V}, P3 P vs ds Fs → vs[i]? = some v → ∃ d F, ds[i]? = some d ∧ Fs[i]? = some F ∧ P v d F
  | _, _, _, _, _, .nil, e => by simp at e
  | _, _, _, 0, v, .cons h _, e => by simp at e; subst e; exact ⟨_, _, rfl, rfl, h⟩
  | _, _, _, i + 1, v, .cons _ t, e => by
    obtain ⟨d, F, h1, h2, h3⟩ := P3.get (i := i) (v := v) t (by simpa using e)
    exact ⟨d, F, by simpa using h1, by simpa using h2, h3⟩
theorem P3.set {v : V} {d : D} {F : List Addr} (hv : P v d F) : ∀ {vs ds Fs} (i : Nat), P3 P vs ds Fs → P3 P (vs.set i v) (ds.set i d) (Fs.set i F)
  | _, _, _, _, .nil => .nil
  | _, _, _, 0, .cons _ t => .cons hv t
  | _, _, _, i + 1, .cons h t => .cons h (P3.set hv i t)
theorem IsA.toP3 : ∀ {vs ds}, IsA c W H vs ds → ∃ Gs, P3 (Own c W H .fz) vs ds Gs ∧ Gs.flatten = []
  | _, _, .nil => ⟨[], .nil, rfl⟩
  | _, _, .cons h t => by
    obtain ⟨Gs, h1, h2⟩ := IsA.toP3 t
    exact ⟨[] :: Gs, .cons ⟨rfl, h⟩ h1, by simpa using h2⟩
theorem P3.ofFz : ∀ {vs ds Fs}, P3 (Own c W H .fz) vs ds Fs → IsA c W H vs ds ∧ Fs.flatten = []
  | _, _, _, .nil => ⟨.nil, rfl⟩
  | _, _, _, .cons h t => ⟨.cons h.2 t.ofFz.1, by
    have e1 := h.1
    have e2 := t.ofFz.2
    subst e1
    simpa using e2⟩
theorem mem_flat {Gs : List (List Addr)} {G : List Addr} (h : G ∈ Gs) {x : Addr} (hx : x ∈ G) : x ∈ Gs.flatten := List.mem_flatten.mpr ⟨G, h, hx⟩
theorem Own.mono (w : ∀ a, W a → W' a) : ∀ {s : Sh} {v : V} {d : D} {F : List Addr}, (∀ a o, (W a ∨ a ∈ F ∨ sta o) → H a = some o → H' a = some o) → Own c W H s v d F → Own c W' H' s v d F
  | .fz, v, d, F, k, ⟨e, h⟩ => ⟨e, h.mono w fun a o x => k a o (x.elim .inl fun y => .inr (.inr y))⟩
  | .l s, v, d, F, k, ⟨a, xs, ds, Gs, e1, e2, h1, h2, e3⟩ => by
    subst e3
    refine ⟨a, xs, ds, Gs, e1, e2, k _ _ (.inr (.inl (by simp))) h1, h2.imp fun v d F hF h => ?_, rfl⟩
    exact Own.mono w (fun b o x => k b o (by
      rcases x with x | x | x
      · exact .inl x
      · exact .inr (.inl (List.mem_cons_of_mem _ (mem_flat hF x)))
      · exact .inr (.inr x))) h
  | .d, v, d, F, k, ⟨a, ks, vs, ds, e1, e2, h1, h2, h3, e3⟩ => by
    subst e3
    exact ⟨a, ks, vs, ds, e1, e2, k _ _ (.inr (.inl (by simp))) h1, h2, h3.mono w fun a o x => k a o (x.elim .inl fun y => .inr (.inr y)), rfl⟩
  | .land, v, d, F, k, ⟨a, e1, .inl ⟨L, e2, h⟩⟩ => ⟨a, e1, .inl ⟨L, e2, h.carry fun x hx o => k x o (.inr (.inl hx))⟩⟩
  | .land, v, d, F, k, ⟨a, e1, .inr ⟨dx, e2, h, e3⟩⟩ => by
    subst e3
    exact ⟨a, e1, .inr ⟨dx, e2, k _ _ (.inr (.inl (by simp))) h, rfl⟩⟩
  | .pile, v, d, F, k, ⟨a, e1, .inl ⟨dx, r, xs, ds, e2, h1, h2, h3, e3⟩⟩ => by
    subst e3
    exact ⟨a, e1, .inl ⟨dx, r, xs, ds, e2, k _ _ (.inr (.inl (by simp))) h1, k _ _ (.inr (.inl (by simp))) h2, h3.mono w fun a o x => k a o (x.elim .inl fun y => .inr (.inr y)), rfl⟩⟩
  | .pile, v, d, F, k, ⟨a, e1, .inr ⟨dx, e2, h, e3⟩⟩ => by
    subst e3
    exact ⟨a, e1, .inr ⟨dx, e2, k _ _ (.inr (.inl (by simp))) h, rfl⟩⟩
  | .m, v, d, F, k, .inl ⟨e, hd, h⟩ => .inl ⟨e, hd, h.mono w fun a o x => k a o (x.elim .inl fun y => .inr (.inr y))⟩
  | .m, v, d, F, k, .inr ⟨a, xs, ds, e1, e2, h1, h2, e3⟩ => by
    subst e3
    exact .inr ⟨a, xs, ds, e1, e2, k _ _ (.inr (.inl (by simp))) h1, h2.mono w fun a o x => k a o (x.elim .inl fun y => .inr (.inr y)), rfl⟩
  | .tl, v, d, F, k, ⟨t, a, xs, ds, vs, es, e1, e2, h0, h1, h2, h3, e3⟩ => by
    subst e3
    exact ⟨t, a, xs, ds, vs, es, e1, e2, k _ _ (.inr (.inr trivial)) h0, k _ _ (.inr (.inl (by simp))) h1, h2.mono w fun a o x => k a o (x.elim .inl fun y => .inr (.inr y)), h3.mono w fun a o x => k a o (x.elim .inl fun y => .inr (.inr y)), rfl⟩
/-- what is owned may be read -/
theorem Own.toIs (w : ∀ a, W a → W' a) : ∀ {s : Sh} {v : V} {d : D} {F : List Addr}, (∀ a ∈ F, W' a) → Own c W H s v d F → Is c W' H v d
  | .fz, v, d, F, k, ⟨e, h⟩ => h.mono w fun a o _ x => x
  | .l s, v, d, F, k, ⟨a, xs, ds, Gs, e1, e2, h1, h2, e3⟩ => by
    subst e3 e1 e2
    refine .lst (k _ (by simp)) (.inl h1) (h2.toA fun v d F hF h => Own.toIs w (fun x hx => k x (List.mem_cons_of_mem _ (mem_flat hF hx))) h)
  | .d, v, d, F, k, ⟨a, ks, vs, ds, e1, e2, h1, h2, h3, e3⟩ => by
    subst e3 e1 e2
    exact .dct (k _ (by simp)) h1 h2 (h3.mono w fun a o _ x => x)
  | .land, v, d, F, k, ⟨a, e1, .inl ⟨L, e2, h⟩⟩ => by
    subst e1 e2
    exact .land h k
  | .land, v, d, F, k, ⟨a, e1, .inr ⟨dx, e2, h, e3⟩⟩ => by
    subst e3 e1 e2
    exact .raw (k _ (by simp)) h
  | .pile, v, d, F, k, ⟨a, e1, .inl ⟨dx, r, xs, ds, e2, h1, h2, h3, e3⟩⟩ => by
    subst e3 e1 e2
    exact .pile (k _ (by simp)) (k _ (by simp)) h1 h2 (h3.mono w fun a o _ x => x)
  | .pile, v, d, F, k, ⟨a, e1, .inr ⟨dx, e2, h, e3⟩⟩ => by
    subst e3 e1 e2
    exact .raw (k _ (by simp)) h
  | .m, v, d, F, k, .inl ⟨e, hd, h⟩ => h.mono w fun a o _ x => x
  | .m, v, d, F, k, .inr ⟨a, xs, ds, e1, e2, h1, h2, e3⟩ => by
    subst e3 e1 e2
    exact .lst (k _ (by simp)) (.inl h1) (h2.mono w fun a o _ x => x)
  | .tl, v, d, F, k, ⟨t, a, xs, ds, vs, es, e1, e2, h0, h1, h2, h3, e3⟩ => by
    subst e3 e1 e2
    exact .tup h0 (.cons (.lst (k _ (by simp)) (.inl h1) (h2.mono w fun a o _ x => x)) (h3.mono w fun a o _ x => x))
theorem P3.mem {P : V → D → List Addr → Prop} : ∀ {vs ds Fs} {F : List Addr}, P3 P vs ds Fs → F ∈ Fs → ∃ v d, P v d F
  | _, _, _, _, .nil, h => by simp at h
  | _, _, _, F, .cons (v := v) (d := d) (F := F') h t, hm => by
    rcases List.mem_cons.mp hm with e | hm
    · exact ⟨v, d, by rw [e]; exact h⟩
    · exact t.mem hm
theorem Own.track : ∀ {s : Sh} {v : V} {d : D} {F : List Addr}, Own c W H s v d F → Own c (fun a => W a ∧ H a ≠ none) H s v d F
  | .fz, v, d, F, ⟨e, h⟩ => ⟨e, h.track⟩
  | .l s, v, d, F, ⟨a, xs, ds, Gs, e1, e2, h1, h2, e3⟩ => ⟨a, xs, ds, Gs, e1, e2, h1, h2.imp fun v d F _ h => Own.track h, e3⟩
  | .d, v, d, F, ⟨a, ks, vs, ds, e1, e2, h1, h2, h3, e3⟩ => ⟨a, ks, vs, ds, e1, e2, h1, h2, h3.track, e3⟩
  | .land, v, d, F, h => h
  | .pile, v, d, F, ⟨a, e1, .inl ⟨dx, r, xs, ds, e2, h1, h2, h3, e3⟩⟩ => ⟨a, e1, .inl ⟨dx, r, xs, ds, e2, h1, h2, h3.track, e3⟩⟩
  | .pile, v, d, F, ⟨a, e1, .inr h⟩ => ⟨a, e1, .inr h⟩
  | .m, v, d, F, .inl ⟨e, hd, h⟩ => .inl ⟨e, hd, h.track⟩
  | .m, v, d, F, .inr ⟨a, xs, ds, e1, e2, h1, h2, e3⟩ => .inr ⟨a, xs, ds, e1, e2, h1, h2.track, e3⟩
  | .tl, v, d, F, ⟨t, a, xs, ds, vs, es, e1, e2, h0, h1, h2, h3, e3⟩ => ⟨t, a, xs, ds, vs, es, e1, e2, h0, h1, h2.track, h3.track, e3⟩
/-- an owned object stands, and can change -/
theorem Own.there : ∀ {s : Sh} {v : V} {d : D} {F : List Addr}, Own c W H s v d F → ∀ a ∈ F, ∃ o, H a = some o ∧ ¬ sta o
  | .fz, v, d, F, ⟨e, h⟩, a, ha => by subst e; simp at ha
  | .l s, v, d, F, ⟨b, xs, ds, Gs, e1, e2, h1, h2, e3⟩, a, ha => by
    subst e3
    rcases List.mem_cons.mp ha with e | ha
    · subst e; exact ⟨_, h1, fun z => z⟩
    · obtain ⟨G, hG, hx⟩ := List.mem_flatten.mp ha
      have : ∀ {vs ds Gs}, P3 (Own c W H s) vs ds Gs → G ∈ Gs → ∃ v d, Own c W H s v d G := by
        intro vs ds Gs p hm
        induction p with
        | nil => simp at hm
        | cons h t ih =>
          rcases List.mem_cons.mp hm with e | hm
          · subst e; exact ⟨_, _, h⟩
          · exact ih hm
      obtain ⟨v', d', h'⟩ := this h2 hG
      exact Own.there h' a hx
  | .d, v, d, F, ⟨b, ks, vs, ds, e1, e2, h1, h2, h3, e3⟩, a, ha => by
    subst e3
    have e : a = b := by simpa using ha
    subst e
    exact ⟨_, h1, fun z => z⟩
  | .land, v, d, F, ⟨b, e1, .inr ⟨dx, e2, h1, e3⟩⟩, a, ha => by
    subst e3
    have e : a = b := by simpa using ha
    subst e
    exact ⟨_, h1, fun z => z⟩
  | .pile, v, d, F, ⟨b, e1, .inr ⟨dx, e2, h1, e3⟩⟩, a, ha => by
    subst e3
    have e : a = b := by simpa using ha
    subst e
    exact ⟨_, h1, fun z => z⟩
  | .land, v, d, F, ⟨b, e1, .inl ⟨L, e2, dx, g, od, rs, h1, h2, h3, h4, e3⟩⟩, a, ha => by
    subst e3
    have hm : a = b ∨ a = g ∨ a = od ∨ a ∈ rs := by simpa using ha
    rcases hm with e | e | e | e
    · subst e; exact ⟨_, h1, fun z => z⟩
    · subst e; exact ⟨_, h2, fun z => z⟩
    · subst e; exact ⟨_, h3, fun z => z⟩
    · have : ∀ {rs : List Addr} {gg : List (List (Option Int))}, Paired (fun r row => H r = some (.lst (rowV row))) rs gg → a ∈ rs → ∃ row, H a = some (.lst (rowV row)) := by
        intro rs gg p hm
        induction p with
        | nil => simp at hm
        | cons h t ih =>
          rcases List.mem_cons.mp hm with e | hm
          · subst e; exact ⟨_, h⟩
          · exact ih hm
      obtain ⟨row, hr⟩ := this h4 e
      exact ⟨_, hr, fun z => z⟩
  | .pile, v, d, F, ⟨b, e1, .inl ⟨dx, r, xs, ds, e2, h1, h2, h3, e3⟩⟩, a, ha => by
    subst e3
    have hm : a = b ∨ a = r := by simpa using ha
    rcases hm with e | e
    · subst e; exact ⟨_, h1, fun z => z⟩
    · subst e; exact ⟨_, h2, fun z => z⟩
  | .m, v, d, F, .inl ⟨e, _, _⟩, a, ha => by subst e; simp at ha
  | .m, v, d, F, .inr ⟨b, xs, ds, e1, e2, h1, h2, e3⟩, a, ha => by
    subst e3
    have e : a = b := by simpa using ha
    subst e
    exact ⟨_, h1, fun z => z⟩
  | .tl, v, d, F, ⟨t, b, xs, ds, vs, es, e1, e2, h0, h1, h2, h3, e3⟩, a, ha => by
    subst e3
    have e : a = b := by simpa using ha
    subst e
    exact ⟨_, h1, fun z => z⟩
end
end VS
set_option Elab.async false
set_option linter.all false
set_option maxRecDepth 100000
set_option maxHeartbeats 2000000
/-! VB: expressions by their plain meaning. -/
namespace VS
open PySem L2

abbrev Rho := List (Option D)
abbrev EF := Rho → O D
abbrev TF := Rho → O Bool
abbrev AF := Rho → O (List D)

/-- two regions: what is new (since the def's entry), what may be read without being owned -/
structure Wd where
  n : Addr → Prop
  b : Addr → Prop
  le : ∀ a, n a → b a
def Wd.at (w : Wd) : Nat → Addr → Prop
  | 0 => w.n
  | 1 => w.b
  | _ => fun _ => True
theorem Wd.up (w : Wd) : ∀ {i j : Nat}, i ≤ j → ∀ a, w.at i a → w.at j a
  | 0, 0, _, _, h => h
  | 0, 1, _, a, h => w.le a h
  | 0, _ + 2, _, _, _ => trivial
  | 1, 0, h, _, _ => absurd h (by decide)
  | 1, 1, _, _, h => h
  | 1, _ + 2, _, _, _ => trivial
  | _ + 2, 0, h, _, _ => absurd h (by omega)
  | _ + 2, 1, h, _, _ => absurd h (by omega)
  | _ + 2, _ + 2, _, _, _ => trivial

/-- what a slot is: read at a level of taint; owned (o); an owned parameter (p) -/
inductive Mo where
  | v (al : Nat)
  | o (s : Sh)
  | p (s : Sh)
  deriving DecidableEq
def Mo.tn : Mo → Nat
  | .v al => al
  | _ => 2

def Sl (c : Ct) (M : Nat → Mo) (w : Wd) (H : Hp) (σ : L2.St) (ρ : Rho) : Prop := σ.length = ρ.length ∧ ∀ i d, ρ[i]? = some (some d) → ∃ v, σ[i]? = some (some v) ∧ Is c (w.at (M i).tn) H v d
/-- of the region, or new since H -/
def NW (w : Wd) (al : Nat) (H : Hp) : Addr → Prop := fun a => w.at al a ∨ H a = none

section
variable {c : Ct} {M : Nat → Mo} {w : Wd} {H H' : Hp} {σ : L2.St} {ρ : Rho} {W W' : Addr → Prop}
theorem Is.same {v : V} {d : D} (h : Is c W H v d) (s : Same H H') : Is c W H' v d := h.mono (fun _ x => x) fun a o _ e => s a o e
theorem IsA.same {v : List V} {d : List D} (h : IsA c W H v d) (s : Same H H') : IsA c W H' v d := h.mono (fun _ x => x) fun a o _ e => s a o e
theorem Is.up {v : V} {d : D} (h : Is c W H v d) (w : ∀ a, W a → W' a) : Is c W' H v d := h.mono w fun a o _ e => e
theorem IsA.up {v : List V} {d : List D} (h : IsA c W H v d) (w : ∀ a, W a → W' a) : IsA c W' H v d := h.mono w fun a o _ e => e
theorem Sl.same (h : Sl c M w H σ ρ) (s : Same H H') : Sl c M w H' σ ρ := ⟨h.1, fun i d e => let ⟨v, h1, h2⟩ := h.2 i d e; ⟨v, h1, h2.same s⟩⟩
theorem NW.back (s : Same H H') {al : Nat} : ∀ a, NW w al H' a → NW w al H a := fun a h => h.elim .inl fun z => .inr (s.free z)
theorem NW.up {i j : Nat} (h : i ≤ j) : ∀ a, NW w i H a → NW w j H a := fun a x => x.elim (fun z => .inl (w.up h a z)) .inr
end

theorem takes0N {X : Cx} : L2N.Takes X (fun _ _ _ _ => False) := fun _ _ x => by
  obtain ⟨_, _, _, _, _, _, _, _, _, _, _, _, _, _, _, _, z⟩ := x
  exact z.elim
/-- as Fun.okX, whatever is told of what is let out -/
theorem okG {CX : CXT} {P : Program} {w : World} {K : PySem.W.Frag} {mg : Str → Option Value} {base : Heap} {x qual : Str} {st : Stmt} {f : Addr} {fd : FuncData} {N ps : List Str} {k : Nat} {sp : Sp} (F : Fun K x qual st f fd) (S : FnScope N ps (defScope st)) (len : ∀ vs H Q E, sp vs H Q E → vs.length = ps.length)
    (hbody : ∀ (cdv : Value) (A : Around) (outer : List Env) (s : Shared) (H : Hp) (vs : List V) (Q : VK) (E : XK), Room k (A.deeper (PyProof.Rows.envOfC qual (defScope st) s.heap.objs.size f cdv)) → sp vs H Q E →
      ∃ t, PSs (cxOf CX P w K mg base N qual (defScope st) f cdv A outer s H E) (defBody st) t ∧ t { nx := fun _ H' => Q .non H', rt := Q } (L2.start N vs) H) : FnOk P w K mg base CX (k + 1) f fd ps sp := by
  obtain ⟨oc, od, kV, doc, pm, an, cdv, ct, osl, rfl, lk, hcd⟩ := F.ex
  exact fn_of lk hcd S len fun A outer s H vs Q E hr hsp => hbody cdv A outer s H vs Q E hr hsp
/-- what a rule needs of where it stands -/
structure Cz (X : Cx) (c : Ct) (We : WX) (k : Nat) : Prop where
  K : X.K = c.K
  calm : X.calm = true
  tk : L2N.Takes X We
  hr : Room k X.A
  po : PassesOwn (model X.prog X.w) X.A X.env X.xe

structure VE (X : Cx) (c : Ct) (M : Nat → Mo) (We : WX) (al : Nat) (e : Expr) (f : EF) : Prop where
  ex : ∃ te, PE X e te ∧ ∀ (w : Wd) (σ : L2.St) (H : Hp) (ρ : Rho) (Q : VK), Sl c M w H σ ρ →
    Po (f ρ) (fun d => ∀ v H', Same H H' → Is c (NW w al H) H' v d → Q v H') (fun k => ∀ H', Same H H' → We k none σ H') → te σ H Q
structure VO (X : Cx) (c : Ct) (M : Nat → Mo) (We : WX) (s : Sh) (e : Expr) (f : EF) : Prop where
  ex : ∃ te, PE X e te ∧ ∀ (w : Wd) (σ : L2.St) (H : Hp) (ρ : Rho) (Q : VK), Sl c M w H σ ρ →
    Po (f ρ) (fun d => ∀ v H' F, Same H H' → (∀ a ∈ F, H a = none) → F.Nodup → Own c (fun a => NW w 0 H a ∧ a ∉ F) H' s v d F → Q v H') (fun k => ∀ H', Same H H' → We k none σ H') → te σ H Q
structure VA (X : Cx) (c : Ct) (M : Nat → Mo) (We : WX) (al : Nat) (es : List Expr) (f : AF) : Prop where
  ex : ∃ ta, PA X es ta ∧ ∀ (w : Wd) (σ : L2.St) (H : Hp) (ρ : Rho) (Q : List V → Hp → Prop), Sl c M w H σ ρ →
    Po (f ρ) (fun ds => ∀ vs H', Same H H' → IsA c (NW w al H) H' vs ds → Q vs H') (fun k => ∀ H', Same H H' → We k none σ H') → ta σ H Q
structure VT (X : Cx) (c : Ct) (M : Nat → Mo) (We : WX) (e : Expr) (f : TF) : Prop where
  ex : ∃ tt, PT X e tt ∧ ∀ (w : Wd) (σ : L2.St) (H : Hp) (ρ : Rho) (Q : Bool → Hp → Prop), Sl c M w H σ ρ →
    Po (f ρ) (fun b => ∀ H', Same H H' → Q b H') (fun k => ∀ H', Same H H' → We k none σ H') → tt σ H Q
structure VW (X : Cx) (c : Ct) (M : Nat → Mo) (We : WX) (e : Expr) (f : TF) : Prop where
  ex : ∃ tt, PW X e tt ∧ ∀ (w : Wd) (σ : L2.St) (H : Hp) (ρ : Rho) (Q : Bool → Hp → Prop), Sl c M w H σ ρ →
    Po (f ρ) (fun b => ∀ H', Same H H' → Q b H') (fun k => ∀ H', Same H H' → We k none σ H') → tt σ H Q

/-! ### meanings -/
def eVar (i : Nat) : EF := fun ρ => match ρ[i]? with
  | some (some d) => .ok d
  | _ => .bad
def eC (d : D) : EF := fun _ => .ok d
def e1 (g : D → O D) (f : EF) : EF := fun ρ => (f ρ).bind g
def e2 (g : D → D → O D) (f h : EF) : EF := fun ρ => (f ρ).bind fun x => (h ρ).bind fun y => g x y
def eImm (f : EF) : EF := fun ρ => (f ρ).bind fun d => gd d.imm (.ok d)
def aNil : AF := fun _ => .ok []
def aCons (f : EF) (g : AF) : AF := fun ρ => (f ρ).bind fun x => (g ρ).bind fun xs => .ok (x :: xs)
def eTup (f : AF) : EF := fun ρ => (f ρ).bind fun ds => gd (decide (ds.length ≤ 100000)) (.ok (.tup ds))
def eLst (f : AF) : EF := fun ρ => (f ρ).bind fun ds => gd (decide (ds.length ≤ 100000)) (.ok (.lst ds))
def tE (f : EF) : TF := fun ρ => (f ρ).bind fun d => match d with
  | .bl b => .ok b
  | _ => .bad
def tAndF (f g : TF) : TF := fun ρ => (f ρ).bind fun b => if b = true then g ρ else .ok false
def tOrF (f g : TF) : TF := fun ρ => (f ρ).bind fun b => if b = true then .ok true else g ρ
def tNotF (f : TF) : TF := fun ρ => (f ρ).bind fun b => .ok (!b)
def eB (f : TF) : EF := fun ρ => (f ρ).bind fun b => .ok (.bl b)

section
variable {X : Cx} {c : Ct} {M : Nat → Mo} {We : WX} {al al' : Nat} {e a b : Expr} {f fa fb : EF} {pos : Pos}

theorem VE.up (h : VE X c M We al e f) (l : al ≤ al') : VE X c M We al' e f := by
  obtain ⟨te, p, s⟩ := h.ex
  exact ⟨te, p, fun w σ H ρ Q sl po => s w σ H ρ Q sl (po.imp (fun d _ q v H' hs hi => q v H' hs (hi.up (NW.up l))) fun _ _ q => q)⟩
theorem VO.toE (s : Sh) (h : VO X c M We s e f) : VE X c M We 0 e f := by
  obtain ⟨te, p, so⟩ := h.ex
  refine ⟨te, p, fun w σ H ρ Q sl po => so w σ H ρ Q sl (po.imp (fun d _ q v H' F hs hn _ ho => q v H' hs ?_) fun _ _ q => q)⟩
  exact ho.toIs (fun a x => x.1) fun a ha => .inr (hn a ha)
theorem VE.toO (h : VE X c M We 0 e f) : VO X c M We .fz e f := by
  obtain ⟨te, p, s⟩ := h.ex
  exact ⟨te, p, fun w σ H ρ Q sl po => s w σ H ρ Q sl (po.imp (fun d _ q v H' hs hi => q v H' [] hs (by simp) (by simp) ⟨rfl, hi.up fun a x => ⟨x, by simp⟩⟩) fun _ _ q => q)⟩
theorem ve_imm (h : VE X c M We al e f) : VE X c M We 0 e (eImm f) := by
  obtain ⟨te, p, s⟩ := h.ex
  refine ⟨te, p, fun w σ H ρ Q sl po => s w σ H ρ Q sl ((Po.bind po).imp (fun d _ q v H' hs hi => ?_) fun _ _ q => q)⟩
  obtain ⟨hd, q⟩ := Po.gd q
  exact q v H' hs (hi.imm (fun _ _ _ x => x) hd)
theorem ve_var (i : Nat) {x : Str} (hN : X.N[i]? = some x := by rfl) (hv : Vis X.env.scope x := by first | exact Or.inl rfl | exact Or.inr (Or.inl rfl) | exact Or.inr (Or.inr rfl)) (hd : (x == ("__debug__" : Str)) = false := by decide)
    (hcd : (x == ("__classdict__" : Str)) = false := by decide) : VE X c M We (M i).tn (.Name x pos) (eVar i) := by
  refine ⟨_, pv i hN hv hd hcd, fun w σ H ρ Q sl po => ?_⟩
  unfold eVar at po
  cases hr : ρ[i]? with
  | none => rw [hr] at po; exact po.elim
  | some o =>
    cases o with
    | none => rw [hr] at po; exact po.elim
    | some d =>
      rw [hr] at po
      obtain ⟨v, h1, h2⟩ := sl.2 i d hr
      exact ⟨v, h1, po v H (Same.refl H) (h2.up fun _ x => .inl x)⟩
theorem ve_int {i : Int} {j pos} : VE X c M We 0 (.Constant (.int i) j pos) (eC (.int i)) := ⟨_, pe_int, fun w σ H ρ Q sl po => po _ H (Same.refl H) (.int i)⟩
theorem ve_bl {b : Bool} {j pos} : VE X c M We 0 (.Constant (.bool b) j pos) (eC (.bl b)) := ⟨_, pe_bl, fun w σ H ρ Q sl po => po _ H (Same.refl H) (.bl b)⟩
theorem ve_non {j pos} : VE X c M We 0 (.Constant .none j pos) (eC .non) := ⟨_, pe_non, fun w σ H ρ Q sl po => po _ H (Same.refl H) .non⟩
theorem ve_str {s : Str} {j pos} : VE X c M We 0 (.Constant (.str s) j pos) (eC (.str s)) := ⟨_, pe_str, fun w σ H ρ Q sl po => po _ H (Same.refl H) (.str s)⟩
/-- a module's whole number -/
theorem ve_glob {x : Str} {i : Int} {t : Tok} (hg : Gl X x) (hm : X.mg x = some (.int i t)) (hd : (x == ("__debug__" : Str)) = false := by decide) : VE X c M We 0 (.Name x pos) (eC (.int i)) :=
  ⟨_, pe_glob (v := .int i) hg hm ⟨t, rfl⟩ hd, fun w σ H ρ Q sl po => po _ H (Same.refl H) (.int i)⟩

/-! ### arguments, displays -/
theorem va_nil : VA X c M We al [] aNil := ⟨_, pa_nil, fun w σ H ρ Q sl po => po _ H (Same.refl H) .nil⟩
theorem va_cons {es : List Expr} {fs : AF} (h : VE X c M We al e f) (t : VA X c M We al es fs) (hs : starEach (e :: es) X.env = (false, eval e X.env) :: starEach es X.env := by rfl) : VA X c M We al (e :: es) (aCons f fs) := by
  obtain ⟨te, p, s⟩ := h.ex
  obtain ⟨ta, p', s'⟩ := t.ex
  refine ⟨_, pa_cons p p' hs, fun w σ H ρ Q sl po => s w σ H ρ _ sl ((Po.bind po).imp (fun d _ q v H1 hs hi => ?_) fun _ _ q => q)⟩
  refine s' w σ H1 ρ _ (sl.same hs) ((Po.bind q).imp (fun ds _ q vs H2 hs2 hi2 => ?_) fun _ _ q H2 hs2 => q H2 (hs.trans hs2))
  exact q _ H2 (hs.trans hs2) (.cons (hi.same hs2) (hi2.up (NW.back hs)))
theorem sz_ok {n : Nat} (h : n ≤ 100000) : n ≤ sizeLine := Nat.le_trans h (by decide)
theorem same_new {H H1 : Hp} (s : Same H H1) {p : Addr} {o : HO} (hp : H1 p = none) : Same H (upd H1 p o) := fun b u e => by
  rw [upd_ne (ne_of_none (s b u e) hp)]
  exact s b u e
theorem ve_tup {es : List Expr} {fs : AF} {x1} (t : VA X c M We al es fs) : VE X c M We al (.Tuple es x1 pos) (eTup fs) := by
  obtain ⟨ta, p, s⟩ := t.ex
  refine ⟨_, pe_tup p, fun w σ H ρ Q sl po => s w σ H ρ _ sl ((Po.bind po).imp (fun ds _ q vs H1 hs hi => ?_) fun _ _ q => q)⟩
  obtain ⟨hd, q⟩ := Po.gd q
  refine ⟨sz_ok (by rw [hi.length]; exact of_decide_eq_true hd), fun p hp => q _ _ (same_new hs hp) (.tup upd_same (hi.same (same_new (Same.refl _) hp)))⟩
/-- [..], its items frozen: an own list -/
theorem vo_lst {es : List Expr} {fs : AF} (t : VA X c M We 0 es fs) : VO X c M We (.l .fz) (.List es pos) (eLst fs) := by
  obtain ⟨ta, p, s⟩ := t.ex
  refine ⟨_, pe_lst p, fun w σ H ρ Q sl po => s w σ H ρ _ sl ((Po.bind po).imp (fun ds _ q vs H1 hs hi => ?_) fun _ _ q => q)⟩
  obtain ⟨hd, q⟩ := Po.gd q
  refine ⟨sz_ok (by rw [hi.length]; exact of_decide_eq_true hd), fun p hp => q _ _ [p] (same_new hs hp) (fun a ha => ?_) (by simp) ?_⟩
  · have e : a = p := by simpa using ha
    rw [e]; exact hs.free hp
  · have hi2 : IsA c (fun a => NW w 0 H a ∧ a ∉ [p]) (upd H1 p (.lst vs)) vs ds := (hi.track.up fun a x => ⟨x.1, fun z => x.2 (by have e : a = p := (by simpa using z); rw [e]; exact hp)⟩).same (same_new (Same.refl _) hp)
    obtain ⟨Gs, g1, g2⟩ := hi2.toP3
    exact ⟨p, vs, ds, Gs, rfl, rfl, upd_same, g1, by rw [g2]⟩

/-! ### operators -/
theorem is_int {W : Addr → Prop} {H : Hp} {v : V} {i : Int} (h : Is c W H v (.int i)) : v = .int i := by cases h; rfl
theorem is_str {W : Addr → Prop} {H : Hp} {v : V} {i : Str} (h : Is c W H v (.str i)) : v = .str i := by cases h; rfl
theorem is_bl {W : Addr → Prop} {H : Hp} {v : V} {i : Bool} (h : Is c W H v (.bl i)) : v = .bl i := by cases h; rfl
theorem is_non {W : Addr → Prop} {H : Hp} {v : V} (h : Is c W H v .non) : v = .non := by cases h; rfl
theorem is_lst {W : Addr → Prop} {H : Hp} {v : V} {ds : List D} (h : Is c W H v (.lst ds)) : ∃ a xs, v = .ref a ∧ SqL c.K H a xs ∧ IsA c W H xs ds := by
  cases h with
  | lst h1 h2 h3 => exact ⟨_, _, rfl, .inl h2, h3⟩
  | lstK h2 h3 => exact ⟨_, _, rfl, .inr h2, h3⟩
theorem is_tup {W : Addr → Prop} {H : Hp} {v : V} {ds : List D} (h : Is c W H v (.tup ds)) : ∃ a xs, v = .ref a ∧ H a = some (.tup xs) ∧ IsA c W H xs ds := by
  cases h with
  | tup h1 h2 => exact ⟨_, _, rfl, h1, h2⟩

/-- a rule of two values has this meaning; what it gives can not change -/
def RS (c : Ct) (r : R2) (g : D → D → O D) : Prop := ∀ (W W' : Addr → Prop) (x y : V) (dx dy : D) (H : Hp) (Q : VK) (E : Value → Prop), Is c W H x dx → Is c W' H y dy →
  Po (g dx dy) (fun d => ∀ v H', Same H H' → (∀ Wz, Is c Wz H' v d) → Q v H') E → r x y H Q
theorem ve_r2 {r : R2} {g : D → D → O D} {ee : Expr} (hp : ∀ {ta tb : TE}, PE X a ta → PE X b tb → PE X ee (tOp r ta tb)) (hr : RS c r g) (ha : VE X c M We al a fa) (hb : VE X c M We al' b fb) : VE X c M We 0 ee (e2 g fa fb) := by
  obtain ⟨ta, p, s⟩ := ha.ex
  obtain ⟨tb, p', s'⟩ := hb.ex
  refine ⟨_, hp p p', fun w σ H ρ Q sl po => s w σ H ρ _ sl ((Po.bind po).imp (fun d _ q v H1 hs hi => ?_) fun _ _ q => q)⟩
  refine s' w σ H1 ρ _ (sl.same hs) ((Po.bind q).imp (fun d2 _ q v2 H2 hs2 hi2 => ?_) fun _ _ q H2 hs2 => q H2 (hs.trans hs2))
  exact hr _ _ v v2 d d2 H2 Q _ (hi.same hs2) hi2 (q.imp (fun d3 _ q v3 H3 hs3 hz => q v3 H3 ((hs.trans hs2).trans hs3) (hz _)) fun _ _ q => q)
theorem ve_bin {op : Operator} {r : R2} {g : D → D → O D} (ho : OpR X (binaryOp op) r) (hr : RS c r g) (ha : VE X c M We al a fa) (hb : VE X c M We al' b fb) : VE X c M We 0 (.BinOp a op b pos) (e2 g fa fb) :=
  ve_r2 (fun p p' => pe_op ho p p') hr ha hb
theorem ve_cmp {op : CmpOp} {r : R2} {g : D → D → O D} (ho : OpR X (compareOp op) r) (hr : RS c r g) (ha : VE X c M We al a fa) (hb : VE X c M We al' b fb) (hm : behindInMarks op b = false) : VE X c M We 0 (.Compare a [op] [b] pos) (e2 g fa fb) :=
  ve_r2 (fun p p' => pe_cmpR ho p p' hm) hr ha hb
theorem vt_cmp {op : CmpOp} {r : R2} {g : D → D → O D} (ho : OpR X (compareOp op) r) (hr : RS c r g) (ha : VE X c M We al a fa) (hb : VE X c M We al' b fb) (hm : behindInMarks op b = false) : VT X c M We (.Compare a [op] [b] pos) (tE (e2 g fa fb)) := by
  obtain ⟨ta, p, s⟩ := ha.ex
  obtain ⟨tb, p', s'⟩ := hb.ex
  refine ⟨_, pt_cmpR ho p p' hm, fun w σ H ρ Q sl po => s w σ H ρ _ sl ((Po.bind (Po.bind po)).imp (fun d _ q v H1 hs hi => ?_) fun _ _ q => q)⟩
  refine s' w σ H1 ρ _ (sl.same hs) ((Po.bind q).imp (fun d2 _ q v2 H2 hs2 hi2 => ?_) fun _ _ q H2 hs2 => q H2 (hs.trans hs2))
  refine hr _ _ v v2 d d2 H2 _ _ (hi.same hs2) hi2 (q.imp (fun d3 _ q v3 H3 hs3 hz => ?_) fun _ _ q => q)
  cases d3 with
  | bl k => exact ⟨k, is_bl (hz fun _ => True), q H3 ((hs.trans hs2).trans hs3)⟩
  | _ => exact q.elim

def addD : D → D → O D
  | .int i, .int j => .ok (.int (i + j))
  | .str s, .str t => gd (decide (s.length + t.length ≤ 100000)) (.ok (.str (s ++ t)))
  | _, _ => .bad
def subD : D → D → O D
  | .int i, .int j => .ok (.int (i - j))
  | _, _ => .bad
def mulD : D → D → O D
  | .int i, .int j => gd ((decide (-(2 ^ 64) < i) && decide (i < 2 ^ 64)) || (decide (-(2 ^ 64) < j) && decide (j < 2 ^ 64))) (.ok (.int (i * j)))
  | _, _ => .bad
def modD : D → D → O D
  | .int i, .int j => gd (decide (0 < j)) (.ok (.int (i % j)))
  | _, _ => .bad
def divD : D → D → O D
  | .int i, .int j => gd (decide (0 < j) && decide (j < 1073741824)) (.ok (.int (i / j)))
  | _, _ => .bad
def powD : D → D → O D
  | .int i, .int j => gd (decide (0 ≤ j) && decide (j ≤ 1000) && decide (i.natAbs < 2 ^ 64)) (.ok (.int (i ^ j.toNat)))
  | _, _ => .bad
def cmpI (p : Int → Int → Bool) : D → D → O D
  | .int i, .int j => .ok (.bl (p i j))
  | _, _ => .bad
@[simp] theorem addD_int (i j : Int) : addD (.int i) (.int j) = .ok (.int (i + j)) := rfl
@[simp] theorem addD_str (s t : Str) : addD (.str s) (.str t) = gd (decide (s.length + t.length ≤ 100000)) (.ok (.str (s ++ t))) := rfl
@[simp] theorem subD_int (i j : Int) : subD (.int i) (.int j) = .ok (.int (i - j)) := rfl
@[simp] theorem mulD_int (i j : Int) : mulD (.int i) (.int j) = gd ((decide (-(2 ^ 64) < i) && decide (i < 2 ^ 64)) || (decide (-(2 ^ 64) < j) && decide (j < 2 ^ 64))) (.ok (.int (i * j))) := rfl
@[simp] theorem modD_int (i j : Int) : modD (.int i) (.int j) = gd (decide (0 < j)) (.ok (.int (i % j))) := rfl
@[simp] theorem divD_int (i j : Int) : divD (.int i) (.int j) = gd (decide (0 < j) && decide (j < 1073741824)) (.ok (.int (i / j))) := rfl
@[simp] theorem cmpI_int (p : Int → Int → Bool) (i j : Int) : cmpI p (.int i) (.int j) = .ok (.bl (p i j)) := rfl
theorem rs_add : RS c (fun x y H Q => rI0 (fun i j => .int (i + j)) x y H Q ∨ (∃ i j, x = .str i ∧ y = .str j ∧ i.length + j.length ≤ sizeLine ∧ Q (.str (i ++ j)) H)) addD := by
  intro W W' x y dx dy H Q E hx hy po
  unfold addD at po
  split at po
  · rw [is_int hx, is_int hy]; exact .inl ⟨_, _, rfl, rfl, po _ H (Same.refl H) fun _ => .int _⟩
  · obtain ⟨hl, po⟩ := Po.gd po
    rw [is_str hx, is_str hy]; exact .inr ⟨_, _, rfl, rfl, sz_ok (of_decide_eq_true hl), po _ H (Same.refl H) fun _ => .str _⟩
  · exact po.elim
theorem rs_sub : RS c (rI0 fun i j => .int (i - j)) subD := by
  intro W W' x y dx dy H Q E hx hy po
  unfold subD at po
  split at po
  · rw [is_int hx, is_int hy]; exact ⟨_, _, rfl, rfl, po _ H (Same.refl H) fun _ => .int _⟩
  · exact po.elim
theorem rs_mul : RS c (rI CMul fun i j => .int (i * j)) mulD := by
  intro W W' x y dx dy H Q E hx hy po
  unfold mulD at po
  split at po
  · obtain ⟨hl, po⟩ := Po.gd po
    rw [is_int hx, is_int hy]
    refine ⟨_, _, rfl, rfl, ?_, po _ H (Same.refl H) fun _ => .int _⟩
    simpa [CMul] using hl
  · exact po.elim
theorem rs_mod : RS c (rI (fun _ j => 0 < j) fun i j => .int (i % j)) modD := by
  intro W W' x y dx dy H Q E hx hy po
  unfold modD at po
  split at po
  · obtain ⟨hl, po⟩ := Po.gd po
    rw [is_int hx, is_int hy]
    exact ⟨_, _, rfl, rfl, of_decide_eq_true hl, po _ H (Same.refl H) fun _ => .int _⟩
  · exact po.elim
theorem rs_div : RS c (rI CDiv fun i j => .int (i / j)) divD := by
  intro W W' x y dx dy H Q E hx hy po
  unfold divD at po
  split at po
  · obtain ⟨hl, po⟩ := Po.gd po
    rw [is_int hx, is_int hy]
    refine ⟨_, _, rfl, rfl, ?_, po _ H (Same.refl H) fun _ => .int _⟩
    simpa [CDiv] using hl
  · exact po.elim
theorem rs_pow : RS c (rI CPow fun i j => .int (i ^ j.toNat)) powD := by
  intro W W' x y dx dy H Q E hx hy po
  unfold powD at po
  split at po
  · obtain ⟨hl, po⟩ := Po.gd po
    rw [is_int hx, is_int hy]
    refine ⟨_, _, rfl, rfl, ?_, po _ H (Same.refl H) fun _ => .int _⟩
    simp only [Bool.and_eq_true, decide_eq_true_eq] at hl
    exact ⟨hl.1.1, by omega, hl.2⟩
  · exact po.elim
theorem rs_cmpI {p : Int → Int → Bool} : RS c (rI0 fun i j => .bl (p i j)) (cmpI p) := by
  intro W W' x y dx dy H Q E hx hy po
  unfold cmpI at po
  split at po
  · rw [is_int hx, is_int hy]; exact ⟨_, _, rfl, rfl, po _ H (Same.refl H) fun _ => .bl _⟩
  · exact po.elim
theorem ve_add (ha : VE X c M We al a fa) (hb : VE X c M We al' b fb) : VE X c M We 0 (.BinOp a .Add b pos) (e2 addD fa fb) := ve_bin (op_add.or op_add_str) rs_add ha hb
theorem ve_sub (ha : VE X c M We al a fa) (hb : VE X c M We al' b fb) : VE X c M We 0 (.BinOp a .Sub b pos) (e2 subD fa fb) := ve_bin op_sub rs_sub ha hb
theorem ve_mul (ha : VE X c M We al a fa) (hb : VE X c M We al' b fb) : VE X c M We 0 (.BinOp a .Mult b pos) (e2 mulD fa fb) := ve_bin op_mul rs_mul ha hb
theorem ve_mod (ha : VE X c M We al a fa) (hb : VE X c M We al' b fb) : VE X c M We 0 (.BinOp a .Mod b pos) (e2 modD fa fb) := ve_bin op_mod rs_mod ha hb
theorem ve_div (ha : VE X c M We al a fa) (hb : VE X c M We al' b fb) : VE X c M We 0 (.BinOp a .FloorDiv b pos) (e2 divD fa fb) := ve_bin op_fdiv rs_div ha hb
theorem ve_pow (ha : VE X c M We al a fa) (hb : VE X c M We al' b fb) : VE X c M We 0 (.BinOp a .Pow b pos) (e2 powD fa fb) := ve_bin op_pow rs_pow ha hb
abbrev ltD : D → D → O D := cmpI fun i j => decide (i < j)
abbrev leD : D → D → O D := cmpI fun i j => decide (i ≤ j)
abbrev gtD : D → D → O D := cmpI fun i j => decide (j < i)
abbrev geD : D → D → O D := cmpI fun i j => decide (j ≤ i)
theorem vt_lt (ha : VE X c M We al a fa) (hb : VE X c M We al' b fb) : VT X c M We (.Compare a [.Lt] [b] pos) (tE (e2 ltD fa fb)) := vt_cmp op_lt rs_cmpI ha hb (nomark _)
theorem vt_le (ha : VE X c M We al a fa) (hb : VE X c M We al' b fb) : VT X c M We (.Compare a [.LtE] [b] pos) (tE (e2 leD fa fb)) := vt_cmp op_le rs_cmpI ha hb (nomark _)
theorem vt_gt (ha : VE X c M We al a fa) (hb : VE X c M We al' b fb) : VT X c M We (.Compare a [.Gt] [b] pos) (tE (e2 gtD fa fb)) := vt_cmp op_gt rs_cmpI ha hb (nomark _)
theorem vt_ge (ha : VE X c M We al a fa) (hb : VE X c M We al' b fb) : VT X c M We (.Compare a [.GtE] [b] pos) (tE (e2 geD fa fb)) := vt_cmp op_ge rs_cmpI ha hb (nomark _)
theorem ve_lt (ha : VE X c M We al a fa) (hb : VE X c M We al' b fb) : VE X c M We 0 (.Compare a [.Lt] [b] pos) (e2 ltD fa fb) := ve_cmp op_lt rs_cmpI ha hb (nomark _)
theorem ve_le (ha : VE X c M We al a fa) (hb : VE X c M We al' b fb) : VE X c M We 0 (.Compare a [.LtE] [b] pos) (e2 leD fa fb) := ve_cmp op_le rs_cmpI ha hb (nomark _)
theorem ve_gt (ha : VE X c M We al a fa) (hb : VE X c M We al' b fb) : VE X c M We 0 (.Compare a [.Gt] [b] pos) (e2 gtD fa fb) := ve_cmp op_gt rs_cmpI ha hb (nomark _)
theorem ve_ge (ha : VE X c M We al a fa) (hb : VE X c M We al' b fb) : VE X c M We 0 (.Compare a [.GtE] [b] pos) (e2 geD fa fb) := ve_cmp op_ge rs_cmpI ha hb (nomark _)

/-! ### == and != of data -/
def eqD (neg : Bool) (x y : D) : O D := gd (SeqAt.shaped (toPy x) && SeqAt.shaped (toPy y)) (.ok (.bl (neg != PyData.eqv (toPy x) (toPy y))))
theorem rs_eq : RS c (rEqD c.K) (eqD false) := by
  intro W W' x y dx dy H Q E hx hy po
  obtain ⟨hl, po⟩ := Po.gd po
  rw [Bool.and_eq_true] at hl
  exact ⟨_, _, hx.dp (SeqAt.canLay_of_shaped hl.1), hy.dp (SeqAt.canLay_of_shaped hl.2), hl.1, hl.2, po _ H (Same.refl H) fun _ => by rw [Bool.false_bne]; exact .bl _⟩
theorem rs_ne : RS c (rNeD c.K) (eqD true) := by
  intro W W' x y dx dy H Q E hx hy po
  obtain ⟨hl, po⟩ := Po.gd po
  rw [Bool.and_eq_true] at hl
  exact ⟨_, _, hx.dp (SeqAt.canLay_of_shaped hl.1), hy.dp (SeqAt.canLay_of_shaped hl.2), hl.1, hl.2, po _ H (Same.refl H) fun _ => by rw [Bool.true_bne]; exact .bl _⟩
section
variable {k : Nat}
theorem vt_eq (z : Cz X c We k) (ha : VE X c M We al a fa) (hb : VE X c M We al' b fb) : VT X c M We (.Compare a [.Eq] [b] pos) (tE (e2 (eqD false) fa fb)) := vt_cmp (op_eqD z.hr.units) (by rw [z.K]; exact rs_eq) ha hb (nomark _)
theorem vt_ne (z : Cz X c We k) (ha : VE X c M We al a fa) (hb : VE X c M We al' b fb) : VT X c M We (.Compare a [.NotEq] [b] pos) (tE (e2 (eqD true) fa fb)) := vt_cmp (op_neD z.hr.units) (by rw [z.K]; exact rs_ne) ha hb (nomark _)
theorem ve_eq (z : Cz X c We k) (ha : VE X c M We al a fa) (hb : VE X c M We al' b fb) : VE X c M We 0 (.Compare a [.Eq] [b] pos) (e2 (eqD false) fa fb) := ve_cmp (op_eqD z.hr.units) (by rw [z.K]; exact rs_eq) ha hb (nomark _)
theorem ve_ne (z : Cz X c We k) (ha : VE X c M We al a fa) (hb : VE X c M We al' b fb) : VE X c M We 0 (.Compare a [.NotEq] [b] pos) (e2 (eqD true) fa fb) := ve_cmp (op_neD z.hr.units) (by rw [z.K]; exact rs_ne) ha hb (nomark _)
end

/-! ### is None, is True -/
def isND (neg : Bool) (d e : D) : O D := match e with
  | .non => match d with
    | .non => .ok (.bl !neg)
    | _ => .ok (.bl neg)
  | .bl b => match d with
    | .bl a => .ok (.bl (neg != decide (a = b)))
    | _ => .bad
  | _ => .bad
theorem is_nonb {W : Addr → Prop} {H : Hp} {v : V} {d : D} (h : Is c W H v d) : decide (v = .non) = (match d with | .non => true | _ => false) := by
  cases h <;> simp
theorem rs_is : RS c (fun x y H Q => (y = .non ∧ Q (.bl (decide (x = .non))) H) ∨ rIsB x y H Q) (isND false) := by
  intro W W' x y dx dy H Q E hx hy po
  cases dy with
  | non =>
    refine .inl ⟨is_non hy, ?_⟩
    rw [is_nonb hx]
    cases dx <;> exact po _ H (Same.refl H) fun _ => .bl _
  | bl b =>
    cases dx with
    | bl a =>
      refine .inr ⟨a, b, is_bl hx, is_bl hy, po _ H (Same.refl H) fun _ => ?_⟩
      rw [Bool.false_bne]; exact .bl _
    | _ => exact po.elim
  | _ => exact po.elim
theorem rs_isnt : RS c (fun x y H Q => (y = .non ∧ Q (.bl (!decide (x = .non))) H) ∨ rNotB x y H Q) (isND true) := by
  intro W W' x y dx dy H Q E hx hy po
  cases dy with
  | non =>
    refine .inl ⟨is_non hy, ?_⟩
    rw [is_nonb hx]
    cases dx <;> exact po _ H (Same.refl H) fun _ => .bl _
  | bl b =>
    cases dx with
    | bl a =>
      refine .inr ⟨a, b, is_bl hx, is_bl hy, po _ H (Same.refl H) fun _ => ?_⟩
      rw [Bool.true_bne]; exact .bl _
    | _ => exact po.elim
  | _ => exact po.elim
theorem vt_is (ha : VE X c M We al a fa) (hb : VE X c M We al' b fb) : VT X c M We (.Compare a [.Is] [b] pos) (tE (e2 (isND false) fa fb)) := vt_cmp (op_isN.or op_isBl) rs_is ha hb (nomark _)
theorem vt_isnt (ha : VE X c M We al a fa) (hb : VE X c M We al' b fb) : VT X c M We (.Compare a [.IsNot] [b] pos) (tE (e2 (isND true) fa fb)) := vt_cmp (op_notN.or op_notBl) rs_isnt ha hb (nomark _)
theorem ve_is (ha : VE X c M We al a fa) (hb : VE X c M We al' b fb) : VE X c M We 0 (.Compare a [.Is] [b] pos) (e2 (isND false) fa fb) := ve_cmp (op_isN.or op_isBl) rs_is ha hb (nomark _)
theorem ve_isnt (ha : VE X c M We al a fa) (hb : VE X c M We al' b fb) : VE X c M We 0 (.Compare a [.IsNot] [b] pos) (e2 (isND true) fa fb) := ve_cmp (op_notN.or op_notBl) rs_isnt ha hb (nomark _)

/-! ### a < b < c of whole numbers -/
def eChain (p q : Int → Int → Bool) (fa fb fc : EF) : EF := fun ρ => (fa ρ).bind fun x => (fb ρ).bind fun y => match x, y with
  | .int i, .int j => if p i j = true then (fc ρ).bind fun z => match z with
      | .int k => .ok (.bl (q j k))
      | _ => .bad
    else .ok (.bl false)
  | _, _ => .bad
end
end VS
set_option Elab.async false
set_option linter.all false
set_option maxRecDepth 100000
set_option maxHeartbeats 2000000
/-! VC: chains, tests, built-in calls, indices, calls of defs. -/
namespace VS
open PySem L2
section
variable {X : Cx} {c : Ct} {M : Nat → Mo} {We : WX} {al al' al'' k : Nat} {e a b d : Expr} {f fa fb fc : EF} {pos : Pos} {t t' : TF}

theorem chain_sound {r r' : R2} {p q : Int → Int → Bool} (hr : r = rI0 fun i j => .bl (p i j)) (hr' : r' = rI0 fun i j => .bl (q i j)) {ta tb tc : TE} {w : Wd} {σ : L2.St} {H : Hp} {ρ : Rho} {Q : VK} (sl : Sl c M w H σ ρ)
    (sa : ∀ (w : Wd) (σ : L2.St) (H : Hp) (ρ : Rho) (Q : VK), Sl c M w H σ ρ → Po (fa ρ) (fun d => ∀ v H', Same H H' → Is c (NW w al H) H' v d → Q v H') (fun k => ∀ H', Same H H' → We k none σ H') → ta σ H Q)
    (sb : ∀ (w : Wd) (σ : L2.St) (H : Hp) (ρ : Rho) (Q : VK), Sl c M w H σ ρ → Po (fb ρ) (fun d => ∀ v H', Same H H' → Is c (NW w al' H) H' v d → Q v H') (fun k => ∀ H', Same H H' → We k none σ H') → tb σ H Q)
    (sc : ∀ (w : Wd) (σ : L2.St) (H : Hp) (ρ : Rho) (Q : VK), Sl c M w H σ ρ → Po (fc ρ) (fun d => ∀ v H', Same H H' → Is c (NW w al'' H) H' v d → Q v H') (fun k => ∀ H', Same H H' → We k none σ H') → tc σ H Q)
    (po : Po (eChain p q fa fb fc ρ) (fun d => ∀ H', Same H H' → ∀ k, d = .bl k → Q (.bl k) H') (fun k => ∀ H', Same H H' → We k none σ H')) : tChain r r' ta tb tc σ H Q := by
  subst hr hr'
  refine sa w σ H ρ _ sl ((Po.bind po).imp (fun d _ q1 v H1 hs hi => ?_) fun _ _ q => q)
  refine sb w σ H1 ρ _ (sl.same hs) ((Po.bind q1).imp (fun d2 _ q2 v2 H2 hs2 hi2 => ?_) fun _ _ q H2 hs2 => q H2 (hs.trans hs2))
  cases d with
  | int i =>
    cases d2 with
    | int j =>
      rw [is_int hi, is_int hi2]
      refine ⟨i, j, rfl, rfl, _, rfl, ?_⟩
      by_cases h : p i j = true
      · have q2 : Po (α := D) (if p i j = true then (fc ρ).bind fun z => match z with | .int k => .ok (.bl (q j k)) | _ => .bad else .ok (.bl false)) _ _ := q2
        rw [if_pos h] at q2
        rw [if_pos h]
        refine sc w σ H2 ρ _ (sl.same (hs.trans hs2)) ((Po.bind q2).imp (fun d3 _ q3 v3 H3 hs3 hi3 => ?_) fun _ _ q H3 hs3 => q H3 ((hs.trans hs2).trans hs3))
        cases d3 with
        | int l =>
          rw [is_int hi3]
          exact ⟨j, l, rfl, rfl, q3 H3 ((hs.trans hs2).trans hs3) _ rfl⟩
        | _ => exact q3.elim
      · have q2 : Po (α := D) (if p i j = true then (fc ρ).bind fun z => match z with | .int k => .ok (.bl (q j k)) | _ => .bad else .ok (.bl false)) _ _ := q2
        rw [if_neg h] at q2
        rw [if_neg h]
        exact q2 H2 (hs.trans hs2) _ rfl
    | _ => exact q2.elim
  | _ => cases d2 <;> exact q2.elim
theorem chain_bl {p q : Int → Int → Bool} {ρ : Rho} {d : D} (h : eChain p q fa fb fc ρ = .ok d) : ∃ k, d = .bl k := by
  unfold eChain at h
  cases ea : fa ρ with
  | ok x =>
    cases eb : fb ρ with
    | ok y =>
      rw [ea, eb] at h
      simp only [O.bind_ok] at h
      cases x with
      | int i =>
        cases y with
        | int j =>
          simp only at h
          split at h
          · cases ec : fc ρ with
            | ok z =>
              rw [ec] at h
              simp only [O.bind_ok] at h
              cases z with
              | int l => simp only [O.ok.injEq] at h; exact ⟨_, h.symm⟩
              | _ => cases h
            | bad => rw [ec] at h; cases h
            | exc k => rw [ec] at h; cases h
          · simp only [O.ok.injEq] at h; exact ⟨_, h.symm⟩
        | _ => cases h
      | _ => cases h
    | bad => rw [ea, eb] at h; cases h
    | exc k => rw [ea, eb] at h; cases h
  | bad => rw [ea] at h; cases h
  | exc k => rw [ea] at h; cases h
theorem ve_chain {op op' : CmpOp} {p q : Int → Int → Bool} (ho : OpR X (compareOp op) (rI0 fun i j => .bl (p i j))) (ho' : OpR X (compareOp op') (rI0 fun i j => .bl (q i j))) (ha : VE X c M We al a fa) (hb : VE X c M We al' b fb) (hc : VE X c M We al'' d fc)
    (hm : lastMarks [op, op'] [b, d] = false := by with_unfolding_all rfl) : VE X c M We 0 (.Compare a [op, op'] [b, d] pos) (eChain p q fa fb fc) := by
  obtain ⟨ta, pa, sa⟩ := ha.ex
  obtain ⟨tb, pb, sb⟩ := hb.ex
  obtain ⟨tc, pc, sc⟩ := hc.ex
  refine ⟨_, pe_chain ho ho' pa pb pc hm, fun w σ H ρ Q sl po => chain_sound rfl rfl sl sa sb sc (po.imp (fun d _ q H' hs k e => ?_) fun _ _ q => q)⟩
  subst e
  exact q _ H' hs (.bl _)
theorem vt_chain {op op' : CmpOp} {p q : Int → Int → Bool} (ho : OpR X (compareOp op) (rI0 fun i j => .bl (p i j))) (ho' : OpR X (compareOp op') (rI0 fun i j => .bl (q i j))) (ha : VE X c M We al a fa) (hb : VE X c M We al' b fb) (hc : VE X c M We al'' d fc)
    (hm : lastMarks [op, op'] [b, d] = false := by with_unfolding_all rfl) : VT X c M We (.Compare a [op, op'] [b, d] pos) (tE (eChain p q fa fb fc)) := by
  obtain ⟨ta, pa, sa⟩ := ha.ex
  obtain ⟨tb, pb, sb⟩ := hb.ex
  obtain ⟨tc, pc, sc⟩ := hc.ex
  refine ⟨_, pt_chain ho ho' pa pb pc hm, fun w σ H ρ Q sl po => chain_sound rfl rfl sl sa sb sc ((Po.bind po).imp (fun d _ q H' hs k e => ?_) fun _ _ q => q)⟩
  subst e
  exact ⟨k, rfl, q H' hs⟩
theorem ve_leLt (ha : VE X c M We al a fa) (hb : VE X c M We al' b fb) (hc : VE X c M We al'' d fc) (hm : lastMarks [.LtE, .Lt] [b, d] = false := by with_unfolding_all rfl) :
    VE X c M We 0 (.Compare a [.LtE, .Lt] [b, d] pos) (eChain (fun i j => decide (i ≤ j)) (fun i j => decide (i < j)) fa fb fc) := ve_chain op_le op_lt ha hb hc hm
theorem vt_leLt (ha : VE X c M We al a fa) (hb : VE X c M We al' b fb) (hc : VE X c M We al'' d fc) (hm : lastMarks [.LtE, .Lt] [b, d] = false := by with_unfolding_all rfl) :
    VT X c M We (.Compare a [.LtE, .Lt] [b, d] pos) (tE (eChain (fun i j => decide (i ≤ j)) (fun i j => decide (i < j)) fa fb fc)) := vt_chain op_le op_lt ha hb hc hm
theorem ve_leLe (ha : VE X c M We al a fa) (hb : VE X c M We al' b fb) (hc : VE X c M We al'' d fc) (hm : lastMarks [.LtE, .LtE] [b, d] = false := by with_unfolding_all rfl) :
    VE X c M We 0 (.Compare a [.LtE, .LtE] [b, d] pos) (eChain (fun i j => decide (i ≤ j)) (fun i j => decide (i ≤ j)) fa fb fc) := ve_chain op_le op_le ha hb hc hm
theorem vt_leLe (ha : VE X c M We al a fa) (hb : VE X c M We al' b fb) (hc : VE X c M We al'' d fc) (hm : lastMarks [.LtE, .LtE] [b, d] = false := by with_unfolding_all rfl) :
    VT X c M We (.Compare a [.LtE, .LtE] [b, d] pos) (tE (eChain (fun i j => decide (i ≤ j)) (fun i j => decide (i ≤ j)) fa fb fc)) := vt_chain op_le op_le ha hb hc hm

/-! ### tests -/
theorem vt_val (h : VE X c M We al e f) (he : ∀ whole, isTrue e X.env whole = (do let v ← whole; standAt e.pos; holding [v] (truthy v)) := by intro _; rfl) : VT X c M We e (tE f) := by
  obtain ⟨te, p, s⟩ := h.ex
  refine ⟨_, pt_val p he, fun w σ H ρ Q sl po => s w σ H ρ _ sl ((Po.bind po).imp (fun d _ q v H' hs hi => ?_) fun _ _ q => q)⟩
  cases d with
  | bl k => exact ⟨k, is_bl hi, q H' hs⟩
  | _ => exact q.elim
theorem VW.vt (h : VW X c M We e t) : VT X c M We e t := by
  obtain ⟨tt, p, s⟩ := h.ex
  exact ⟨tt, p.pt, s⟩
theorem vw_and1 (h : VT X c M We a t) : VW X c M We (.BoolOp .And [a] pos) t := by
  obtain ⟨tt, p, s⟩ := h.ex
  exact ⟨tt, pw_and1 p, s⟩
theorem vw_or1 (h : VT X c M We a t) : VW X c M We (.BoolOp .Or [a] pos) t := by
  obtain ⟨tt, p, s⟩ := h.ex
  exact ⟨tt, pw_or1 p, s⟩
theorem vw_and {rest : List Expr} (h : VT X c M We a t) (h' : VW X c M We (.BoolOp .And (b :: rest) pos) t') : VW X c M We (.BoolOp .And (a :: b :: rest) pos) (tAndF t t') := by
  obtain ⟨tt, p, s⟩ := h.ex
  obtain ⟨tt', p', s'⟩ := h'.ex
  refine ⟨_, pw_and p p', fun w σ H ρ Q sl po => s w σ H ρ _ sl ((Po.bind po).imp (fun k _ q H1 hs => ?_) fun _ _ q => q)⟩
  cases k with
  | true => exact s' w σ H1 ρ Q (sl.same hs) (Po.imp (r := t' ρ) q (fun b _ q H2 hs2 => q H2 (hs.trans hs2)) fun _ _ q H2 hs2 => q H2 (hs.trans hs2))
  | false => exact q H1 hs
theorem vw_or {rest : List Expr} (h : VT X c M We a t) (h' : VW X c M We (.BoolOp .Or (b :: rest) pos) t') : VW X c M We (.BoolOp .Or (a :: b :: rest) pos) (tOrF t t') := by
  obtain ⟨tt, p, s⟩ := h.ex
  obtain ⟨tt', p', s'⟩ := h'.ex
  refine ⟨_, pw_or p p', fun w σ H ρ Q sl po => s w σ H ρ _ sl ((Po.bind po).imp (fun k _ q H1 hs => ?_) fun _ _ q => q)⟩
  cases k with
  | false => exact s' w σ H1 ρ Q (sl.same hs) (Po.imp (r := t' ρ) q (fun b _ q H2 hs2 => q H2 (hs.trans hs2)) fun _ _ q H2 hs2 => q H2 (hs.trans hs2))
  | true => exact q H1 hs
theorem vt_not (h : VT X c M We a t) : VT X c M We (.UnaryOp .Not a pos) (tNotF t) := by
  obtain ⟨tt, p, s⟩ := h.ex
  exact ⟨_, pt_not p, fun w σ H ρ Q sl po => s w σ H ρ _ sl ((Po.bind po).imp (fun k _ q H1 hs => q H1 hs) fun _ _ q => q)⟩
/-- and, or, not as values -/
theorem ve_one {op} (h : VE X c M We al a f) : VE X c M We al (.BoolOp op [a] pos) f := by
  obtain ⟨te, p, s⟩ := h.ex
  exact ⟨te, pe_one p, s⟩
theorem ve_and {rest : List Expr} (h : VE X c M We al a fa) (h' : VE X c M We al' (.BoolOp .And (b :: rest) pos) fb) : VE X c M We 0 (.BoolOp .And (a :: b :: rest) pos) (eB (tAndF (tE fa) (tE fb))) := by
  obtain ⟨te, p, s⟩ := h.ex
  obtain ⟨te', p', s'⟩ := h'.ex
  refine ⟨_, pe_and p p', fun w σ H ρ Q sl po => s w σ H ρ _ sl ((Po.bind (Po.bind (Po.bind po))).imp (fun d _ q v H1 hs hi => ?_) fun _ _ q => q)⟩
  cases d with
  | bl k =>
    refine ⟨k, is_bl hi, ?_⟩
    cases k with
    | true =>
      refine s' w σ H1 ρ Q (sl.same hs) ((Po.bind (r := fb ρ) q).imp (fun d2 _ q v2 H2 hs2 hi2 => ?_) fun _ _ q H2 hs2 => q H2 (hs.trans hs2))
      cases d2 with
      | bl k2 => rw [is_bl hi2]; exact q _ H2 (hs.trans hs2) (.bl _)
      | _ => exact q.elim
    | false => exact q _ H1 hs (.bl _)
  | _ => exact q.elim
theorem ve_or {rest : List Expr} (h : VE X c M We al a fa) (h' : VE X c M We al' (.BoolOp .Or (b :: rest) pos) fb) : VE X c M We 0 (.BoolOp .Or (a :: b :: rest) pos) (eB (tOrF (tE fa) (tE fb))) := by
  obtain ⟨te, p, s⟩ := h.ex
  obtain ⟨te', p', s'⟩ := h'.ex
  refine ⟨_, pe_or p p', fun w σ H ρ Q sl po => s w σ H ρ _ sl ((Po.bind (Po.bind (Po.bind po))).imp (fun d _ q v H1 hs hi => ?_) fun _ _ q => q)⟩
  cases d with
  | bl k =>
    refine ⟨k, is_bl hi, ?_⟩
    cases k with
    | false =>
      refine s' w σ H1 ρ Q (sl.same hs) ((Po.bind (r := fb ρ) q).imp (fun d2 _ q v2 H2 hs2 hi2 => ?_) fun _ _ q H2 hs2 => q H2 (hs.trans hs2))
      cases d2 with
      | bl k2 => rw [is_bl hi2]; exact q _ H2 (hs.trans hs2) (.bl _)
      | _ => exact q.elim
    | true => exact q _ H1 hs (.bl _)
  | _ => exact q.elim
theorem ve_not (h : VE X c M We al a f) : VE X c M We 0 (.UnaryOp .Not a pos) (eB (tNotF (tE f))) := by
  obtain ⟨te, p, s⟩ := h.ex
  refine ⟨_, pe_not p, fun w σ H ρ Q sl po => s w σ H ρ _ sl ((Po.bind (Po.bind (Po.bind po))).imp (fun d _ q v H1 hs hi => ?_) fun _ _ q => q)⟩
  cases d with
  | bl k => exact ⟨k, is_bl hi, q _ H1 hs (.bl _)⟩
  | _ => exact q.elim

/-! ### isinstance with a built-in class -/
def tyN : D → Option String
  | .non => some "NoneType"
  | .bl _ => some "bool"
  | .int _ => some "int"
  | .str _ => some "str"
  | .lst _ => some "list"
  | .tup _ => some "tuple"
  | .dct _ => some "dict"
  | .land _ => none
  | .pile _ => none
  | .raw => none
def isTy (T : String) (n : String) : Bool := n == T || (n == "bool" && T == "int")
def isTD (T : String) (d : D) : O D := match tyN d with
  | some n => .ok (.bl (isTy T n))
  | none => .bad
theorem tyx_of {W : Addr → Prop} {H : Hp} {v : V} {d : D} {n : String} (h : Is c W H v d) (hn : tyN d = some n) : TyX c.K H v (.type n) := by
  cases h with
  | non => cases hn; exact .base .non
  | bl b => cases hn; exact .base (.bl b)
  | int b => cases hn; exact .base (.int b)
  | str b => cases hn; exact .base (.str b)
  | lst h1 h2 h3 =>
    cases hn
    rcases h2 with h2 | ⟨o, h2⟩
    · exact .base (.lst h2)
    · exact .base (.frz h2)
  | lstK h2 h3 =>
    cases hn
    obtain ⟨o, its, n, h1, h2, _⟩ := h2
    exact .kList h1 h2
  | tup h1 h2 => cases hn; exact .base (.tup h1)
  | dct h1 h2 h3 h4 => cases hn; exact .base (.dT h2)
  | land _ _ => cases hn
  | pile _ _ _ _ _ => cases hn
  | raw _ _ => cases hn
theorem tyN_mem {d : D} {n : String} (h : tyN d = some n) : n ∈ (["NoneType", "bool", "int", "str", "list", "tuple", "dict"] : List String) := by
  cases d with
  | land => cases h
  | pile => cases h
  | raw => cases h
  | _ => simp [tyN] at h; subst h; decide
theorem ve_isT {T : String} {p p2 : Pos} {tn : Str} (z : Cz X c We k) (h : VE X c M We al e f) (hg : Gl X "isinstance") (hm : X.mg "isinstance" = none) (hg2 : Gl X tn) (hm2 : X.mg tn = none) (hv : bootBuiltins tn = some (.type T)) (hn : tn ≠ "__name__") (hd : (tn == ("__debug__" : Str)) = false)
    (hk : ∀ n ∈ (["NoneType", "bool", "int", "str", "list", "tuple", "dict"] : List String), kitB n T = some (isTy T n))
    (hs : starEach [e, .Name tn p2] X.env = (false, eval e X.env) :: starEach [.Name tn p2] X.env := by rfl) (hs1 : starEach [.Name tn p2] X.env = (false, eval (.Name tn p2) X.env) :: starEach [] X.env := by rfl) (hpl : (backTo pos (starEach [.Name tn p2] X.env)).any (·.1) = false := by rfl) :
    VE X c M We 0 (.Call (.Name "isinstance" p) [e, .Name tn p2] [] pos) (e1 (isTD T) f) := by
  obtain ⟨te, pe, s⟩ := h.ex
  have hb : PE X (.Name tn p2) (tC (.ty T)) := pe_bltn hg2 hm2 hv rfl hn hd
  refine ⟨_, pe_callB (call_isi (X := X)) hg hm PyProof.Rows.boot_isinstance (pa_cons pe (pa_cons hb pa_nil hs1) hs) (by decide) (by decide) hs hpl, fun w σ H ρ Q sl po => s w σ H ρ _ sl ((Po.bind po).imp (fun d _ q v H1 hs hi => ?_) fun _ _ q => q)⟩
  unfold isTD at q
  cases ht : tyN d with
  | none => rw [ht] at q; exact q.elim
  | some n =>
    rw [ht] at q
    exact ⟨v, .ty T, .type n, .type T, isTy T n, rfl, .ty T, by rw [z.K]; exact tyx_of hi ht, kit_ty (hk n (tyN_mem ht)), q _ H1 hs (.bl _)⟩

/-! ### len, list, int of a truth -/
def lenD : D → O D
  | .lst l => .ok (.int l.length)
  | .tup l => .ok (.int l.length)
  | .str s => gd (decide (s.length ≤ 100000)) (.ok (.int s.length))
  | .dct m => .ok (.int m.length)
  | _ => .bad

theorem PE.or {t1 t2 : TE} (h1 : PE X e t1) (h2 : PE X e t2) : PE X e (fun σ H Q => t1 σ H Q ∨ t2 σ H Q) := ⟨fun pins s σ H Q I h => h.elim (h1.run pins s σ H Q I) (h2.run pins s σ H Q I)⟩

theorem ve_len {p : Pos} (z : Cz X c We k) (h : VE X c M We al e f) (hg : Gl X "len") (hm : X.mg "len" = none) (hs : starEach [e] X.env = (false, eval e X.env) :: starEach [] X.env := by rfl) (hpl : (backTo pos (starEach [] X.env)).any (·.1) = false := by rfl) :
    VE X c M We 0 (.Call (.Name "len" p) [e] [] pos) (e1 lenD f) := by
  obtain ⟨te, pe, s⟩ := h.ex
  refine ⟨_, pe_callB ((call_len (X := X)).or call_len_dT) hg hm PySem.boot_len (pa_cons pe pa_nil hs) (by decide) (by decide) hs hpl, fun w σ H ρ Q sl po => s w σ H ρ _ sl ((Po.bind po).imp (fun d _ q v H1 hs hi => ?_) fun _ _ q => q)⟩
  cases d with
  | lst l =>
    obtain ⟨a, xs, rfl, h1, h2⟩ := is_lst hi
    refine .inl ⟨.ref a, l.length, rfl, .inl ⟨xs, by rw [z.K]; exact h1, h2.length.symm⟩, q _ H1 hs (.int _)⟩
  | tup l =>
    obtain ⟨a, xs, rfl, h1, h2⟩ := is_tup hi
    refine .inl ⟨.ref a, l.length, rfl, .inr ⟨xs, .of h1, h2.length.symm⟩, q _ H1 hs (.int _)⟩
  | str x =>
    obtain ⟨hl, q⟩ := Po.gd q
    exact .inl ⟨v, x.length, rfl, by rw [is_str hi]; exact ⟨sz_ok (of_decide_eq_true hl), rfl⟩, q _ H1 hs (.int _)⟩
  | dct m =>
    cases hi with
    | @dct a ks vs ds h1 h2 h3 h4 =>
      have e1 : (ks.zip vs).length = (ks.zip ds).length := by simp [List.length_zip, h3, h4.length.symm]
      exact .inr ⟨a, _, rfl, h2, by rw [e1]; exact q _ H1 hs (.int _)⟩
  | _ => exact q.elim

/-! ### an item -/
theorem isA_at {W : Addr → Prop} {H : Hp} {vs : List V} {ds : List D} {i : Int} {d : D} (h : IsA c W H vs ds) (e : atI ds i = some d) : ∃ v, atI vs i = some v ∧ Is c W H v d := by
  unfold atI at e ⊢
  rw [h.length]
  cases hn : ixN ds.length i with
  | none => rw [hn] at e; cases e
  | some j =>
    rw [hn] at e
    exact h.getD e
def keyOf : D → Option Key
  | .int i => some (.inl i)
  | .str s => some (.inr s)
  | _ => none
def keysOf : List D → Option (List Key)
  | [] => some []
  | d :: ds => match keyOf d, keysOf ds with
    | some k, some ks => some (k :: ks)
    | _, _ => none
def keyD : D → Option (List Key)
  | .tup l => keysOf l
  | _ => none
theorem keys_is {W : Addr → Prop} {H : Hp} : ∀ {vs : List V} {ds : List D} {ks : List Key}, IsA c W H vs ds → keysOf ds = some ks → vs = ks.map kV
  | _, _, _, .nil, e => by cases e; rfl
  | _, _, _, .cons (d := d) (ds := ds) h t, e => by
    unfold keysOf at e
    cases hk : keyOf d with
    | none => rw [hk] at e; cases e
    | some k =>
      cases hs : keysOf ds with
      | none => rw [hk, hs] at e; cases e
      | some ks =>
        rw [hk, hs] at e
        cases e
        rw [List.map_cons, ← keys_is t hs]
        congr 1
        cases d with
        | int i => cases hk; exact is_int h
        | str i => cases hk; exact is_str h
        | _ => cases hk
theorem key_is {W : Addr → Prop} {H : Hp} {v : V} {d : D} {ks : List Key} (h : Is c W H v d) (e : keyD d = some ks) : ∃ b, v = .ref b ∧ H b = some (.tup (ks.map kV)) := by
  cases d with
  | tup l =>
    obtain ⟨a, xs, rfl, h1, h2⟩ := is_tup h
    exact ⟨a, rfl, by rw [h1, keys_is h2 e]⟩
  | _ => cases e
def lookD (m : List (List Key × D)) (k : List Key) : Option D := (m.find? fun p => decide (p.1 = k)).map (·.2)
theorem look_is {W : Addr → Prop} {H : Hp} {k : List Key} : ∀ {ks : List (List Key)} {vs : List V} {ds : List D}, IsA c W H vs ds → vs.length = ks.length →
    (∀ d, lookD (ks.zip ds) k = some d → ∃ v, valV (ks.zip vs) k = some v ∧ Is c W H v d) ∧ (lookD (ks.zip ds) k = none → valV (ks.zip vs) k = none)
  | [], _, _, _, _ => by simp [lookD, valV]
  | k0 :: ks, [], _, _, e => by simp at e
  | k0 :: ks, v0 :: vs, _, .cons (d := d0) (ds := ds) h t, e => by
    have ih := look_is (k := k) (ks := ks) t (by simpa using e)
    unfold lookD valV at ih ⊢
    simp only [List.zip_cons_cons, List.find?_cons]
    by_cases hk : k0 = k
    · simp only [hk, decide_true, Option.map_some, Option.some.injEq, reduceCtorEq, false_implies, and_true]
      intro d e1
      subst e1
      exact ⟨v0, rfl, h⟩
    · simp only [hk, decide_false]
      exact ih
def ixD (x y : D) : O D := match x with
  | .lst l => match y with
    | .int i => ofO (atI l i)
    | _ => .bad
  | .tup l => match y with
    | .int i => ofO (atI l i)
    | _ => .bad
  | .str s => match y with
    | .int i => (ofO (atI s.cps.toList i)).bind fun ch => gd (decide (s.length ≤ 100000)) (.ok (.str ⟨#[ch]⟩))
    | _ => .bad
  | .dct m => (ofO (keyD y)).bind fun ks => ofO (lookD m ks)
  | _ => .bad
theorem ve_ix (z : Cz X c We k) (ha : VE X c M We al a fa) (hb : VE X c M We al' b fb) (hs : PlainIx b := by exact fun _ _ => rfl) : VE X c M We al (.Subscript a b pos) (e2 ixD fa fb) := by
  obtain ⟨ta, pa, sa⟩ := ha.ex
  obtain ⟨tb, pb, sb⟩ := hb.ex
  have hu : X.A.units + 1 < cLine := hu_of z.hr
  refine ⟨_, PE.or (pe_ix ix_seq pa pb hs) (pe_dget hu pa pb hs), fun w σ H ρ Q sl po => ?_⟩
  have po := Po.bind po
  by_cases hd : ∃ m, fa ρ = .ok (.dct m)
  · obtain ⟨m, hm⟩ := hd
    refine .inr (sa w σ H ρ _ sl (po.imp (fun d ed q v H1 hs hi => ?_) fun _ _ q => q))
    rw [hm] at ed
    cases ed
    refine sb w σ H1 ρ _ (sl.same hs) ((Po.bind q).imp (fun d2 _ q v2 H2 hs2 hi2 => ?_) fun _ _ q H2 hs2 => q H2 (hs.trans hs2))
    obtain ⟨ks, hk, q1⟩ := Po.ofO (Po.bind (r := ofO (keyD d2)) q)
    obtain ⟨d3, hl, q2⟩ := Po.ofO q1
    clear q q1
    obtain ⟨b, rfl, hb⟩ := key_is hi2 hk
    have hi' := hi.same hs2
    cases hi' with
    | @dct a kss vs ds h1 h2 h3 h4 =>
      obtain ⟨v3, e3, i3⟩ := (look_is h4 h3).1 d3 hl
      exact ⟨a, v3, rfl, by rw [← e3]; exact DGet.t h2 hb, q2 v3 H2 (hs.trans hs2) i3⟩
  · refine .inl (sa w σ H ρ _ sl (po.imp (fun d ed q v H1 hs hi => ?_) fun _ _ q => q))
    refine sb w σ H1 ρ _ (sl.same hs) ((Po.bind q).imp (fun d2 _ q v2 H2 hs2 hi2 => ?_) fun _ _ q H2 hs2 => q H2 (hs.trans hs2))
    have hi' := hi.same hs2
    cases d with
    | lst l =>
      cases d2 with
      | int i =>
        obtain ⟨d3, hl, q⟩ := Po.ofO q
        obtain ⟨p, xs, rfl, h1, h2⟩ := is_lst hi'
        obtain ⟨v3, e3, i3⟩ := isA_at h2 hl
        rw [is_int hi2]
        exact .inl ⟨p, xs, i, v3, rfl, rfl, by rw [z.K]; exact h1, e3, q v3 H2 (hs.trans hs2) i3⟩
      | _ => exact q.elim
    | tup l =>
      cases d2 with
      | int i =>
        obtain ⟨d3, hl, q⟩ := Po.ofO q
        obtain ⟨p, xs, rfl, h1, h2⟩ := is_tup hi'
        obtain ⟨v3, e3, i3⟩ := isA_at h2 hl
        rw [is_int hi2]
        exact .inr (.inl ⟨p, xs, i, v3, rfl, rfl, .of h1, e3, q v3 H2 (hs.trans hs2) i3⟩)
      | _ => exact q.elim
    | str x =>
      cases d2 with
      | int i =>
        obtain ⟨ch, hl, q⟩ := Po.ofO (Po.bind (r := ofO (atI x.cps.toList i)) q)
        obtain ⟨hz, q⟩ := Po.gd q
        rw [is_int hi2, is_str hi]
        exact .inr (.inr ⟨x, i, ch, rfl, rfl, sz_ok (of_decide_eq_true hz), hl, q _ H2 (hs.trans hs2) (.str _)⟩)
      | _ => exact q.elim
    | dct m => exact (hd ⟨m, ed⟩).elim
    | _ => exact q.elim

/-! ### a def's call -/
/-- what a def promises, by its meaning F; what it hands back is new, of the shape rs -/
def spP (c : Ct) (rs : Sh) (F : List D → O D) : Sp := fun vs H Q E => ∃ ds, IsA c (fun _ => True) H vs ds ∧
  Po (F ds) (fun d => ∀ v H' Fp, Same H H' → (∀ a ∈ Fp, H a = none) → Fp.Nodup → Own c (fun a => H a = none ∧ a ∉ Fp) H' rs v d Fp → Q v H') (fun k => ∀ H', Same H H' → E k none H')
theorem vo_call {x : Str} {g : Addr} {fd : FuncData} {ps : List Str} {rs : Sh} {F : List D → O D} {es : List Expr} {fs : AF} {p : Pos} (z : Cz X c We k) (G : FnOk X.prog X.w X.K X.mg X.base (L2N.CX X.prog X.w) k g fd ps (spP c rs F)) (hb : Binds X.K fd ps [])
    (hm : X.mg x = some (.ref g)) (hk : PySem.W.keepIn X.K (.ref g) = true) (hg : Gl X x) (t : VA X c M We al (e :: es) fs) (hdb : (x == ("__debug__" : Str)) = false := by decide)
    (he : starEach (e :: es) X.env = (false, eval e X.env) :: starEach es X.env := by rfl) (hpl : (backTo pos (starEach es X.env)).any (·.1) = false := by rfl) :
    VO X c M We rs (.Call (.Name x p) (e :: es) [] pos) (fun ρ => (fs ρ).bind F) := by
  obtain ⟨ta, pt, s⟩ := t.ex
  refine ⟨_, pe_callS G z.hr hg hm hk hb (fun σ => L2N.passAt z.tk σ) pt hdb he hpl, fun w σ H ρ Q sl po => s w σ H ρ _ sl ((Po.bind po).imp (fun ds _ q vs H1 hs hi => ?_) fun _ _ q => q)⟩
  refine ⟨ds, hi.up fun _ _ => trivial, q.imp (fun d _ q v H' Fp hs2 hn nd ho => q v H' Fp (hs.trans hs2) (fun a ha => hs.free (hn a ha)) nd (ho.mono (fun a x => ⟨.inr (hs.free x.1), x.2⟩) fun a o _ e => e)) fun kx _ q H' hs2 => q H' (hs.trans hs2)⟩
end
end VS
set_option Elab.async false
set_option linter.all false
set_option maxRecDepth 100000
set_option maxHeartbeats 2000000
/-! VD: a def's state by its plain meaning; statements. -/
namespace VS
open PySem L2

/-- where a run stands: the heap at the def's entry, what must stand (a heap, what of it may change), the parameters that may be changed -/
structure Bs where
  H0 : Hp
  pr : List (Hp × (Addr → Prop))
  mp : List (Nat × Sh × V)
def wd (B : Bs) (Fs : Nat → List Addr) : Wd where
  n := fun a => (∀ i, a ∉ Fs i) ∧ B.H0 a = none
  b := fun a => ∀ i, a ∉ Fs i
  le := fun _ h => h.1
def Sat (c : Ct) (B : Bs) (Fs : Nat → List Addr) (H : Hp) (m : Mo) (v : V) (d : D) (F : List Addr) : Prop := match m with
  | .v al => al ≤ 1 ∧ F = [] ∧ Is c ((wd B Fs).at al) H v d
  | .o s => Own c (wd B Fs).n H s v d F
  | .p s => Own c (fun _ => False) H s v d F
structure RelF (c : Ct) (M : Nat → Mo) (B : Bs) (Fs : Nat → List Addr) (H : Hp) (σ : L2.St) (ρ : Rho) : Prop where
  nd : ∀ i, (Fs i).Nodup
  dj : ∀ i j a, a ∈ Fs i → a ∈ Fs j → i = j
  th : ∀ i a, a ∈ Fs i → ∃ o, H a = some o ∧ ¬ sta o
  fr : ∀ p ∈ B.pr, ∀ a o, p.1 a = some o → ¬ p.2 a → H a = some o
  out : ∀ p ∈ B.pr, ∀ i a, a ∈ Fs i → p.1 a = none ∨ p.2 a
  own : ∀ i s, M i = .o s → ∀ a ∈ Fs i, B.H0 a = none
  old : ∀ a, H a = none → B.H0 a = none
  sl : ∀ i d, ρ[i]? = some (some d) → ∃ v, σ[i]? = some (some v) ∧ Sat c B Fs H (M i) v d (Fs i)
  mp : ∀ q ∈ B.mp, σ[q.1]? = some (some q.2.2) ∧ M q.1 = .p q.2.1
  len : σ.length = ρ.length
def Rel (c : Ct) (M : Nat → Mo) (B : Bs) (H : Hp) (σ : L2.St) (ρ : Rho) : Prop := ∃ Fs, RelF c M B Fs H σ ρ

section
variable {c : Ct} {M : Nat → Mo} {B : Bs} {Fs : Nat → List Addr} {H H' : Hp} {σ : L2.St} {ρ : Rho} {X : Cx} {We : WX} {k al al' i : Nat}
theorem at_any (w : Wd) : ∀ (al : Nat) (a : Addr), w.at al a → (Wd.at w 2 a) := fun _ _ _ => trivial
theorem RelF.slots (R : RelF c M B Fs H σ ρ) : Sl c M (wd B Fs) H σ ρ := ⟨R.len, fun i d e => by
  obtain ⟨v, h1, h2⟩ := R.sl i d e
  refine ⟨v, h1, ?_⟩
  unfold Sat at h2
  cases hm : M i with
  | v al => rw [hm] at h2; exact h2.2.2
  | o s => rw [hm] at h2; exact h2.toIs (fun _ _ => trivial) fun _ _ => trivial
  | p s => rw [hm] at h2; exact h2.toIs (fun _ z => z.elim) fun _ _ => trivial⟩
theorem Sat.mono {B' : Bs} {Fs' : Nat → List Addr} {m : Mo} {v : V} {d : D} {F : List Addr} (h : Sat c B Fs H m v d F) (hw : ∀ al a, al ≤ 1 → (wd B Fs).at al a → H a ≠ none → (wd B' Fs').at al a)
    (hk : ∀ a o, ((∀ i, a ∉ Fs i) ∨ a ∈ F ∨ sta o) → H a = some o → H' a = some o) : Sat c B' Fs' H' m v d F := by
  unfold Sat at h ⊢
  cases m with
  | v al =>
    obtain ⟨hal, e, h⟩ := h
    refine ⟨hal, e, h.track.mono (fun a x => hw al a hal x.1 x.2) fun a o x e => hk a o (x.elim (fun y => .inl ?_) fun y => .inr (.inr y)) e⟩
    exact (wd B Fs).up hal a y.1
  | o s =>
    refine h.track.mono (fun a x => hw 0 a (by decide) x.1 x.2) fun a o x e => hk a o (x.elim (fun y => .inl y.1.1) fun y => .inr y) e
  | p s =>
    refine h.mono (fun a x => x) fun a o x e => hk a o (x.elim (fun y => y.elim) fun y => .inr y) e
theorem RelF.same (R : RelF c M B Fs H σ ρ) (s : Same H H') : RelF c M B Fs H' σ ρ where
  nd := R.nd
  dj := R.dj
  th := fun i a ha => let ⟨o, h1, h2⟩ := R.th i a ha; ⟨o, s a o h1, h2⟩
  fr := fun p hp a o e hn => s a o (R.fr p hp a o e hn)
  out := R.out
  own := R.own
  old := fun a e => R.old a (s.free e)
  sl := fun i d e => let ⟨v, h1, h2⟩ := R.sl i d e; ⟨v, h1, h2.mono (fun _ _ _ x _ => x) fun a o _ e => s a o e⟩
  mp := R.mp
  len := R.len
/-- the slots' functions changed at one place -/
def fset {α : Type} (f : Nat → α) (i : Nat) (x : α) : Nat → α := fun j => if j = i then x else f j
theorem fset_self {α : Type} (f : Nat → α) (i : Nat) (x : α) : fset f i x i = x := if_pos rfl
theorem fset_ne {α : Type} {f : Nat → α} {i j : Nat} {x : α} (h : j ≠ i) : fset f i x j = f j := if_neg h
/-- THE STEP: slot i's own objects are F' now, what stands outside of them stood and stands -/
theorem RelF.putW (R : RelF c M B Fs H σ ρ) {F' : List Addr} {σ' : L2.St} {ρ' : Rho} (h1 : ∀ a o, a ∉ Fs i → H a = some o → H' a = some o) (h2 : ∀ a, H' a = none → B.H0 a = none) (nd : F'.Nodup) (h3 : ∀ a ∈ F', a ∈ Fs i ∨ H a = none)
    (h4 : ∀ a ∈ F', ∃ o, H' a = some o ∧ ¬ sta o) (hσ : ∀ j, j ≠ i → σ'[j]? = σ[j]?) (hρ : ∀ j, j ≠ i → ρ'[j]? = ρ[j]?) (hl : σ'.length = ρ'.length) (hm : ∀ q ∈ B.mp, q.1 = i → σ'[i]? = some (some q.2.2)) (ho : ∀ s, M i = .o s → ∀ a ∈ Fs i, B.H0 a = none)
    (hi : ∀ d, ρ'[i]? = some (some d) → ∃ v, σ'[i]? = some (some v) ∧ Sat c B (fset Fs i F') H' (M i) v d F') : RelF c M B (fset Fs i F') H' σ' ρ' where
  nd := fun j => by
    by_cases h : j = i
    · rw [h, fset_self]; exact nd
    · rw [fset_ne h]; exact R.nd j
  dj := fun j l a ha hb => by
    by_cases h : j = i
    · rw [h, fset_self] at ha
      by_cases h' : l = i
      · rw [h, h']
      · rw [fset_ne h'] at hb
        rcases h3 a ha with x | x
        · rw [h]; exact R.dj i l a x hb
        · obtain ⟨o, e, _⟩ := R.th l a hb
          rw [x] at e; cases e
    · rw [fset_ne h] at ha
      by_cases h' : l = i
      · rw [h', fset_self] at hb
        rcases h3 a hb with x | x
        · rw [h']; exact R.dj j i a ha x
        · obtain ⟨o, e, _⟩ := R.th j a ha
          rw [x] at e; cases e
      · rw [fset_ne h'] at hb; exact R.dj j l a ha hb
  th := fun j a ha => by
    by_cases h : j = i
    · rw [h, fset_self] at ha; exact h4 a ha
    · rw [fset_ne h] at ha
      obtain ⟨o, e, n⟩ := R.th j a ha
      exact ⟨o, h1 a o (fun z => h (R.dj j i a ha z)) e, n⟩
  fr := fun p hp a o e hn => h1 a o (fun z => (R.out p hp i a z).elim (fun y => by rw [y] at e; cases e) hn) (R.fr p hp a o e hn)
  out := fun p hp j a ha => by
    by_cases h : j = i
    · rw [h, fset_self] at ha
      rcases h3 a ha with x | x
      · exact R.out p hp i a x
      · by_cases hp2 : p.2 a
        · exact .inr hp2
        · refine .inl ?_
          cases e : p.1 a with
          | none => rfl
          | some o => rw [R.fr p hp a o e hp2] at x; cases x
    · rw [fset_ne h] at ha; exact R.out p hp j a ha
  own := fun j s hs a ha => by
    by_cases h : j = i
    · rw [h, fset_self] at ha
      rcases h3 a ha with x | x
      · rw [h] at hs; exact ho s hs a x
      · exact R.old a x
    · rw [fset_ne h] at ha; exact R.own j s hs a ha
  old := h2
  sl := fun j d e => by
    by_cases h : j = i
    · rw [h] at e ⊢
      rw [fset_self]
      exact hi d e
    · rw [hρ j h] at e
      obtain ⟨v, e1, e2⟩ := R.sl j d e
      refine ⟨v, by rw [hσ j h]; exact e1, ?_⟩
      rw [fset_ne h]
      have nin : ∀ a, (∀ l, a ∉ Fs l) → H a ≠ none → ∀ l, a ∉ fset Fs i F' l := fun a x y l z => by
        by_cases hl : l = i
        · rw [hl, fset_self] at z
          rcases h3 a z with q | q
          · exact x i q
          · exact y q
        · rw [fset_ne hl] at z; exact x l z
      refine e2.mono (fun al a hal x y => ?_) fun a o x e => h1 a o ?_ e
      · match al, hal, x with
        | 0, _, x => exact ⟨nin a x.1 y, x.2⟩
        | 1, _, x => exact nin a x y
      · intro z
        rcases x with x | x | x
        · exact x i z
        · exact h (R.dj j i a x z)
        · obtain ⟨o', e', n'⟩ := R.th i a z
          rw [e] at e'; cases e'; exact n' x
  mp := fun q hq => by
    refine ⟨?_, (R.mp q hq).2⟩
    by_cases h : q.1 = i
    · rw [h]; exact hm q hq h
    · rw [hσ _ h]; exact (R.mp q hq).1
  len := hl
theorem RelF.put (R : RelF c M B Fs H σ ρ) {F' : List Addr} {σ' : L2.St} {ρ' : Rho} (h1 : ∀ a o, a ∉ Fs i → H a = some o → H' a = some o) (h2 : ∀ a, H' a = none → H a = none) (nd : F'.Nodup) (h3 : ∀ a ∈ F', a ∈ Fs i ∨ H a = none)
    (h4 : ∀ a ∈ F', ∃ o, H' a = some o ∧ ¬ sta o) (hσ : ∀ j, j ≠ i → σ'[j]? = σ[j]?) (hρ : ∀ j, j ≠ i → ρ'[j]? = ρ[j]?) (hl : σ'.length = ρ'.length) (hm : ∀ q ∈ B.mp, q.1 = i → σ'[i]? = some (some q.2.2)) (ho : ∀ s, M i = .o s → ∀ a ∈ Fs i, B.H0 a = none)
    (hi : ∀ d, ρ'[i]? = some (some d) → ∃ v, σ'[i]? = some (some v) ∧ Sat c B (fset Fs i F') H' (M i) v d F') : RelF c M B (fset Fs i F') H' σ' ρ' :=
  R.putW h1 (fun a e => R.old a (h2 a e)) nd h3 h4 hσ hρ hl hm ho hi
/-- a name takes what can not be changed by it -/
theorem RelF.setVF (R : RelF c M B Fs H σ ρ) {v : V} {d : D} (hm : M i = .v al) (hal : al ≤ 1) (hi : i < ρ.length) (h : Is c (NW (wd B Fs) al H) H' v d) (s : Same H H') : RelF c M B (fset Fs i []) H' (σ.set i (some v)) (ρ.set i (some d)) := by
  have R' := R.same s
  refine R'.put (fun a o _ e => e) (fun _ e => e) (by simp) (by simp) (by simp) (fun j hj => List.getElem?_set_ne (Ne.symm hj)) (fun j hj => List.getElem?_set_ne (Ne.symm hj)) (by simp [R.len]) (fun q hq e => ?_) (fun s hs => by rw [hm] at hs; cases hs) fun d' e => ?_
  · have hs := (R.mp q hq).2
    rw [e, hm] at hs; cases hs
  · rw [List.getElem?_set_self hi] at e
    cases e
    refine ⟨v, List.getElem?_set_self (by rw [R.len]; exact hi), ?_⟩
    rw [hm]
    refine ⟨hal, rfl, h.track.up fun a x => ?_⟩
    have nin : (∀ l, a ∉ Fs l) → ∀ l, a ∉ fset Fs i [] l := fun x l z => by
      by_cases hl : l = i
      · rw [hl, fset_self] at z; simp at z
      · rw [fset_ne hl] at z; exact x l z
    have new : H a = none → (∀ l, a ∉ Fs l) := fun e l z => by
      obtain ⟨o, e', _⟩ := R.th l a z
      rw [e] at e'; cases e'
    match al, hal, x with
    | 0, _, ⟨.inl x, _⟩ => exact ⟨nin x.1, x.2⟩
    | 0, _, ⟨.inr x, _⟩ => exact ⟨nin (new x), R.old a x⟩
    | 1, _, ⟨.inl x, _⟩ => exact nin x
    | 1, _, ⟨.inr x, _⟩ => exact nin (new x)
theorem RelF.setV (R : RelF c M B Fs H σ ρ) {v : V} {d : D} (hm : M i = .v al) (hal : al ≤ 1) (hi : i < ρ.length) (h : Is c (NW (wd B Fs) al H) H' v d) (s : Same H H') : Rel c M B H' (σ.set i (some v)) (ρ.set i (some d)) := ⟨_, R.setVF hm hal hi h s⟩
theorem wd_drop : ∀ al a, (wd B Fs).at al a → (wd B (fset Fs i [])).at al a := by
  have nin : ∀ a, (∀ l, a ∉ Fs l) → ∀ l, a ∉ fset Fs i [] l := fun a x l z => by
    by_cases hl : l = i
    · rw [hl, fset_self] at z; simp at z
    · rw [fset_ne hl] at z; exact x l z
  intro al a x
  match al, x with
  | 0, x => exact ⟨nin a x.1, x.2⟩
  | 1, x => exact nin a x
  | _ + 2, x => trivial
/-- a name takes what is its own -/
theorem RelF.setO (R : RelF c M B Fs H σ ρ) {v : V} {d : D} {s : Sh} {F : List Addr} (hm : M i = .o s) (hi : i < ρ.length) (hs : Same H H') (hn : ∀ a ∈ F, H a = none) (nd : F.Nodup) (h : Own c (fun a => NW (wd B Fs) 0 H a ∧ a ∉ F) H' s v d F) : Rel c M B H' (σ.set i (some v)) (ρ.set i (some d)) := by
  have R' := R.same hs
  have ho := R.own i s hm
  have new : ∀ a, H a = none → (∀ l, a ∉ Fs l) := fun a e l z => by
    obtain ⟨o, e', _⟩ := R.th l a z
    rw [e] at e'; cases e'
  -- ahead: slot i owns nothing
  have R2 : RelF c M B (fset Fs i []) H' (σ.set i none) (ρ.set i none) := R'.put (fun a o _ e => e) (fun _ e => e) (by simp) (by simp) (by simp) (fun j hj => List.getElem?_set_ne (Ne.symm hj)) (fun j hj => List.getElem?_set_ne (Ne.symm hj)) (by simp [R.len]) (fun q hq e => by
    have hs := (R.mp q hq).2
    rw [e, hm] at hs; cases hs) (fun s hs => R.own i s hs) fun d' e => by
    rw [List.getElem?_set_self hi] at e; cases e
  refine ⟨fset Fs i F, ?_⟩
  have ef : ∀ j, j ≠ i → fset Fs i F j = Fs j := fun j h => fset_ne h
  have nin : ∀ a, (∀ l, a ∉ Fs l) → a ∉ F → ∀ l, a ∉ fset Fs i F l := fun a x y l z => by
    by_cases hl : l = i
    · rw [hl, fset_self] at z; exact y z
    · rw [fset_ne hl] at z; exact x l z
  have hth := fun a ha => h.there a ha
  refine ⟨fun j => ?_, fun j l a ha hb => ?_, fun j a ha => ?_, R2.fr, fun p hp j a ha => ?_, fun j s' hs' a ha => ?_, R2.old, fun j d' e => ?_, fun q hq => ?_, by simp [R.len]⟩
  · by_cases hj : j = i
    · rw [hj, fset_self]; exact nd
    · rw [fset_ne hj]; exact R.nd j
  · by_cases hj : j = i
    · rw [hj, fset_self] at ha
      by_cases hl : l = i
      · rw [hj, hl]
      · rw [fset_ne hl] at hb; exact (new a (hn a ha) l hb).elim
    · rw [fset_ne hj] at ha
      by_cases hl : l = i
      · rw [hl, fset_self] at hb; exact (new a (hn a hb) j ha).elim
      · rw [fset_ne hl] at hb; exact R.dj j l a ha hb
  · by_cases hj : j = i
    · rw [hj, fset_self] at ha; exact hth a ha
    · rw [fset_ne hj] at ha; exact R'.th j a ha
  · by_cases hj : j = i
    · rw [hj, fset_self] at ha
      by_cases hp2 : p.2 a
      · exact .inr hp2
      · refine .inl ?_
        cases e : p.1 a with
        | none => rfl
        | some o =>
          have := R.fr p hp a o e hp2
          rw [hn a ha] at this; cases this
    · rw [fset_ne hj] at ha; exact R.out p hp j a ha
  · by_cases hj : j = i
    · rw [hj, fset_self] at ha; exact R.old a (hn a ha)
    · rw [fset_ne hj] at ha; exact R.own j s' hs' a ha
  · by_cases hj : j = i
    · rw [hj, List.getElem?_set_self hi] at e
      cases e
      rw [hj, fset_self]
      refine ⟨v, List.getElem?_set_self (by rw [R.len]; exact hi), ?_⟩
      rw [hm]
      refine h.mono (fun a x => ?_) fun a o _ e => e
      rcases x.1 with y | y
      · exact ⟨nin a y.1 x.2, y.2⟩
      · exact ⟨nin a (new a y) x.2, R.old a y⟩
    · rw [List.getElem?_set_ne (Ne.symm hj)] at e
      obtain ⟨v', e1, e2⟩ := R.sl j d' e
      refine ⟨v', by rw [List.getElem?_set_ne (Ne.symm hj)]; exact e1, ?_⟩
      rw [fset_ne hj]
      refine e2.mono (fun al a hal x y => ?_) fun a o _ e => hs a o e
      have yF : a ∉ F := fun z => y (hn a z)
      match al, hal, x with
      | 0, _, x => exact ⟨nin a x.1 yF, x.2⟩
      | 1, _, x => exact nin a x yF
  · obtain ⟨h1, h2⟩ := R.mp q hq
    refine ⟨?_, h2⟩
    rw [List.getElem?_set_ne (fun e => by rw [← e, hm] at h2; cases h2)]
    exact h1

/-- a slot is given up; it may be of another kind then -/
theorem RelF.remode (R : RelF c M B Fs H σ ρ) (m : Mo) (hp : ∀ s, M i ≠ .p s) : RelF c (fset M i m) B (fset Fs i []) H σ (ρ.set i none) where
  nd := fun j => by
    by_cases h : j = i
    · rw [h, fset_self]; simp
    · rw [fset_ne h]; exact R.nd j
  dj := fun j l a ha hb => by
    by_cases h : j = i
    · rw [h, fset_self] at ha; simp at ha
    · by_cases h' : l = i
      · rw [h', fset_self] at hb; simp at hb
      · rw [fset_ne h] at ha; rw [fset_ne h'] at hb; exact R.dj j l a ha hb
  th := fun j a ha => by
    by_cases h : j = i
    · rw [h, fset_self] at ha; simp at ha
    · rw [fset_ne h] at ha; exact R.th j a ha
  fr := R.fr
  out := fun p hp j a ha => by
    by_cases h : j = i
    · rw [h, fset_self] at ha; simp at ha
    · rw [fset_ne h] at ha; exact R.out p hp j a ha
  own := fun j s hs a ha => by
    by_cases h : j = i
    · rw [h, fset_self] at ha; simp at ha
    · rw [fset_ne h] at ha hs; exact R.own j s hs a ha
  old := R.old
  sl := fun j d e => by
    by_cases h : j = i
    · rw [h] at e
      by_cases hi : i < ρ.length
      · rw [List.getElem?_set_self hi] at e; cases e
      · rw [List.getElem?_eq_none (by simpa using hi)] at e; cases e
    · rw [List.getElem?_set_ne (Ne.symm h)] at e
      obtain ⟨v, e1, e2⟩ := R.sl j d e
      refine ⟨v, e1, ?_⟩
      rw [fset_ne h, fset_ne h]
      exact e2.mono (fun al a _ x _ => wd_drop al a x) fun a o _ e => e
  mp := fun q hq => by
    obtain ⟨h1, h2⟩ := R.mp q hq
    refine ⟨h1, ?_⟩
    rw [fset_ne (fun e => hp _ (by rw [← e]; exact h2))]
    exact h2
  len := by simp [R.len]
theorem NW.drop {al : Nat} : ∀ a, NW (wd B Fs) al H a → NW (wd B (fset Fs i [])) al H a := fun a x => x.elim (fun y => .inl (wd_drop al a y)) .inr
theorem RelF.setVM (R : RelF c M B Fs H σ ρ) {v : V} {d : D} (hp : ∀ s, M i ≠ .p s) (hal : al ≤ 1) (hi : i < ρ.length) (h : Is c (NW (wd B Fs) al H) H' v d) (s : Same H H') : Rel c (fset M i (.v al)) B H' (σ.set i (some v)) (ρ.set i (some d)) := by
  have := (R.remode (.v al) hp).setV (i := i) (fset_self _ _ _) hal (by simpa using hi) (h.up NW.drop) s
  rw [List.set_set] at this
  exact this
theorem RelF.setOM (R : RelF c M B Fs H σ ρ) {v : V} {d : D} {s : Sh} {F : List Addr} (hp : ∀ s, M i ≠ .p s) (hi : i < ρ.length) (hs : Same H H') (hn : ∀ a ∈ F, H a = none) (nd : F.Nodup) (h : Own c (fun a => NW (wd B Fs) 0 H a ∧ a ∉ F) H' s v d F) : Rel c (fset M i (.o s)) B H' (σ.set i (some v)) (ρ.set i (some d)) := by
  have := (R.remode (.o s) hp).setO (i := i) (fset_self _ _ _) (by simpa using hi) hs hn nd (h.mono (fun a x => ⟨NW.drop a x.1, x.2⟩) fun a o _ e => e)
  rw [List.set_set] at this
  exact this
end
end VS
set_option Elab.async false
set_option linter.all false
set_option maxRecDepth 100000
set_option maxHeartbeats 2000000
/-! VF: statements by their plain meaning. -/
namespace VS
open PySem L2

inductive Out where
  | nx (ρ : Rho)
  | rt (d : D) (ρ : Rho)
  | bk (ρ : Rho)
  | ct (ρ : Rho)
  | ex (k : Value) (ρ : Rho)
abbrev SF := Rho → O Out

def FrB (B : Bs) (H : Hp) : Prop := ∀ p ∈ B.pr, ∀ a o, p.1 a = some o → ¬ p.2 a → H a = some o
/-- what a def hands back, and what stands then -/
def RetOk (c : Ct) (B : Bs) (rs : Sh) (H : Hp) (v : V) (d : D) (ρ : Rho) : Prop := ∃ (M : Nat → Mo) (Fs : Nat → List Addr) (σ : L2.St) (F : List Addr), RelF c M B Fs H σ ρ ∧ F.Nodup ∧ (∀ a ∈ F, B.H0 a = none ∧ ∀ i, a ∉ Fs i) ∧
  Own c (fun a => B.H0 a = none ∧ (∀ i, a ∉ Fs i) ∧ a ∉ F) H rs v d F
def PoS (c : Ct) (Ml M' : Nat → Mo) (B : Bs) (rs : Sh) (We : WX) (r : O Out) (D : Ends) : Prop := Po r (fun out => match out with
  | .nx ρ => ∀ σ H, Rel c M' B H σ ρ → D.nx σ H
  | .rt d ρ => ∀ v H, RetOk c B rs H v d ρ → D.rt v H
  | .bk ρ => ∀ σ H, Rel c Ml B H σ ρ → D.bk σ H
  | .ct ρ => ∀ σ H, Rel c Ml B H σ ρ → D.ct σ H
  | .ex k ρ => ∀ σ H M, Rel c M B H σ ρ → We k none σ H) (fun k => ∀ σ H, FrB B H → We k none σ H)
structure VSt (X : Cx) (c : Ct) (We : WX) (rs : Sh) (Ml M M' : Nat → Mo) (st : Stmt) (g : SF) : Prop where
  ex : ∃ t, PS X st t ∧ ∀ (B : Bs) (σ : L2.St) (H : Hp) (ρ : Rho) (D : Ends), Rel c M B H σ ρ → PoS c Ml M' B rs We (g ρ) D → t D σ H
structure VSs (X : Cx) (c : Ct) (We : WX) (rs : Sh) (Ml M M' : Nat → Mo) (sts : List Stmt) (g : SF) : Prop where
  ex : ∃ t, PSs X sts t ∧ ∀ (B : Bs) (σ : L2.St) (H : Hp) (ρ : Rho) (D : Ends), Rel c M B H σ ρ → PoS c Ml M' B rs We (g ρ) D → t D σ H

/-! ### meanings -/
def sNx : SF := fun ρ => .ok (.nx ρ)
def sSeq (f g : SF) : SF := fun ρ => (f ρ).bind fun out => match out with
  | .nx ρ => g ρ
  | o => .ok o
def sSet (i : Nat) (f : EF) : SF := fun ρ => (f ρ).bind fun d => gd (decide (i < ρ.length)) (.ok (.nx (ρ.set i (some d))))
def sDrop (f : EF) : SF := fun ρ => (f ρ).bind fun _ => .ok (.nx ρ)
def sRet (f : EF) : SF := fun ρ => (f ρ).bind fun d => .ok (.rt d ρ)
def sRetN : SF := fun ρ => .ok (.rt .non ρ)
def sRetV (i : Nat) : SF := fun ρ => (eVar i ρ).bind fun d => .ok (.rt d (ρ.set i none))
def sIf (t : TF) (f g : SF) : SF := fun ρ => (t ρ).bind fun b => if b = true then f ρ else g ρ
def sBk : SF := fun ρ => .ok (.bk ρ)
def sCt : SF := fun ρ => .ok (.ct ρ)
def sExc (k : Value) : SF := fun _ => .exc k
def lstD : D → O (List D)
  | .lst l => .ok l
  | _ => .bad
def sApp (i : Nat) (f : EF) : SF := fun ρ => (eVar i ρ).bind fun x => (lstD x).bind fun l => (f ρ).bind fun d => gd (decide (l.length < 100000)) (.ok (.nx (ρ.set i (some (.lst (l ++ [d]))))))
/-- x.append(y), y its own: it goes -/
def sAppV (i j : Nat) : SF := fun ρ => (eVar i ρ).bind fun x => (lstD x).bind fun l => (eVar j ρ).bind fun d => gd (decide (l.length < 100000) && decide (i ≠ j)) (.ok (.nx ((ρ.set j none).set i (some (.lst (l ++ [d]))))))
def sClear (i : Nat) : SF := fun ρ => (eVar i ρ).bind fun x => (lstD x).bind fun _ => .ok (.nx (ρ.set i (some (.lst []))))

section
variable {c : Ct} {M M' M1 Ml : Nat → Mo} {B : Bs} {H H' : Hp} {σ : L2.St} {ρ : Rho} {X : Cx} {We : WX} {k al al' i j : Nat} {rs : Sh} {st : Stmt} {sts : List Stmt} {e : Expr} {f : EF} {g g' : SF} {t : TF} {pos : Pos}
theorem Po.exc_up {α : Type} {r : O α} {P : α → Prop} {Fs : Nat → List Addr} (R : RelF c M B Fs H σ ρ) (h : Po r P (fun k => ∀ σ H, FrB B H → We k none σ H)) : Po r P (fun k => ∀ H', Same H H' → We k none σ H') :=
  h.imp (fun _ _ q => q) fun _ _ q H' hs => q σ H' fun p hp a o e hn => hs a o (R.fr p hp a o e hn)
theorem vss_nil : VSs X c We rs Ml M M [] sNx := ⟨_, pss_nil, fun B σ H ρ D R po => po σ H R⟩
theorem vss_one (h : VSt X c We rs Ml M M' st g) : VSs X c We rs Ml M M' [st] g := by
  obtain ⟨t, p, s⟩ := h.ex
  exact ⟨t, pss_one p, s⟩
theorem vss_cons (h : VSt X c We rs Ml M M1 st g) (h' : VSs X c We rs Ml M1 M' sts g') : VSs X c We rs Ml M M' (st :: sts) (sSeq g g') := by
  obtain ⟨t, p, s⟩ := h.ex
  obtain ⟨t', p', s'⟩ := h'.ex
  refine ⟨_, pss_cons p p', fun B σ H ρ D R po => s B σ H ρ _ R ((Po.bind po).imp (fun out _ q => ?_) fun _ _ q => q)⟩
  cases out with
  | nx ρ => exact fun σ H R => s' B σ H ρ D R q
  | rt d ρ => exact q
  | bk ρ => exact q
  | ct ρ => exact q
  | ex k ρ => exact q
theorem vs_pass : VSt X c We rs Ml M M (.Pass pos) sNx := ⟨_, ps_pass, fun B σ H ρ D R po => po σ H R⟩
theorem vs_doc {x j p} : VSt X c We rs Ml M M (.Expr (.Constant (.str x) j p) pos) sNx := ⟨_, ps_doc, fun B σ H ρ D R po => po σ H R⟩
theorem vs_bk : VSt X c We rs Ml Ml M' (.Break pos) sBk := ⟨_, ps_break, fun B σ H ρ D R po => po σ H R⟩
theorem vs_ct : VSt X c We rs Ml Ml M' (.Continue pos) sCt := ⟨_, ps_continue, fun B σ H ρ D R po => po σ H R⟩
theorem vs_expr (h : VE X c M We al e f) (hs : swapsWith e none pos.line X.env = pure false := by rfl) : VSt X c We rs Ml M M (.Expr e pos) (sDrop f) := by
  obtain ⟨te, p, s⟩ := h.ex
  refine ⟨_, ps_expr p hs, fun B σ H ρ D R po => ?_⟩
  obtain ⟨Fs, R⟩ := R
  exact s _ σ H ρ _ R.slots ((Po.exc_up R (Po.bind po)).imp (fun d _ q v H' hs hi => q σ H' ⟨Fs, R.same hs⟩) fun _ _ q => q)
theorem vs_set {x : Str} {pos' : Pos} (i : Nat) (al : Nat) (h : VE X c M We al e f) (hm : M i = .v al) (hal : al ≤ 1) (hN : X.N.Nodup) (hi : X.N[i]? = some x := by rfl) (hx : Loc X.env.scope x := by first | exact .inl rfl | exact .inr rfl) (hs : swapsWith e (some (.Name x pos')) pos.line X.env = pure false := by rfl)
    (hf : X.fn x = true ∨ X.env.scope.names.lookup x = some .local := by first | exact .inl rfl | exact .inr rfl) : VSt X c We rs Ml M M (.Assign [.Name x pos'] e pos) (sSet i f) := by
  obtain ⟨te, p, s⟩ := h.ex
  refine ⟨_, ps_set (i := i) hN hi hx p hs hf, fun B σ H ρ D R po => ?_⟩
  obtain ⟨Fs, R⟩ := R
  refine s _ σ H ρ _ R.slots ((Po.exc_up R (Po.bind po)).imp (fun d _ q v H' hs hi => ?_) fun _ _ q => q)
  obtain ⟨hl, q⟩ := Po.gd q
  exact q _ H' (R.setV hm hal (of_decide_eq_true hl) hi hs)
theorem vs_setO {x : Str} {pos' : Pos} {s : Sh} (i : Nat) (h : VO X c M We s e f) (hm : M i = .o s) (hN : X.N.Nodup) (hi : X.N[i]? = some x := by rfl) (hx : Loc X.env.scope x := by first | exact .inl rfl | exact .inr rfl) (hs : swapsWith e (some (.Name x pos')) pos.line X.env = pure false := by rfl)
    (hf : X.fn x = true ∨ X.env.scope.names.lookup x = some .local := by first | exact .inl rfl | exact .inr rfl) : VSt X c We rs Ml M M (.Assign [.Name x pos'] e pos) (sSet i f) := by
  obtain ⟨te, p, s⟩ := h.ex
  refine ⟨_, ps_set (i := i) hN hi hx p hs hf, fun B σ H ρ D R po => ?_⟩
  obtain ⟨Fs, R⟩ := R
  refine s _ σ H ρ _ R.slots ((Po.exc_up R (Po.bind po)).imp (fun d _ q v H' F hs hn nd ho => ?_) fun _ _ q => q)
  obtain ⟨hl, q⟩ := Po.gd q
  exact q _ H' (R.setO hm (of_decide_eq_true hl) hs hn nd ho)
/-- .. the slot of another kind then -/
theorem vs_setM {x : Str} {pos' : Pos} (i : Nat) (al : Nat) (h : VE X c M We al e f) (hm : ∀ s, M i ≠ .p s) (hal : al ≤ 1) (hN : X.N.Nodup) (hi : X.N[i]? = some x := by rfl) (hx : Loc X.env.scope x := by first | exact .inl rfl | exact .inr rfl) (hs : swapsWith e (some (.Name x pos')) pos.line X.env = pure false := by rfl)
    (hf : X.fn x = true ∨ X.env.scope.names.lookup x = some .local := by first | exact .inl rfl | exact .inr rfl) : VSt X c We rs Ml M (fset M i (.v al)) (.Assign [.Name x pos'] e pos) (sSet i f) := by
  obtain ⟨te, p, s⟩ := h.ex
  refine ⟨_, ps_set (i := i) hN hi hx p hs hf, fun B σ H ρ D R po => ?_⟩
  obtain ⟨Fs, R⟩ := R
  refine s _ σ H ρ _ R.slots ((Po.exc_up R (Po.bind po)).imp (fun d _ q v H' hs hi => ?_) fun _ _ q => q)
  obtain ⟨hl, q⟩ := Po.gd q
  exact q _ H' (R.setVM hm hal (of_decide_eq_true hl) hi hs)
theorem vs_setOM {x : Str} {pos' : Pos} {s : Sh} (i : Nat) (h : VO X c M We s e f) (hm : ∀ s, M i ≠ .p s) (hN : X.N.Nodup) (hi : X.N[i]? = some x := by rfl) (hx : Loc X.env.scope x := by first | exact .inl rfl | exact .inr rfl) (hs : swapsWith e (some (.Name x pos')) pos.line X.env = pure false := by rfl)
    (hf : X.fn x = true ∨ X.env.scope.names.lookup x = some .local := by first | exact .inl rfl | exact .inr rfl) : VSt X c We rs Ml M (fset M i (.o s)) (.Assign [.Name x pos'] e pos) (sSet i f) := by
  obtain ⟨te, p, s⟩ := h.ex
  refine ⟨_, ps_set (i := i) hN hi hx p hs hf, fun B σ H ρ D R po => ?_⟩
  obtain ⟨Fs, R⟩ := R
  refine s _ σ H ρ _ R.slots ((Po.exc_up R (Po.bind po)).imp (fun d _ q v H' F hs hn nd ho => ?_) fun _ _ q => q)
  obtain ⟨hl, q⟩ := Po.gd q
  exact q _ H' (R.setOM hm (of_decide_eq_true hl) hs hn nd ho)
/-- y = [.. for ..] on one line -/
theorem RelF.newNot {Fs : Nat → List Addr} (R : RelF c M B Fs H σ ρ) {a : Addr} (e : H a = none) : ∀ l, a ∉ Fs l := fun l z => by
  obtain ⟨o, e', _⟩ := R.th l a z
  rw [e] at e'; cases e'
theorem vs_ret (h : VO X c M We rs e f) : VSt X c We rs Ml M M' (.Return (some e) pos) (sRet f) := by
  obtain ⟨te, p, s⟩ := h.ex
  refine ⟨_, ps_ret p, fun B σ H ρ D R po => ?_⟩
  obtain ⟨Fs, R⟩ := R
  refine s _ σ H ρ _ R.slots ((Po.exc_up R (Po.bind po)).imp (fun d _ q v H' F hs hn nd ho => ?_) fun _ _ q => q)
  refine q v H' ⟨M, Fs, σ, F, R.same hs, nd, fun a ha => ⟨R.old a (hn a ha), R.newNot (hn a ha)⟩, ho.mono (fun a x => ?_) fun a o _ e => e⟩
  rcases x.1 with y | y
  · exact ⟨y.2, y.1, x.2⟩
  · exact ⟨R.old a y, R.newNot y, x.2⟩
theorem vs_retN : VSt X c We .fz Ml M M' (.Return none pos) sRetN := by
  refine ⟨_, ps_retN, fun B σ H ρ D R po => ?_⟩
  obtain ⟨Fs, R⟩ := R
  exact po .non H ⟨M, Fs, σ, [], R, by simp, by simp, rfl, .non⟩
/-- return x, x its own -/
theorem vs_retV {x : Str} {p2 : Pos} (i : Nat) (hm : M i = .o rs) (hN : X.N[i]? = some x := by rfl) (hv : Vis X.env.scope x := by first | exact Or.inl rfl | exact Or.inr (Or.inl rfl) | exact Or.inr (Or.inr rfl)) (hd : (x == ("__debug__" : Str)) = false := by decide)
    (hcd : (x == ("__classdict__" : Str)) = false := by decide) : VSt X c We rs Ml M M' (.Return (some (.Name x p2)) pos) (sRetV i) := by
  refine ⟨_, ps_ret (pv i hN hv hd hcd), fun B σ H ρ D R po => ?_⟩
  obtain ⟨Fs, R⟩ := R
  have po := Po.bind po
  unfold eVar at po
  cases hr : ρ[i]? with
  | none => rw [hr] at po; exact po.elim
  | some o =>
    cases o with
    | none => rw [hr] at po; exact po.elim
    | some d =>
      rw [hr] at po
      obtain ⟨v, h1, h2⟩ := R.sl i d hr
      have hi : i < ρ.length := (List.getElem?_eq_some_iff.mp hr).1
      rw [hm] at h2
      have R2 : RelF c M B (fset Fs i []) H (σ.set i none) (ρ.set i none) := R.put (fun a o _ e => e) (fun _ e => e) (by simp) (by simp) (by simp) (fun j hj => List.getElem?_set_ne (Ne.symm hj)) (fun j hj => List.getElem?_set_ne (Ne.symm hj)) (by simp [R.len]) (fun q hq e => by
        have hs := (R.mp q hq).2
        rw [e, hm] at hs; cases hs) (fun s hs => R.own i s hs) fun d' e => by
        rw [List.getElem?_set_self hi] at e; cases e
      refine ⟨v, h1, po v H ⟨M, fset Fs i [], σ.set i none, Fs i, R2, R.nd i, fun a ha => ⟨R.own i rs hm a ha, fun j z => ?_⟩, ?_⟩⟩
      · by_cases hj : j = i
        · rw [hj, fset_self] at z; simp at z
        · rw [fset_ne hj] at z; exact hj (R.dj j i a z ha)
      · refine Own.mono (fun a x => ⟨x.2, fun j z => ?_, x.1 i⟩) (fun a o _ e => e) h2
        by_cases hj : j = i
        · rw [hj, fset_self] at z; simp at z
        · rw [fset_ne hj] at z; exact x.1 j z
theorem vs_if {cnd : Expr} {a b : List Stmt} (hc : VT X c M We cnd t) (ha : VSs X c We rs Ml M M' a g) (hb : VSs X c We rs Ml M M' b g') : VSt X c We rs Ml M M' (.If cnd a b pos) (sIf t g g') := by
  obtain ⟨tt, p, s⟩ := hc.ex
  obtain ⟨ta, pa, sa⟩ := ha.ex
  obtain ⟨tb, pb, sb⟩ := hb.ex
  refine ⟨_, ps_if p pa pb, fun B σ H ρ D R po => ?_⟩
  obtain ⟨Fs, R⟩ := R
  refine s _ σ H ρ _ R.slots ((Po.exc_up R (Po.bind po)).imp (fun k _ q H' hs => ?_) fun _ _ q => q)
  cases k with
  | true => exact iteT (sa B σ H' ρ D ⟨Fs, R.same hs⟩ q)
  | false => exact iteF (sb B σ H' ρ D ⟨Fs, R.same hs⟩ q)
/-- an own list becomes frozen from here on -/
theorem vss_freeze (i : Nat) {s : Sh} (hm : M i = .o s) (h : VSs X c We rs Ml (fset M i (.v 0)) M' sts g) : VSs X c We rs Ml M M' sts g := by
  obtain ⟨t, p, s'⟩ := h.ex
  refine ⟨t, p, fun B σ H ρ D R po => s' B σ H ρ D ?_ po⟩
  obtain ⟨Fs, R⟩ := R
  have hsub : ∀ j a, a ∈ fset Fs i [] j → a ∈ Fs j := fun j a z => by
    by_cases hj : j = i
    · rw [hj, fset_self] at z; simp at z
    · rw [fset_ne hj] at z; exact z
  refine ⟨fset Fs i [], fun j => ?_, fun j l a ha hb => R.dj j l a (hsub j a ha) (hsub l a hb), fun j a ha => R.th j a (hsub j a ha), R.fr, fun p hp j a ha => R.out p hp j a (hsub j a ha), fun j s hs a ha => ?_, R.old, fun j d e => ?_, fun q hq => ?_, R.len⟩
  · by_cases hj : j = i
    · rw [hj, fset_self]; simp
    · rw [fset_ne hj]; exact R.nd j
  · by_cases hj : j = i
    · rw [hj, fset_self] at ha; simp at ha
    · rw [fset_ne hj] at hs ha; exact R.own j s hs a ha
  · obtain ⟨v, e1, e2⟩ := R.sl j d e
    refine ⟨v, e1, ?_⟩
    by_cases hj : j = i
    · subst hj
      rw [fset_self, fset_self]
      rw [hm] at e2
      refine ⟨by decide, rfl, ?_⟩
      refine Own.toIs (W' := (wd B (fset Fs j [])).n) (fun a x => ⟨fun l z => x.1 l (hsub l a z), x.2⟩) (fun a ha => ⟨fun l z => ?_, R.own j s hm a ha⟩) e2
      by_cases hl : l = j
      · rw [hl, fset_self] at z; simp at z
      · rw [fset_ne hl] at z; exact hl (R.dj l j a z ha)
    · rw [fset_ne hj, fset_ne hj]
      refine e2.mono (fun al a hal x y => ?_) fun a o _ e => e
      match al, hal, x with
      | 0, _, x => exact ⟨fun l z => x.1 l (hsub l a z), x.2⟩
      | 1, _, x => exact fun l z => x l (hsub l a z)
  · obtain ⟨h1, h2⟩ := R.mp q hq
    refine ⟨h1, ?_⟩
    rw [fset_ne (fun e => by rw [e, hm] at h2; cases h2)]
    exact h2

/-- a slot is given up ahead of what follows, it may be of another kind then -/
theorem vss_kill (i : Nat) (m : Mo) (hm : ∀ s, M i ≠ .p s) (h : VSs X c We rs Ml (fset M i m) M' sts g) : VSs X c We rs Ml M M' sts (fun ρ => g (ρ.set i none)) := by
  obtain ⟨t, p, s⟩ := h.ex
  refine ⟨t, p, fun B σ H ρ D R po => ?_⟩
  obtain ⟨Fs, R⟩ := R
  exact s B σ H _ D ⟨_, R.remode m hm⟩ po

/-! ### an own list grows -/
theorem eVar_ok {d : D} (h : eVar i ρ = .ok d) : ρ[i]? = some (some d) := by
  unfold eVar at h
  cases hr : ρ[i]? with
  | none => rw [hr] at h; cases h
  | some o =>
    cases o with
    | none => rw [hr] at h; cases h
    | some d' => rw [hr] at h; cases h; rfl
/-- an own list stands at p; it may be changed there -/
theorem RelF.lst {Fs : Nat → List Addr} {s : Sh} {ds : List D} (R : RelF c M B Fs H σ ρ) (hm : M i = .o (.l s)) (e : ρ[i]? = some (some (.lst ds))) : ∃ p xs Gs, σ[i]? = some (some (.ref p)) ∧ H p = some (.lst xs) ∧ P3 (Own c (wd B Fs).n H s) xs ds Gs ∧ Fs i = p :: Gs.flatten ∧
    (∀ H1 o (W' : Addr → Prop) v d G, Same H H1 → G ∈ Gs → (∀ a, (wd B Fs).n a → H a ≠ none → W' a) → Own c (wd B Fs).n H s v d G → Own c W' (upd H1 p o) s v d G) ∧
    ∀ H1 xs' ds' Gs', Same H H1 → P3 (Own c (wd B (fset Fs i (p :: Gs'.flatten))).n (upd H1 p (.lst xs')) s) xs' ds' Gs' → (p :: Gs'.flatten).Nodup → (∀ a ∈ Gs'.flatten, a ∈ Gs.flatten ∨ H a = none) →
      RelF c M B (fset Fs i (p :: Gs'.flatten)) (upd H1 p (.lst xs')) σ (ρ.set i (some (.lst ds'))) := by
  obtain ⟨v, h1, h2⟩ := R.sl i _ e
  have hi : i < ρ.length := (List.getElem?_eq_some_iff.mp e).1
  rw [hm] at h2
  obtain ⟨p, xs, ds0, Gs, rfl, ed, hp, h3, eF⟩ := h2
  cases ed
  have nd := R.nd i
  rw [eF] at nd
  have hpG : p ∉ Gs.flatten := (List.nodup_cons.mp nd).1
  refine ⟨p, xs, Gs, h1, hp, h3, eF, fun H1 o W' v d G hs hG hw ho => ?_, fun H1 xs' ds' Gs' hs h5 nd' hn => ?_⟩
  · refine ho.track.mono (fun a x => hw a x.1 x.2) fun a u x eu => ?_
    have hap : a ≠ p := by
      intro z
      subst z
      rcases x with x | x | x
      · exact x.1.1 i (by rw [eF]; simp)
      · exact hpG (mem_flat hG x)
      · rw [hp] at eu; cases eu; exact x
    rw [upd_ne hap]; exact hs a u eu
  · have there : ∀ a ∈ Gs'.flatten, ∃ o, upd H1 p (.lst xs') a = some o ∧ ¬ sta o := fun a ha => by
      obtain ⟨G, hG, hx⟩ := List.mem_flatten.mp ha
      obtain ⟨v', d', h'⟩ := h5.mem hG
      exact h'.there a hx
    refine R.put (H' := upd H1 p (.lst xs')) (fun a o hna ea => ?_) (fun a ea => ?_) nd' (fun a ha => ?_) (fun a ha => ?_) (fun j hj => rfl) (fun j hj => List.getElem?_set_ne (Ne.symm hj)) (by simp [R.len]) (fun q hq eq => ?_) (fun s hs => R.own i s hs) fun d' ed' => ?_
    · rw [upd_ne (fun z => hna (by rw [eF, z]; simp))]; exact hs a o ea
    · by_cases h : a = p
      · rw [h, upd_same] at ea; cases ea
      · rw [upd_ne h] at ea; exact hs.free ea
    · rcases List.mem_cons.mp ha with z | z
      · exact .inl (by rw [eF, z]; simp)
      · rcases hn a z with y | y
        · exact .inl (by rw [eF]; simp only [List.mem_cons]; exact .inr y)
        · exact .inr y
    · rcases List.mem_cons.mp ha with z | z
      · rw [z, upd_same]; exact ⟨_, rfl, fun y => y⟩
      · exact there a z
    · have hs2 := (R.mp q hq).2
      rw [eq, hm] at hs2; cases hs2
    · rw [List.getElem?_set_self hi] at ed'
      cases ed'
      refine ⟨_, h1, ?_⟩
      rw [hm]
      exact ⟨p, xs', ds', Gs', rfl, rfl, upd_same, h5, rfl⟩

theorem P3.fzNil {W : Addr → Prop} : ∀ {vs ds Fs}, P3 (Own c W H .fz) vs ds Fs → ∀ G ∈ Fs, G = []
  | _, _, _, .nil, _, h => by simp at h
  | _, _, _, .cons h t, G, hG => by
    rcases List.mem_cons.mp hG with e | hG
    · rw [e]; exact h.1
    · exact t.fzNil G hG
theorem flat_nil {Gs : List (List Addr)} (h : ∀ G ∈ Gs, G = []) : Gs.flatten = [] := by
  induction Gs with
  | nil => rfl
  | cons G Gs ih => rw [List.flatten_cons, h G (by simp), ih fun G hG => h G (by simp [hG])]; rfl
/-- a new frozen item at the end of an own list of frozen items -/
theorem RelF.app {Fs : Nat → List Addr} {ds : List D} {v : V} {d : D} (R : RelF c M B Fs H σ ρ) (hm : M i = .o (.l .fz)) (e : ρ[i]? = some (some (.lst ds))) (hs : Same H H') (hv : Is c (NW (wd B Fs) 0 H) H' v d) :
    ∃ p xs, σ[i]? = some (some (.ref p)) ∧ H p = some (.lst xs) ∧ xs.length = ds.length ∧ Rel c M B (upd H' p (.lst (xs ++ [v]))) σ (ρ.set i (some (.lst (ds ++ [d])))) := by
  obtain ⟨p, xs, Gs, h1, hp, h3, eF, keep, put⟩ := R.lst hm e
  refine ⟨p, xs, h1, hp, h3.length.1, _, put H' (xs ++ [v]) (ds ++ [d]) (Gs ++ [[]]) hs ?_ ?_ ?_⟩
  · have sub : ∀ a, (wd B Fs).n a → (wd B (fset Fs i (p :: (Gs ++ [[]]).flatten))).n a := fun a x => ⟨fun l z => by
      by_cases hl : l = i
      · rw [hl, fset_self] at z
        exact x.1 i (by rw [eF]; simpa using z)
      · rw [fset_ne hl] at z; exact x.1 l z, x.2⟩
    refine (h3.imp fun v d G hG ho => keep H' _ _ v d G hs hG (fun a x _ => sub a x) ho).append (.cons ⟨rfl, ?_⟩ .nil)
    refine hv.track.mono (fun a x => sub a (x.1.elim (fun y => y) fun y => ⟨R.newNot y, R.old a y⟩)) fun a o x ea => ?_
    have hap : a ≠ p := by
      intro z
      subst z
      rcases x with x | x
      · rcases x.1 with y | y
        · exact y.1 i (by rw [eF]; simp)
        · rw [hp] at y; cases y
      · have := hs _ _ hp
        rw [this] at ea; cases ea; exact x
    rw [upd_ne hap]; exact ea
  · have nd := R.nd i
    rw [eF] at nd
    simpa using nd
  · intro a ha
    exact .inl (by simpa using ha)
theorem po_var {α : Type} {f : D → O α} {P : α → Prop} {E : Value → Prop} (h : Po ((eVar i ρ).bind f) P E) : ∃ d, ρ[i]? = some (some d) ∧ Po (f d) P E := by
  cases hr : eVar i ρ with
  | ok x => rw [hr] at h; exact ⟨x, eVar_ok hr, h⟩
  | bad => rw [hr] at h; exact h.elim
  | exc kx =>
    unfold eVar at hr
    cases hq : ρ[i]? with
    | none => rw [hq] at hr; cases hr
    | some o => cases o <;> (rw [hq] at hr; cases hr)
theorem po_lst {α : Type} {f : List D → O α} {P : α → Prop} {E : Value → Prop} (h : Po ((eVar i ρ).bind fun x => (lstD x).bind f) P E) : ∃ ds, ρ[i]? = some (some (.lst ds)) ∧ Po (f ds) P E := by
  obtain ⟨d, e, h⟩ := po_var h
  cases d with
  | lst l => exact ⟨l, e, h⟩
  | _ => exact h.elim
theorem vs_app {x : Str} {p2 apos cpos : Pos} (i : Nat) (h : VE X c M We 0 e f) (hm : M i = .o (.l .fz)) (hN : X.N[i]? = some x := by rfl) (hv : Vis X.env.scope x := by first | exact Or.inl rfl | exact Or.inr (Or.inl rfl) | exact Or.inr (Or.inr rfl)) (hd : (x == ("__debug__" : Str)) = false := by decide)
    (hcd : (x == ("__classdict__" : Str)) = false := by decide) (hbase : attributeBase (.Name x p2) "append" X.env (eval (.Name x p2) X.env) = eval (.Name x p2) X.env := by rfl)
    (hfew : ((backTo cpos (starEach (e :: []) X.env)).all (fun x => !x.1) && (backToKw cpos (keywordEach [] X.env)).all (fun x => x.1.isSome) && decide ((e :: []).length + ([] : List Keyword).length + (if ([] : List Keyword).isEmpty then 0 else 1) < 30)) = true := by rfl)
    (hline : (apos.endLine == cpos.line) = true := by rfl) (he : starEach (e :: []) X.env = (false, eval e X.env) :: starEach [] X.env := by rfl) (hpl : (backTo cpos (starEach [] X.env)).any (·.1) = false := by rfl)
    (hs : swapsWith (.Call (.Attribute (.Name x p2) "append" apos) [e] [] cpos) none pos.line X.env = pure false := by rfl) :
    VSt X c We rs Ml M M (.Expr (.Call (.Attribute (.Name x p2) "append" apos) [e] [] cpos) pos) (sApp i f) := by
  obtain ⟨te, p, s⟩ := h.ex
  refine ⟨_, ps_expr (pe_bm PySem.F.plainAttrs_list PySem.F.slot_list_append PySem.F.type_list_append mt_append (pv i hN hv hd hcd) (pa_cons p pa_nil he) hbase hfew hline he hpl) hs, fun B σ H ρ D R po => ?_⟩
  obtain ⟨Fs, R⟩ := R
  obtain ⟨ds, er, po⟩ := po_lst po
  obtain ⟨v0, e1, hsat⟩ := R.sl i _ er
  rw [hm] at hsat
  obtain ⟨p0, xs, ds', Gs, rfl, ed, hp, h3, eF⟩ := hsat
  cases ed
  refine ⟨_, e1, .inl ⟨rfl, xs, .of hp⟩, s _ σ H ρ _ R.slots ((Po.exc_up R (Po.bind po)).imp (fun d _ q v H' hs hi => ?_) fun _ _ q => q)⟩
  obtain ⟨hz, q⟩ := Po.gd q
  obtain ⟨p', xs', e1', hp', hl', R'⟩ := R.app hm er hs hi
  rw [e1] at e1'
  cases e1'
  rw [hp] at hp'
  cases hp'
  exact ⟨p0, xs, v, rfl, rfl, hs _ _ hp, Nat.lt_of_lt_of_le (by rw [hl']; exact of_decide_eq_true hz) (by decide : 100000 ≤ sizeLine), q _ _ R'⟩
/-- x.append(y), both its own: y goes into x -/
theorem vs_appV {x y : Str} {p2 p3 apos cpos : Pos} (i j : Nat) (s : Sh) (hm : M i = .o (.l s)) (hmj : M j = .o s) (hN : X.N[i]? = some x := by rfl) (hv : Vis X.env.scope x := by first | exact Or.inl rfl | exact Or.inr (Or.inl rfl) | exact Or.inr (Or.inr rfl)) (hd : (x == ("__debug__" : Str)) = false := by decide)
    (hcd : (x == ("__classdict__" : Str)) = false := by decide) (hNj : X.N[j]? = some y := by rfl) (hvj : Vis X.env.scope y := by first | exact Or.inl rfl | exact Or.inr (Or.inl rfl) | exact Or.inr (Or.inr rfl)) (hdj : (y == ("__debug__" : Str)) = false := by decide)
    (hcdj : (y == ("__classdict__" : Str)) = false := by decide) (hbase : attributeBase (.Name x p2) "append" X.env (eval (.Name x p2) X.env) = eval (.Name x p2) X.env := by rfl)
    (hfew : ((backTo cpos (starEach (.Name y p3 :: []) X.env)).all (fun x => !x.1) && (backToKw cpos (keywordEach [] X.env)).all (fun x => x.1.isSome) && decide ((Expr.Name y p3 :: []).length + ([] : List Keyword).length + (if ([] : List Keyword).isEmpty then 0 else 1) < 30)) = true := by rfl)
    (hline : (apos.endLine == cpos.line) = true := by rfl) (he : starEach (.Name y p3 :: []) X.env = (false, eval (.Name y p3) X.env) :: starEach [] X.env := by rfl) (hpl : (backTo cpos (starEach [] X.env)).any (·.1) = false := by rfl)
    (hs : swapsWith (.Call (.Attribute (.Name x p2) "append" apos) [.Name y p3] [] cpos) none pos.line X.env = pure false := by rfl) :
    VSt X c We rs Ml M M (.Expr (.Call (.Attribute (.Name x p2) "append" apos) [.Name y p3] [] cpos) pos) (sAppV i j) := by
  refine ⟨_, ps_expr (pe_bm PySem.F.plainAttrs_list PySem.F.slot_list_append PySem.F.type_list_append mt_append (pv i hN hv hd hcd) (pa_cons (pv j hNj hvj hdj hcdj) pa_nil he) hbase hfew hline he hpl) hs, fun B σ H ρ D R po => ?_⟩
  obtain ⟨Fs, R⟩ := R
  obtain ⟨ds, er, po⟩ := po_lst po
  obtain ⟨d, erj, po⟩ := po_var po
  obtain ⟨hz, po⟩ := Po.gd po
  rw [Bool.and_eq_true, decide_eq_true_eq, decide_eq_true_eq] at hz
  obtain ⟨hz, hij⟩ := hz
  obtain ⟨v, e2, hj⟩ := R.sl j d erj
  rw [hmj] at hj
  have hjl : j < ρ.length := (List.getElem?_eq_some_iff.mp erj).1
  -- j gives its objects away
  obtain ⟨p, xs, Gs, h1, hp, h3, eF, keep, put⟩ := R.lst hm er
  have nx : ∀ a ∈ Fs j, a ≠ p := fun a ha z => hij (R.dj i j p (by rw [eF]; simp) (by rw [← z]; exact ha))
  have eF' : (p :: (Gs ++ [Fs j]).flatten) = Fs i ++ Fs j := by rw [eF]; simp
  have m3 : ∀ l a, a ∈ fset (fset Fs i (Fs i ++ Fs j)) j [] l → (l = i ∧ i ≠ j ∧ (a ∈ Fs i ∨ a ∈ Fs j)) ∨ (l ≠ i ∧ l ≠ j ∧ a ∈ Fs l) := fun l a z => by
    by_cases hl : l = j
    · rw [hl, fset_self] at z; simp at z
    · rw [fset_ne hl] at z
      by_cases hl' : l = i
      · rw [hl', fset_self] at z; exact .inl ⟨hl', hij, List.mem_append.mp z⟩
      · rw [fset_ne hl'] at z; exact .inr ⟨hl', hl, z⟩
  have m4 : ∀ l a, a ∈ fset (fset Fs i (Fs i ++ Fs j)) j [] l → ∃ l', a ∈ Fs l' := fun l a z => by
    rcases m3 l a z with ⟨_, _, y | y⟩ | ⟨_, _, y⟩
    · exact ⟨i, y⟩
    · exact ⟨j, y⟩
    · exact ⟨l, y⟩
  have sub : ∀ al a, (wd B Fs).at al a → (wd B (fset (fset Fs i (Fs i ++ Fs j)) j [])).at al a := fun al a x => match al, x with
    | 0, x => ⟨fun l z => let ⟨l', y⟩ := m4 l a z; x.1 l' y, x.2⟩
    | 1, x => fun l z => let ⟨l', y⟩ := m4 l a z; x l' y
    | _ + 2, x => trivial
  have R2 : RelF c M B (fset (fset Fs i (Fs i ++ Fs j)) j []) (upd H p (.lst (xs ++ [v]))) σ ((ρ.set j none).set i (some (.lst (ds ++ [d])))) := by
    refine ⟨fun l => ?_, fun l l' a ha hb => ?_, fun l a ha => ?_, fun q hq a o e hn => ?_, fun q hq l a ha => let ⟨l', y⟩ := m4 l a ha; R.out q hq l' a y, fun l s' hs' a ha => ?_, fun a e => ?_, fun l d' e => ?_, fun q hq => R.mp q hq, by simp [R.len]⟩
    · by_cases hl : l = j
      · rw [hl, fset_self]; simp
      · rw [fset_ne hl]
        by_cases hl' : l = i
        · rw [hl', fset_self]
          refine List.nodup_append.mpr ⟨R.nd i, R.nd j, fun a ha b hb e => ?_⟩
          exact hij (R.dj i j a ha (by rw [e]; exact hb))
        · rw [fset_ne hl']; exact R.nd l
    · rcases m3 l a ha with ⟨x1, x2, x3⟩ | ⟨x1, x2, x3⟩
      · rcases m3 l' a hb with ⟨y1, y2, y3⟩ | ⟨y1, y2, y3⟩
        · rw [x1, y1]
        · rcases x3 with x3 | x3
          · exact (y1 (R.dj l' i a y3 x3)).elim
          · exact (y2 (R.dj l' j a y3 x3)).elim
      · rcases m3 l' a hb with ⟨y1, y2, y3⟩ | ⟨y1, y2, y3⟩
        · rcases y3 with y3 | y3
          · exact (x1 (R.dj l i a x3 y3)).elim
          · exact (x2 (R.dj l j a x3 y3)).elim
        · exact R.dj l l' a x3 y3
    · by_cases hap : a = p
      · rw [hap, upd_same]; exact ⟨_, rfl, fun y => y⟩
      · rw [upd_ne hap]
        obtain ⟨l', y⟩ := m4 l a ha
        exact R.th l' a y
    · have hap : a ≠ p := fun z => by
        rcases R.out q hq i p (by rw [eF]; simp) with y | y
        · rw [z, y] at e; cases e
        · exact hn (by rw [z]; exact y)
      rw [upd_ne hap]; exact R.fr q hq a o e hn
    · rcases m3 l a ha with ⟨x1, x2, x3⟩ | ⟨x1, x2, x3⟩
      · rcases x3 with x3 | x3
        · exact R.own i _ hm a x3
        · exact R.own j _ hmj a x3
      · exact R.own l s' hs' a x3
    · by_cases hap : a = p
      · rw [hap, upd_same] at e; cases e
      · rw [upd_ne hap] at e; exact R.old a e
    · have hi : i < ρ.length := (List.getElem?_eq_some_iff.mp er).1
      by_cases hl' : l = i
      · rw [hl', List.getElem?_set_self (by simpa using hi)] at e
        cases e
        refine ⟨_, by rw [hl']; exact h1, ?_⟩
        rw [hl', hm, fset_ne hij, fset_self]
        refine ⟨p, xs ++ [v], ds ++ [d], Gs ++ [Fs j], rfl, rfl, upd_same, ?_, eF'.symm⟩
        refine (h3.imp fun v d G hG ho => keep H _ _ v d G (Same.refl H) hG (fun a x _ => sub 0 a x) ho).append (.cons ?_ .nil)
        refine Own.mono (fun a x => sub 0 a x) (fun a o x ea => ?_) hj
        have hap : a ≠ p := by
          intro z
          rcases x with x | x | x
          · exact x.1 i (by rw [eF, z]; simp)
          · exact nx a x z
          · rw [z, hp] at ea; cases ea; exact x
        rw [upd_ne hap]; exact ea
      · rw [List.getElem?_set_ne (Ne.symm hl')] at e
        by_cases hl : l = j
        · rw [hl, List.getElem?_set_self hjl] at e; cases e
        · rw [List.getElem?_set_ne (Ne.symm hl)] at e
          obtain ⟨v', q1, q2⟩ := R.sl l d' e
          refine ⟨v', q1, ?_⟩
          rw [fset_ne hl, fset_ne hl']
          refine q2.mono (fun al a _ x _ => sub al a x) fun a o x ea => ?_
          have hap : a ≠ p := by
            intro z
            rcases x with x | x | x
            · exact x i (by rw [eF, z]; simp)
            · exact hl' (R.dj l i a x (by rw [eF, z]; simp))
            · rw [z, hp] at ea; cases ea; exact x
          rw [upd_ne hap]; exact ea
  exact ⟨_, h1, .inl ⟨rfl, xs, .of hp⟩, _, e2, p, xs, v, rfl, rfl, hp, Nat.lt_of_lt_of_le (by rw [h3.length.1]; exact hz) (by decide : 100000 ≤ sizeLine), po _ _ ⟨_, R2⟩⟩
end
end VS
set_option Elab.async false
set_option linter.all false
set_option maxRecDepth 100000
set_option maxHeartbeats 2000000
/-! VG: loops, comprehensions, raise, a def's promise. -/
namespace VS
open PySem L2

/-- all that matters of H' stands in H'' -/
def Kp (W : Addr → Prop) (H' H'' : Hp) : Prop := ∀ a o, (W a ∨ sta o) → H' a = some o → H'' a = some o
/-- what is walked: at its i-th turn the i-th of ds -/
structure VI (X : Cx) (c : Ct) (M : Nat → Mo) (We : WX) (al : Nat) (tg it : Expr) (f : AF) : Prop where
  ex : ∃ wi, PI X tg it wi ∧ ∀ (w : Wd) (σ : L2.St) (H : Hp) (ρ : Rho) (R : It → Hp → Prop), Sl c M w H σ ρ →
    Po (f ρ) (fun ds => ∀ (J : It) (G : Hp → Prop) (Y : Nat → Hp → V → Hp → Prop) (H' : Hp), Same H H' → Walk J ds.length G Y → (∀ H'', Kp (NW w al H) H' H'' → G H'') →
      (∀ i Hi x Hi', i < ds.length → Kp (NW w al H) H' Hi → Y i Hi x Hi' → Same Hi Hi' ∧ ∃ d, ds[i]? = some d ∧ ∀ W' : Addr → Prop, (∀ a, NW w al H a → H' a ≠ none → W' a) → Is c W' Hi' x d) → R J H') (fun k => ∀ H', Same H H' → We k none σ H') → wi σ H R

def iSeq (f : EF) : AF := fun ρ => (f ρ).bind fun d => match d with
  | .lst l => .ok l
  | .tup l => .ok l
  | .str s => .ok (s.cps.toList.map fun ch => .str ⟨#[ch]⟩)
  | _ => .bad
def rngD (lo : Int) (n : Nat) : List D := (List.range n).map fun (i : Nat) => D.int (lo + (i : Int))
def iRg1 (f : EF) : AF := fun ρ => (f ρ).bind fun d => match d with
  | .int n => gd (decide (-(2 ^ 62) ≤ n) && decide (n < 2 ^ 62)) (.ok (rngD 0 n.toNat))
  | _ => .bad
def pairsD (xs ys : List D) : List D := List.zipWith (fun x y => .tup [x, y]) xs ys
def iZp (f g : EF) : AF := fun ρ => (f ρ).bind fun x => (lstD x).bind fun xs => (g ρ).bind fun y => (lstD y).bind fun ys => .ok (pairsD xs ys)
def iEn (f : EF) : AF := fun ρ => (f ρ).bind fun x => (lstD x).bind fun xs => .ok (pairsD (rngD 0 xs.length) xs)

section
variable {c : Ct} {M M' M1 Ml : Nat → Mo} {B : Bs} {H H' : Hp} {σ : L2.St} {ρ : Rho} {X : Cx} {We : WX} {k al al' i j : Nat} {rs : Sh} {st : Stmt} {sts : List Stmt} {e e2 tg it : Expr} {f f2 : EF} {g g' : SF} {t : TF} {fi : AF} {pos : Pos}
theorem PI.or {w1 w2 : TI} (h1 : PI X tg it w1) (h2 : PI X tg it w2) : PI X tg it (fun σ H R => w1 σ H R ∨ w2 σ H R) := ⟨fun pins s σ H R I h => h.elim (h1.run pins s σ H R I) (h2.run pins s σ H R I)⟩
theorem kp_item {W : Addr → Prop} {v : V} {d : D} {Hi : Hp} (h : Is c W H' v d) (hk : Kp W H' Hi) (W' : Addr → Prop) (hw : ∀ a, W a → H' a ≠ none → W' a) : Is c W' Hi v d := h.track.mono (fun a x => hw a x.1 x.2) fun a o x e => hk a o (x.elim (fun y => .inl y.1) .inr) e
theorem sq_list {W : Addr → Prop} {a : Addr} {xs : List V} {ds : List D} (h : Is c W H' (.ref a) (.lst ds)) : ∃ xs, IsA c W H' xs ds ∧ SqL c.K H' a xs ∧ ∀ H'', Kp W H' H'' → SqL c.K H'' a xs := by
  cases h with
  | lst h1 h2 h3 =>
    refine ⟨_, h3, .inl h2, fun H'' hk => ?_⟩
    rcases h2 with h2 | ⟨o, h2⟩
    · exact .inl (.inl (hk _ _ (.inl h1) h2))
    · exact .inl (.inr ⟨o, hk _ _ (.inl h1) h2⟩)
  | lstK h2 h3 => exact ⟨_, h3, .inr h2, fun _ _ => .inr h2⟩
theorem vi_seq (z : Cz X c We k) (h : VE X c M We al e f) : VI X c M We al tg e (iSeq f) := by
  obtain ⟨te, p, s⟩ := h.ex
  refine ⟨_, PI.or (pi_list p) (PI.or (pi_tup p) (pi_str p)), fun w σ H ρ R sl po => ?_⟩
  have po := Po.bind po
  by_cases hl : ∃ l, f ρ = .ok (.lst l)
  · obtain ⟨l, hl⟩ := hl
    refine .inl (s w σ H ρ _ sl (po.imp (fun d ed q v H' hs hi => ?_) fun _ _ q => q))
    rw [hl] at ed
    cases ed
    obtain ⟨a, xs0, rfl, _, _⟩ := is_lst hi
    obtain ⟨xs, h1, h2, h3⟩ := sq_list (xs := xs0) hi
    have q : ∀ (J : It) (G : Hp → Prop) (Y : Nat → Hp → V → Hp → Prop) (H' : Hp), Same H H' → Walk J l.length G Y → (∀ H'', Kp (NW w al H) H' H'' → G H'') → (∀ i Hi x Hi', i < l.length → Kp (NW w al H) H' Hi → Y i Hi x Hi' → Same Hi Hi' ∧ ∃ d, l[i]? = some d ∧ ∀ W' : Addr → Prop, (∀ a, NW w al H a → H' a ≠ none → W' a) → Is c W' Hi' x d) → R J H' := q
    refine ⟨a, rfl, ⟨xs, by rw [z.K]; exact h2⟩, q _ (fun H => SqL X.K H a xs) (YAt xs) H' hs (by rw [← h1.length]; exact walk_list) (fun H'' hk => by rw [z.K]; exact h3 H'' hk) fun i Hi x Hi' hi hk hy => ?_⟩
    obtain ⟨rfl, hx⟩ := hy
    obtain ⟨d, e1, e2⟩ := h1.get hx
    exact ⟨Same.refl _, d, e1, fun W' hw => kp_item e2 hk W' hw⟩
  · by_cases ht : ∃ l, f ρ = .ok (.tup l)
    · obtain ⟨l, ht⟩ := ht
      refine .inr (.inl (s w σ H ρ _ sl (po.imp (fun d ed q v H' hs hi => ?_) fun _ _ q => q)))
      rw [ht] at ed
      cases ed
      obtain ⟨a, xs, rfl, h2, h1⟩ := is_tup hi
      have q : ∀ (J : It) (G : Hp → Prop) (Y : Nat → Hp → V → Hp → Prop) (H' : Hp), Same H H' → Walk J l.length G Y → (∀ H'', Kp (NW w al H) H' H'' → G H'') → (∀ i Hi x Hi', i < l.length → Kp (NW w al H) H' Hi → Y i Hi x Hi' → Same Hi Hi' ∧ ∃ d, l[i]? = some d ∧ ∀ W' : Addr → Prop, (∀ a, NW w al H a → H' a ≠ none → W' a) → Is c W' Hi' x d) → R J H' := q
      refine ⟨a, rfl, ⟨xs, .of h2⟩, q _ (fun H => SqT X.K H a xs) (YAt xs) H' hs (by rw [← h1.length]; exact walk_tup) (fun H'' hk => .of (hk _ _ (.inr trivial) h2)) fun i Hi x Hi' hi hk hy => ?_⟩
      obtain ⟨rfl, hx⟩ := hy
      obtain ⟨d, e1, e2⟩ := h1.get hx
      exact ⟨Same.refl _, d, e1, fun W' hw => kp_item e2 hk W' hw⟩
    · refine .inr (.inr (s w σ H ρ _ sl (po.imp (fun d ed q v H' hs hi => ?_) fun _ _ q => q)))
      cases d with
      | lst l => exact (hl ⟨l, ed⟩).elim
      | tup l => exact (ht ⟨l, ed⟩).elim
      | str x =>
        rw [is_str hi]
        have q : ∀ (J : It) (G : Hp → Prop) (Y : Nat → Hp → V → Hp → Prop) (H' : Hp), Same H H' → Walk J (x.cps.toList.map fun ch => D.str ⟨#[ch]⟩).length G Y → (∀ H'', Kp (NW w al H) H' H'' → G H'') → (∀ i Hi y Hi', i < (x.cps.toList.map fun ch => D.str ⟨#[ch]⟩).length → Kp (NW w al H) H' Hi → Y i Hi y Hi' → Same Hi Hi' ∧ ∃ d, (x.cps.toList.map fun ch => D.str ⟨#[ch]⟩)[i]? = some d ∧ ∀ W' : Addr → Prop, (∀ a, NW w al H a → H' a ≠ none → W' a) → Is c W' Hi' y d) → R J H' := q
        refine ⟨x, rfl, q _ _ _ H' hs (by rw [List.length_map, Array.length_toList]; exact walk_str) (fun _ _ => trivial) fun i Hi y Hi' hi hk hy => ?_⟩
        obtain ⟨rfl, ch, e1, rfl⟩ := hy
        exact ⟨Same.refl _, .str ⟨#[ch]⟩, by rw [List.getElem?_map, Array.getElem?_toList, e1]; rfl, fun W' _ => .str _⟩
      | _ => exact q.elim

theorem rng_len (lo : Int) (n : Nat) : (rngD lo n).length = n := by simp [rngD]
theorem rng_get {lo : Int} {n i : Nat} (h : i < n) : (rngD lo n)[i]? = some (.int (lo + (i : Int))) := by simp [rngD, h]
theorem vi_range1 {p pos : Pos} (h : VE X c M We al e f) (hg : Gl X "range") (hm : X.mg "range" = none) (hs : starEach [e] X.env = [(false, eval e X.env)] := by rfl) (hs1 : starEach [e] X.env = (false, eval e X.env) :: starEach [] X.env := by rfl) :
    VI X c M We 0 tg (.Call (.Name "range" p) [e] [] pos) (iRg1 f) := by
  obtain ⟨te, pp, s⟩ := h.ex
  refine ⟨_, pi_range1 hg hm (pa_cons pp pa_nil hs1) hs, fun w σ H ρ R sl po => s w σ H ρ _ sl ((Po.bind po).imp (fun d _ q v H' hs hi => ?_) fun _ _ q => q)⟩
  cases d with
  | int n =>
    obtain ⟨hn, q⟩ := Po.gd q
    rw [Bool.and_eq_true, decide_eq_true_eq, decide_eq_true_eq] at hn
    have q : ∀ (J : It) (G : Hp → Prop) (Y : Nat → Hp → V → Hp → Prop) (H' : Hp), Same H H' → Walk J (rngD 0 n.toNat).length G Y → (∀ H'', Kp (NW w 0 H) H' H'' → G H'') → (∀ i Hi x Hi', i < (rngD 0 n.toNat).length → Kp (NW w 0 H) H' Hi → Y i Hi x Hi' → Same Hi Hi' ∧ ∃ d, (rngD 0 n.toNat)[i]? = some d ∧ ∀ W' : Addr → Prop, (∀ a, NW w 0 H a → H' a ≠ none → W' a) → Is c W' Hi' x d) → R J H' := q
    rw [is_int hi]
    refine ⟨n, rfl, hn.1, hn.2, q _ (fun _ => True) (YFn fun i => .int (0 + i)) H' hs (by rw [rng_len]; exact walk_range) (fun _ _ => trivial) fun i Hi x Hi' hi hk hy => ?_⟩
    obtain ⟨rfl, rfl⟩ := hy
    rw [rng_len] at hi
    exact ⟨Same.refl _, _, rng_get hi, fun W' _ => .int _⟩
  | _ => exact q.elim
theorem pairs_len (xs ys : List D) : (pairsD xs ys).length = min xs.length ys.length := by simp [pairsD]
theorem pairs_get {xs ys : List D} {i : Nat} {x y : D} (h : xs[i]? = some x) (h' : ys[i]? = some y) : (pairsD xs ys)[i]? = some (.tup [x, y]) := by simp [pairsD, List.getElem?_zipWith, h, h']
theorem vi_zip {p pos tpos : Pos} {elts : List Expr} {kk : Nat} (z : Cz X c We k) (h : VE X c M We al e f) (h2 : VE X c M We al e2 f2) (hg : Gl X "zip") (hm : X.mg "zip" = none) (hs : starEach [e, e2] X.env = (false, eval e X.env) :: starEach [e2] X.env := by rfl)
    (hs1 : starEach [e2] X.env = (false, eval e2 X.env) :: starEach [] X.env := by rfl) (hpl : (backTo pos (starEach [e2] X.env)).any (·.1) = false := by rfl) :
    VI X c M We al (.Tuple elts kk tpos) (.Call (.Name "zip" p) [e, e2] [] pos) (iZp f f2) := by
  obtain ⟨te, p1, s1⟩ := h.ex
  obtain ⟨te2, p2, s2⟩ := h2.ex
  refine ⟨_, pi_zip hg hm (pa_cons p1 (pa_cons p2 pa_nil hs1) hs) hs hpl, fun w σ H ρ R sl po => s1 w σ H ρ _ sl ((Po.bind po).imp (fun d _ q v H1 hs hi => ?_) fun _ _ q => q)⟩
  cases d with
  | lst l =>
    refine s2 w σ H1 ρ _ (sl.same hs) ((Po.bind (r := f2 ρ) q).imp (fun d2 _ q v2 H2 hs2 hi2 => ?_) fun _ _ q H2 hs2 => q H2 (hs.trans hs2))
    cases d2 with
    | lst l2 =>
      have q : ∀ (J : It) (G : Hp → Prop) (Y : Nat → Hp → V → Hp → Prop) (H' : Hp), Same H H' → Walk J (pairsD l l2).length G Y → (∀ H'', Kp (NW w al H) H' H'' → G H'') → (∀ i Hi x Hi', i < (pairsD l l2).length → Kp (NW w al H) H' Hi → Y i Hi x Hi' → Same Hi Hi' ∧ ∃ d, (pairsD l l2)[i]? = some d ∧ ∀ W' : Addr → Prop, (∀ a, NW w al H a → H' a ≠ none → W' a) → Is c W' Hi' x d) → R J H' := q
      have hi' := hi.same hs2
      have hi2' := hi2.up (NW.back hs)
      obtain ⟨a, xa, rfl, _, _⟩ := is_lst hi'
      obtain ⟨b, xb, rfl, _, _⟩ := is_lst hi2'
      obtain ⟨xs, a1, a2, a3⟩ := sq_list (xs := xa) hi'
      obtain ⟨ys, b1, b2, b3⟩ := sq_list (xs := xb) hi2'
      refine ⟨a, b, xs, ys, rfl, by rw [z.K]; exact a2, by rw [z.K]; exact b2, q _ (fun H => SqL X.K H a xs ∧ SqL X.K H b ys) _ H2 (hs.trans hs2) (walk_zip (by rw [pairs_len, a1.length, b1.length])) (fun H'' hk => by rw [z.K]; exact ⟨a3 _ hk, b3 _ hk⟩) fun i Hi x Hi' hi hk hy => ?_⟩
      obtain ⟨T, x1, y1, rfl, hT, rfl, e1, e2⟩ := hy
      obtain ⟨dx, f1, g1⟩ := a1.get e1
      obtain ⟨dy, f2, g2⟩ := b1.get e2
      have st : Same Hi (upd Hi T (.tup [x1, y1])) := same_new (Same.refl Hi) hT
      exact ⟨st, _, pairs_get f1 f2, fun W' hw => .tup upd_same (.cons ((kp_item g1 hk W' hw).same st) (.cons ((kp_item g2 hk W' hw).same st) .nil))⟩
    | _ => exact q.elim
  | _ => exact q.elim
theorem vi_enum {p pos tpos : Pos} {elts : List Expr} {kk : Nat} (z : Cz X c We k) (h : VE X c M We al e f) (hg : Gl X "enumerate") (hm : X.mg "enumerate" = none) (hs : starEach [e] X.env = [(false, eval e X.env)] := by rfl) (hs1 : starEach [e] X.env = (false, eval e X.env) :: starEach [] X.env := by rfl) :
    VI X c M We al (.Tuple elts kk tpos) (.Call (.Name "enumerate" p) [e] [] pos) (iEn f) := by
  obtain ⟨te, p1, s1⟩ := h.ex
  refine ⟨_, pi_enum hg hm (pa_cons p1 pa_nil hs1) hs, fun w σ H ρ R sl po => s1 w σ H ρ _ sl ((Po.bind po).imp (fun d _ q v H1 hs hi => ?_) fun _ _ q => q)⟩
  cases d with
  | lst l =>
    have q : ∀ (J : It) (G : Hp → Prop) (Y : Nat → Hp → V → Hp → Prop) (H' : Hp), Same H H' → Walk J (pairsD (rngD 0 l.length) l).length G Y → (∀ H'', Kp (NW w al H) H' H'' → G H'') → (∀ i Hi x Hi', i < (pairsD (rngD 0 l.length) l).length → Kp (NW w al H) H' Hi → Y i Hi x Hi' → Same Hi Hi' ∧ ∃ d, (pairsD (rngD 0 l.length) l)[i]? = some d ∧ ∀ W' : Addr → Prop, (∀ a, NW w al H a → H' a ≠ none → W' a) → Is c W' Hi' x d) → R J H' := q
    obtain ⟨a, xa, rfl, _, _⟩ := is_lst hi
    obtain ⟨xs, a1, a2, a3⟩ := sq_list (xs := xa) hi
    have hln : (pairsD (rngD 0 l.length) l).length = xs.length := by rw [pairs_len, rng_len, Nat.min_self, a1.length]
    refine ⟨a, xs, rfl, by rw [z.K]; exact a2, q _ (fun H => SqL X.K H a xs) _ H1 hs (by rw [hln]; exact walk_enum) (fun H'' hk => by rw [z.K]; exact a3 _ hk) fun i Hi x Hi' hi hk hy => ?_⟩
    obtain ⟨T, x1, y1, rfl, hT, rfl, e1, e2⟩ := hy
    cases e1
    obtain ⟨dy, f2, g2⟩ := a1.get e2
    have st : Same Hi (upd Hi T (.tup [.int (i : Nat), y1])) := same_new (Same.refl Hi) hT
    have hil : i < l.length := (List.getElem?_eq_some_iff.mp f2).1
    have e0 : (0 : Int) + (i : Int) = ((i : Nat) : Int) := Int.zero_add _
    exact ⟨st, _, pairs_get (rng_get hil) f2, fun W' hw => .tup upd_same (.cons (by rw [e0]; exact .int _) (.cons ((kp_item g2 hk W' hw).same st) .nil))⟩
  | _ => exact q.elim

/-! ### targets -/
structure VG (X : Cx) (c : Ct) (M : Nat → Mo) (al : Nat) (tg : Expr) (h : D → Rho → O Rho) : Prop where
  ex : ∃ g, PG X tg g ∧ ∀ (B : Bs) (Fs : Nat → List Addr) (H : Hp) (σ : L2.St) (ρ : Rho) (v : V) (d : D) (Q : L2.St → Hp → Prop), RelF c M B Fs H σ ρ → Is c ((wd B Fs).at al) H v d → Po (h d ρ) (fun ρ' => ∀ σ', Rel c M B H σ' ρ' → Q σ' H) (fun _ => True) → g v σ H Q
def gN (i : Nat) (d : D) (ρ : Rho) : O Rho := gd (decide (i < ρ.length)) (.ok (ρ.set i (some d)))
def gP (i j : Nat) (d : D) (ρ : Rho) : O Rho := match d with
  | .tup [x, y] => gd (decide (i < ρ.length) && decide (j < ρ.length)) (.ok ((ρ.set i (some x)).set j (some y)))
  | _ => .bad
theorem gN_ne {d : D} {kx : Value} : gN i d ρ ≠ .exc kx := by unfold gN gd; cases decide (i < ρ.length) <;> simp
theorem vg_name {x : Str} (i : Nat) (hm : M i = .v al') (hal : al' ≤ 1) (hle : al ≤ al') (hN : X.N.Nodup) (hi : X.N[i]? = some x := by rfl) (hx : Loc X.env.scope x := by first | exact .inl rfl | exact .inr rfl) (hf : X.fn x = true ∨ X.env.scope.names.lookup x = some .local := by first | exact .inl rfl | exact .inr rfl) : VG X c M al (.Name x pos) (gN i) := by
  refine ⟨_, pg_name (i := i) hN hi hx hf, fun B Fs H σ ρ v d Q R hv po => ?_⟩
  obtain ⟨hl, q⟩ := Po.gd po
  exact q _ (R.setV hm hal (of_decide_eq_true hl) (hv.up fun a x => .inl ((wd B Fs).up hle a x)) (Same.refl H))
theorem vg_pair {x y : Str} {kk : Nat} {p1 p2 : Pos} {aj : Nat} (i j : Nat) (z : Cz X c We k) (hm : M i = .v al') (hmj : M j = .v aj) (hal : al' ≤ 1) (hle : al ≤ al') (haj : aj ≤ 1) (hlj : al ≤ aj) (hN : X.N.Nodup) (hi : X.N[i]? = some x := by rfl) (hx : Loc X.env.scope x := by first | exact .inl rfl | exact .inr rfl) (hf : X.fn x = true ∨ X.env.scope.names.lookup x = some .local := by first | exact .inl rfl | exact .inr rfl)
    (hj : X.N[j]? = some y := by rfl) (hy : Loc X.env.scope y := by exact .inl rfl) (hfy : X.fn y = true ∨ X.env.scope.names.lookup y = some .local := by first | exact .inl rfl | exact .inr rfl) : VG X c M al (.Tuple [.Name x p1, .Name y p2] kk pos) (gP i j) := by
  refine ⟨_, pg_tup (n := 2) z.calm (pgs_cons (pg_name (i := i) hN hi hx hf) (pgs_cons (pg_name (i := j) hN hj hy hfy) pgs_nil)), fun B Fs H σ ρ v d Q R hv po => ?_⟩
  unfold gP at po
  split at po
  · obtain ⟨hl, q⟩ := Po.gd po
    rw [Bool.and_eq_true, decide_eq_true_eq, decide_eq_true_eq] at hl
    obtain ⟨a, xs, rfl, h1, h2⟩ := is_tup hv
    cases h2 with
    | cons g1 t =>
      cases t with
      | cons g2 t =>
        cases t
        rename_i v1 v2
        refine ⟨a, [v1, v2], rfl, .of h1, rfl, v1, [v2], rfl, v2, [], rfl, rfl, ?_⟩
        have R1 := R.setVF hm hal hl.1 (g1.up fun a x => .inl ((wd B Fs).up hle a x)) (Same.refl H)
        exact q _ (R1.setV hmj haj (by simpa using hl.2) (g2.up fun a x => .inl (wd_drop aj a ((wd B Fs).up hlj a x))) (Same.refl H))
  · exact po.elim

/-! ### for, while -/
def sFor (fi : AF) (h : D → Rho → O Rho) (g : SF) : SF := fun ρ => (fi ρ).bind fun ds => go ds ρ
where go : List D → SF
  | [], ρ => .ok (.nx ρ)
  | d :: ds, ρ => (h d ρ).bind fun ρ1 => (g ρ1).bind fun out => match out with
    | .nx ρ2 => go ds ρ2
    | .ct ρ2 => go ds ρ2
    | .bk ρ2 => .ok (.nx ρ2)
    | .rt d ρ2 => .ok (.rt d ρ2)
    | .ex k ρ2 => .ok (.ex k ρ2)
def sWhile (t : TF) (g : SF) : Nat → SF
  | 0, _ => .bad
  | n + 1, ρ => (t ρ).bind fun b => if b = true then (g ρ).bind fun out => match out with
      | .nx ρ2 => sWhile t g n ρ2
      | .ct ρ2 => sWhile t g n ρ2
      | .bk ρ2 => .ok (.nx ρ2)
      | .rt d ρ2 => .ok (.rt d ρ2)
      | .ex k ρ2 => .ok (.ex k ρ2)
    else .ok (.nx ρ)
/-- what stands at a loop's start, kept beside -/
def Bs.more (B : Bs) (H : Hp) (Fs : Nat → List Addr) : Bs := { B with pr := (H, fun a => ∃ i, a ∈ Fs i) :: B.pr }
theorem RelF.more {Fs : Nat → List Addr} (R : RelF c M B Fs H σ ρ) : RelF c M (B.more H Fs) Fs H σ ρ :=
  ⟨R.nd, R.dj, R.th, fun p hp a o e hn => (List.mem_cons.mp hp).elim (fun z => by rw [z] at e; exact e) fun z => R.fr p z a o e hn,
    fun p hp i a ha => (List.mem_cons.mp hp).elim (fun z => by rw [z]; exact .inr ⟨i, ha⟩) fun z => R.out p z i a ha, R.own, R.old, R.sl, R.mp, R.len⟩
theorem RelF.less {Fs Fs0 : Nat → List Addr} {H0 : Hp} (R : RelF c M (B.more H0 Fs0) Fs H σ ρ) : RelF c M B Fs H σ ρ :=
  ⟨R.nd, R.dj, R.th, fun p hp => R.fr p (List.mem_cons_of_mem _ hp), fun p hp => R.out p (List.mem_cons_of_mem _ hp), R.own, R.old, R.sl, R.mp, R.len⟩
theorem vs_for {body : List Stmt} {h : D → Rho → O Rho} (z : Cz X c We k) (hi : VI X c M We al tg it fi) (hal : al ≤ 1) (hg : VG X c M al tg h) (hb : VSs X c We rs M M M body g) (hfs : ∀ x, foldedSetIterable it X.env x = pure x := by intro _; rfl) : VSt X c We rs Ml M M (.For tg it body [] pos) (sFor fi h g) := by
  obtain ⟨wi, p, s⟩ := hi.ex
  obtain ⟨gg, pg, sg⟩ := hg.ex
  obtain ⟨tb, pb, sb⟩ := hb.ex
  refine ⟨_, ps_for z.po z.calm p pg pb hfs, fun B σ H ρ D R po => ?_⟩
  obtain ⟨Fs, R⟩ := R
  refine s _ σ H ρ _ R.slots ((Po.exc_up R (Po.bind po)).imp (fun ds _ q J G Y H' hs wk hG hy => ?_) fun _ _ q => q)
  have R0 := (R.same hs).more
  -- what is kept of what is walked
  have kp : ∀ {Hi σi ρi} {Fi : Nat → List Addr}, RelF c M (B.more H' Fs) Fi Hi σi ρi → Kp (NW (wd B Fs) al H) H' Hi := fun {Hi σi ρi Fi} Ri a o x e => by
    refine Ri.fr (H', fun a => ∃ i, a ∈ Fs i) (List.mem_cons_self) a o e ?_
    rintro ⟨i, hm⟩
    rcases x with x | x
    · rcases x with x | x
      · exact (wd B Fs).up hal a x i hm
      · exact R.newNot x i hm
    · obtain ⟨o', e', n'⟩ := (R.same hs).th i a hm
      rw [e] at e'; cases e'; exact n' x
  have reg : ∀ {Hi σi ρi} {Fi : Nat → List Addr}, RelF c M (B.more H' Fs) Fi Hi σi ρi → ∀ a, NW (wd B Fs) al H a → H' a ≠ none → (wd B Fi).at al a := fun {Hi σi ρi Fi} Ri a x y => by
    have nin : ∀ i, a ∉ Fi i := fun i z => by
      rcases Ri.out (H', fun a => ∃ i, a ∈ Fs i) (List.mem_cons_self) i a z with e | ⟨l, e⟩
      · exact y e
      · rcases x with x | x
        · exact (wd B Fs).up hal a x l e
        · exact R.newNot x l e
    have h0 : al = 0 → B.H0 a = none := fun e => by
      subst e
      rcases x with x | x
      · exact x.2
      · exact R.old a x
    match al, hal, h0 with
    | 0, _, h0 => exact ⟨nin, h0 rfl⟩
    | 1, _, _ => exact nin
  refine for_it wk (fun i σ H => ∃ ρi, Rel c M (B.more H' Fs) H σ ρi ∧ PoS c Ml M B rs We (sFor.go h g (ds.drop i) ρi) D) ⟨ρ, ⟨Fs, R0⟩, by rw [List.drop_zero]; exact q⟩ (fun i σi Hi _ ⟨ρi, ⟨Fi, Ri⟩, _⟩ => hG Hi (kp Ri)) ?_ ?_
  · rintro i x σi Hi Hi' hlt ⟨ρi, ⟨Fi, Ri⟩, qi⟩ hY
    obtain ⟨st, d, ed, isd⟩ := hy i Hi x Hi' hlt (kp Ri) hY
    have ed2 : ds.drop i = d :: ds.drop (i + 1) := by
      obtain ⟨h1, h2⟩ := List.getElem?_eq_some_iff.mp ed
      rw [List.drop_eq_getElem_cons h1, h2]
    rw [ed2] at qi
    have Ri' := Ri.same st
    have qi := Po.bind qi
    refine sg _ Fi Hi' σi ρi x d _ Ri' (isd _ (reg Ri)) (qi.imp (fun ρ1 _ q1 σ2 R2 => ?_) fun _ _ _ => trivial)
    have q1 := Po.bind q1
    refine sb _ σ2 Hi' ρ1 _ R2 (q1.imp (fun out _ q2 => ?_) fun kx _ q2 σ' H' hf => q2 σ' H' fun p hp => hf p (List.mem_cons_of_mem _ hp))
    cases out with
    | nx ρ2 => exact fun σ' H' R' => ⟨ρ2, R', q2⟩
    | ct ρ2 => exact fun σ' H' R' => ⟨ρ2, R', q2⟩
    | bk ρ2 => exact fun σ' H' ⟨F', R'⟩ => q2 σ' H' ⟨F', R'.less⟩
    | rt d ρ2 => exact fun v H' ⟨M2, F2, σ2, F, R', n1, n2, n3⟩ => q2 v H' ⟨M2, F2, σ2, F, R'.less, n1, n2, n3⟩
    | ex k ρ2 => exact fun σ' H' M2 ⟨F', R'⟩ => q2 σ' H' M2 ⟨F', R'.less⟩
  · rintro σi Hi ⟨ρi, ⟨Fi, Ri⟩, qi⟩
    rw [List.drop_length] at qi
    exact qi σi Hi ⟨Fi, Ri.less⟩
theorem vs_while {cnd : Expr} {body : List Stmt} (n : Nat) (z : Cz X c We k) (hc : VT X c M We cnd t) (hb : VSs X c We rs M M M body g) : VSt X c We rs Ml M M (.While cnd body [] pos) (sWhile t g n) := by
  obtain ⟨tt, p, s⟩ := hc.ex
  obtain ⟨tb, pb, sb⟩ := hb.ex
  refine ⟨_, ps_while z.po p pb, fun B σ H ρ D R po => ?_⟩
  refine ⟨fun m σ H => ∃ ρ, Rel c M B H σ ρ ∧ PoS c Ml M B rs We (sWhile t g m ρ) D, ⟨n, ρ, R, po⟩, ?_⟩
  rintro m σ H ⟨ρ, ⟨Fs, R⟩, q⟩
  cases m with
  | zero => exact q.elim
  | succ m =>
    refine s _ σ H ρ _ R.slots ((Po.exc_up R (Po.bind q)).imp (fun b _ q H' hs => ?_) fun _ _ q => q)
    cases b with
    | false => exact iteF (q σ H' ⟨Fs, R.same hs⟩)
    | true =>
      refine iteT ⟨fun σ' H' => ∃ ρ, Rel c M B H' σ' ρ ∧ PoS c Ml M B rs We (sWhile t g m ρ) D, fun σ' H' w => ⟨m, Nat.lt_succ_self m, w⟩, ?_⟩
      refine sb B σ H' ρ _ ⟨Fs, R.same hs⟩ ((Po.bind (r := g ρ) q).imp (fun out _ q2 => ?_) fun _ _ q => q)
      cases out with
      | nx ρ2 => exact fun σ' H' R' => ⟨ρ2, R', q2⟩
      | ct ρ2 => exact fun σ' H' R' => ⟨ρ2, R', q2⟩
      | bk ρ2 => exact q2
      | rt d ρ2 => exact q2
      | ex k ρ2 => exact q2
end
end VS
set_option Elab.async false
set_option linter.all false
set_option maxRecDepth 100000
set_option maxHeartbeats 2000000
/-! VH: comprehensions, raise, a def's promise by its body's meaning. -/
namespace VS
open PySem L2

abbrev W0 : WX := fun _ _ _ _ => False
structure VTs (X : Cx) (c : Ct) (M : Nat → Mo) (We : WX) (ifs : List Expr) (f : TF) : Prop where
  ex : ∃ tt, PTs X ifs tt ∧ ∀ (w : Wd) (σ : L2.St) (H : Hp) (ρ : Rho) (Q : Bool → Hp → Prop), Sl c M w H σ ρ →
    Po (f ρ) (fun b => ∀ H', Same H H' → Q b H') (fun k => ∀ H', Same H H' → We k none σ H') → tt σ H Q
def tTr : TF := fun _ => .ok true
/-- nothing is raised in a comprehension here -/
def noX {α : Type} : O α → O α
  | .exc _ => .bad
  | x => x
@[simp] theorem noX_ok {α : Type} (a : α) : noX (.ok a) = .ok a := rfl
@[simp] theorem noX_bad {α : Type} : noX (.bad : O α) = .bad := rfl
theorem Po.noX {α : Type} {r : O α} {P : α → Prop} {E E' : Value → Prop} (h : Po (noX r) P E) : Po r P E' := by
  cases r with
  | ok a => exact h
  | bad => exact h
  | exc k => exact h.elim
def cGo (i : Nat) (t : TF) (f : EF) : List D → Rho → O (List D)
  | [], _ => .ok []
  | d :: ds, ρ => (noX (t (ρ.set i (some d)))).bind fun b => if b = true then (noX (f (ρ.set i (some d)))).bind fun x => (cGo i t f ds ρ).bind fun xs => .ok (x :: xs) else cGo i t f ds ρ
def eLc (fi : AF) (i : Nat) (t : TF) (f : EF) : EF := fun ρ => (fi ρ).bind fun ds => gd (decide (i < ρ.length) && decide (ds.length ≤ 100000)) ((cGo i t f ds ρ).bind fun l => .ok (.lst l))

section
variable {c : Ct} {M M' M1 Ml : Nat → Mo} {B : Bs} {H H' : Hp} {σ : L2.St} {ρ : Rho} {X : Cx} {We : WX} {k al al' i j : Nat} {rs : Sh} {st : Stmt} {sts : List Stmt} {e e2 tg it : Expr} {f f2 : EF} {g g' : SF} {t : TF} {fi : AF} {pos : Pos}
theorem vts_nil : VTs X c M We [] tTr := ⟨_, pts_nil, fun w σ H ρ Q sl po => po H (Same.refl H)⟩
theorem vts_one (h : VT X c M We e t) : VTs X c M We [e] t := by
  obtain ⟨tt, p, s⟩ := h.ex
  exact ⟨tt, pts_one p, s⟩
/-- the context of a comprehension's block -/
theorem Cz.blk (z : Cz X c We k) {s : Shared} {H : Hp} {scope : Scope} {C : Addr} {cl : List (Str × Addr)} {fp : List Addr} : Cz (X.blk s H scope (compEnvC scope cl C X.env) fp) c W0 k :=
  ⟨z.K, z.calm, takes0N, z.hr, PassesOwn.never⟩
theorem Po.noexc {α : Type} {r : O α} {P : α → Prop} {E E' : Value → Prop} (h : Po r P E) (n : ∀ k, r ≠ .exc k) : Po r P E' := h.imp (fun _ _ q => q) fun k e _ => (n k e).elim
theorem wipe1 (σ : L2.St) (i : Nat) : wipe σ [i] = σ.set i none := rfl
/-- a comprehension of one for, its name alone: how it is read -/
theorem lc_read {x : Str} {elt : Expr} {ifs : List Expr} {scope : Scope} {s : Sh} {p2 : Pos} (i : Nat) (z : Cz X c We k) (hN : X.N.Nodup) (hi : VI X c M We al (.Name x p2) it fi) (ok : BlkOk X.N X.env.scope scope [(x, i)])
    (hg : ∀ (s : Shared) (H : Hp) (C : Addr) (cl : List (Str × Addr)) (fp : List Addr), PG (X.blk s H scope (compEnvC scope cl C X.env) fp) (.Name x p2) (gName i))
    (ht : ∀ (s : Shared) (H : Hp) (C : Addr) (cl : List (Str × Addr)) (fp : List Addr), VTs (X.blk s H scope (compEnvC scope cl C X.env) fp) c (fset M i (.v al)) W0 ifs t)
    (he : ∀ (s' : Shared) (H : Hp) (C : Addr) (cl : List (Str × Addr)) (fp : List Addr), VO (X.blk s' H scope (compEnvC scope cl C X.env) fp) c (fset M i (.v al)) W0 s elt f)
    : ∃ (wi : TI) (tt : TT) (te : TE), PI X (.Name x p2) it wi ∧ (∀ (s : Shared) (H : Hp) (C : Addr) (cl : List (Str × Addr)) (fp : List Addr), PTs (X.blk s H scope (compEnvC scope cl C X.env) fp) ifs tt) ∧ (∀ (s : Shared) (H : Hp) (C : Addr) (cl : List (Str × Addr)) (fp : List Addr), PE (X.blk s H scope (compEnvC scope cl C X.env) fp) elt te) ∧
      ∀ (w : Wd) (σ : L2.St) (H : Hp) (ρ : Rho) (Q : VK), Sl c M w H σ ρ → Po (eLc fi i t f ρ) (fun d => ∀ v H' F, Same H H' → (∀ a ∈ F, H a = none) → F.Nodup → Own c (fun a => NW w 0 H a ∧ a ∉ F) H' (.l s) v d F → Q v H') (fun k => ∀ H', Same H H' → We k none σ H') → tLc wi (gName i) tt te [i] σ H Q := by
  obtain ⟨wi, p, s1⟩ := hi.ex
  -- one reading for all contexts
  obtain ⟨tt, ptt, stt⟩ : ∃ tt : TT, (∀ (s : Shared) (H : Hp) (C : Addr) (cl : List (Str × Addr)) (fp : List Addr), PTs (X.blk s H scope (compEnvC scope cl C X.env) fp) ifs tt) ∧ ∀ (w : Wd) (σ : L2.St) (H : Hp) (ρ : Rho) (Q : Bool → Hp → Prop), Sl c (fset M i (.v al)) w H σ ρ →
      Po (t ρ) (fun b => ∀ H', Same H H' → Q b H') (fun k => ∀ H', Same H H' → W0 k none σ H') → tt σ H Q :=
    ⟨fun σ H Q => ∀ (s : Shared) (H' : Hp) (C : Addr) (cl : List (Str × Addr)) (fp : List Addr), (ht s H' C cl fp).ex.choose σ H Q, fun s H' C cl fp => ⟨fun pins s' σ H Q I h => (ht s H' C cl fp).ex.choose_spec.1.run pins s' σ H Q I (h s H' C cl fp)⟩,
      fun w σ H ρ Q sl po s H' C cl fp => (ht s H' C cl fp).ex.choose_spec.2 w σ H ρ Q sl po⟩
  obtain ⟨te, pte, ste⟩ : ∃ te : TE, (∀ (s : Shared) (H : Hp) (C : Addr) (cl : List (Str × Addr)) (fp : List Addr), PE (X.blk s H scope (compEnvC scope cl C X.env) fp) elt te) ∧ ∀ (w : Wd) (σ : L2.St) (H : Hp) (ρ : Rho) (Q : VK), Sl c (fset M i (.v al)) w H σ ρ →
      Po (f ρ) (fun d => ∀ v H' F, Same H H' → (∀ a ∈ F, H a = none) → F.Nodup → Own c (fun a => NW w 0 H a ∧ a ∉ F) H' s v d F → Q v H') (fun k => ∀ H', Same H H' → W0 k none σ H') → te σ H Q :=
    ⟨fun σ H Q => ∀ (s : Shared) (H' : Hp) (C : Addr) (cl : List (Str × Addr)) (fp : List Addr), (he s H' C cl fp).ex.choose σ H Q, fun s H' C cl fp => ⟨fun pins s' σ H Q I h => (he s H' C cl fp).ex.choose_spec.1.run pins s' σ H Q I (h s H' C cl fp)⟩,
      fun w σ H ρ Q sl po s H' C cl fp => (he s H' C cl fp).ex.choose_spec.2 w σ H ρ Q sl po⟩
  refine ⟨wi, tt, te, p, ptt, pte, fun w σ H ρ Q sl po => s1 w σ H ρ _ sl ((Po.bind po).imp (fun ds _ q J G Y H1 hs wk hG hy => ?_) fun _ _ q => q)⟩
  intro Dl hD
  have hDH : H Dl = none := hs.free hD
  obtain ⟨hb, q⟩ := Po.gd q
  rw [Bool.and_eq_true, decide_eq_true_eq, decide_eq_true_eq] at hb
  obtain ⟨hil, hdl⟩ := hb
  have q := Po.bind q
  refine lc_it wk (fun n H' => ∃ acc done Gs, H' Dl = some (.lst acc) ∧ Same H1 H' ∧ P3 (Own c (fun a => NW w 0 H a ∧ a ≠ Dl ∧ a ∉ Gs.flatten) H' s) acc done Gs ∧ Gs.flatten.Nodup ∧ (∀ a ∈ Gs.flatten, H1 a = none ∧ a ≠ Dl) ∧ done.length ≤ n ∧
      Po (cGo i t f (ds.drop n) ρ) (fun rest => ∀ v H' F, Same H H' → (∀ a ∈ F, H a = none) → F.Nodup → Own c (fun a => NW w 0 H a ∧ a ∉ F) H' (.l s) v (.lst (done ++ rest)) F → Q v H') (fun k => ∀ H', Same H H' → We k none σ H')) ?_ ?_ ?_ ?_
  · refine ⟨[], [], [], upd_same, same_new (Same.refl _) hD, .nil, by simp, by simp, by simp, ?_⟩
    rw [List.drop_zero]
    exact q.imp (fun l _ q v H' F a b d e => q v H' F a b d e) fun _ _ q => q
  · rintro n H' hn ⟨acc, done, Gs, h1, h2, _⟩
    exact hG H' fun a o _ e => h2 a o e
  · rintro n x H2 H3 hn ⟨acc, done, Gs, h1, h2, h3, h4, h5, h6, h7⟩ hY
    obtain ⟨st, d, ed, isd⟩ := hy n H2 x H3 hn (fun a o _ e => h2 a o e) hY
    have ed2 : ds.drop n = d :: ds.drop (n + 1) := by
      obtain ⟨z1, z2⟩ := List.getElem?_eq_some_iff.mp ed
      rw [List.drop_eq_getElem_cons z1, z2]
    rw [ed2] at h7
    show wipe ((wipe σ [i]).set i (some x)) [i] = wipe σ [i] ∧ _
    refine ⟨by rw [wipe1, wipe1, List.set_set, List.set_set], ?_⟩
    have h13 : Same H1 H3 := h2.trans st
    have hD3 : H3 Dl = some (.lst acc) := st _ _ h1
    -- the state of the element, the regions without the new list and what it holds
    let w' : Wd := ⟨fun a => NW w 0 H a ∧ a ≠ Dl ∧ a ∉ Gs.flatten, fun a => NW w 1 H a ∧ a ≠ Dl ∧ a ∉ Gs.flatten, fun a x => ⟨NW.up (by decide) a x.1, x.2⟩⟩
    have sl3 : Sl c (fset M i (.v al)) w' H3 ((wipe σ [i]).set i (some x)) (ρ.set i (some d)) := by
      refine ⟨by rw [wipe1]; simp [sl.1], fun j dj ej => ?_⟩
      have reg : ∀ l a, NW w l H a → H1 a ≠ none → w'.at l a := fun l a x y => match l, x with
        | 0, x => ⟨x, fun z => y (by rw [z]; exact hD), fun z => y (h5 a z).1⟩
        | 1, x => ⟨x, fun z => y (by rw [z]; exact hD), fun z => y (h5 a z).1⟩
        | _ + 2, _ => trivial
      by_cases hj : j = i
      · subst hj
        rw [List.getElem?_set_self hil] at ej
        cases ej
        refine ⟨x, by rw [wipe1, List.set_set, List.getElem?_set_self (by rw [sl.1]; exact hil)], ?_⟩
        rw [fset_self]
        exact isd _ fun a y y' => reg al a y y'
      · rw [List.getElem?_set_ne (Ne.symm hj)] at ej
        obtain ⟨v, e1, e2⟩ := sl.2 j dj ej
        refine ⟨v, by rw [wipe1, List.set_set, List.getElem?_set_ne (Ne.symm hj)]; exact e1, ?_⟩
        rw [fset_ne hj]
        exact e2.track.mono (fun a x => reg _ a (.inl x.1) fun z => x.2 (hs.free z)) fun a o _ e => h13 a o (hs a o e)
    refine stt w' _ H3 _ _ sl3 ((Po.noX (Po.bind h7)).imp (fun b _ q1 H4 hs4 => ?_) fun _ _ q => q)
    have hD4 : H4 Dl = some (.lst acc) := hs4 _ _ hD3
    have h14 : Same H1 H4 := h13.trans hs4
    have keep : ∀ {v d F} {H' : Hp}, Same H4 H' → F ∈ Gs → Own c (fun a => NW w 0 H a ∧ a ≠ Dl ∧ a ∉ Gs.flatten) H2 s v d F → Own c (fun a => NW w 0 H a ∧ a ≠ Dl ∧ a ∉ Gs.flatten ∧ H2 a ≠ none) H' s v d F := fun {v d F H'} hs' hF ho =>
      ho.track.mono (fun a x => ⟨x.1.1, x.1.2.1, x.1.2.2, x.2⟩) fun a o _ e => hs' a o (hs4 a o (st a o e))
    cases b with
    | false =>
      refine iteF ⟨acc, done, Gs, hD4, h14, h3.imp fun v d F hF ho => (keep (Same.refl _) hF ho).mono (fun a x => ⟨x.1, x.2.1, x.2.2.1⟩) fun a o _ e => e, h4, h5, Nat.le_succ_of_le h6, q1⟩
    | true =>
      refine iteT (ste w' _ H4 _ _ (sl3.same hs4) ((Po.noX (Po.bind (r := noX (f (ρ.set i (some d)))) q1)).imp (fun dy _ q2 y H5 F hs5 hn nd ho => ?_) fun _ _ q => q))
      have q2 := Po.bind (r := cGo i t f (ds.drop (n + 1)) ρ) q2
      have hD5 : H5 Dl = some (.lst acc) := hs5 _ _ hD4
      have nF : Dl ∉ F := fun z => by rw [hn Dl z] at hD4; cases hD4
      have hlen : acc.length = done.length := h3.length.1
      refine ⟨acc, hD5, Nat.lt_of_lt_of_le (by rw [hlen]; omega) (by decide : 100001 ≤ sizeLine), acc ++ [y], done ++ [dy], Gs ++ [F], upd_same, fun a o e => ?_, ?_, ?_, ?_, by simp; omega, ?_⟩
      · rw [upd_ne (ne_of_none e hD)]
        exact hs5 a o (h14 a o e)
      · have ef : (Gs ++ [F]).flatten = Gs.flatten ++ F := by simp
        have up : ∀ {v d F'}, Own c (fun a => NW w 0 H a ∧ a ≠ Dl ∧ a ∉ (Gs ++ [F]).flatten) H5 s v d F' → Dl ∉ F' → Own c (fun a => NW w 0 H a ∧ a ≠ Dl ∧ a ∉ (Gs ++ [F]).flatten) (upd H5 Dl (.lst (acc ++ [y]))) s v d F' := fun {v d F'} ho hF' =>
          ho.mono (fun _ x => x) fun a o x e => by
            have hne : a ≠ Dl := by
              intro z
              subst z
              rcases x with x | x | x
              · exact x.2.1 rfl
              · exact hF' x
              · rw [hD5] at e; cases e; exact x
            rw [upd_ne hne]; exact e
        refine (h3.imp fun v d F' hF' ho' => up ((keep hs5 hF' ho').mono (fun a x => ⟨x.1, x.2.1, fun z => ?_⟩) fun a o _ e => e) fun z => (h5 Dl (mem_flat hF' z)).2 rfl).append (.cons (up (ho.mono (fun a x => ⟨?_, fun z => ?_, fun z => ?_⟩) fun a o _ e => e) nF) .nil)
        · rw [ef] at z
          rcases List.mem_append.mp z with y' | y'
          · exact x.2.2.1 y'
          · exact x.2.2.2 ((st.trans hs4).free (hn a y'))
        · rcases x.1 with y' | y'
          · exact y'.1
          · exact .inr (hs.free (h14.free y'))
        · rcases x.1 with y' | y'
          · exact y'.2.1 z
          · rw [z, hD4] at y'; cases y'
        · rw [ef] at z
          rcases List.mem_append.mp z with y' | y'
          · rcases x.1 with z' | z'
            · exact z'.2.2 y'
            · obtain ⟨G, hG', ha'⟩ := List.mem_flatten.mp y'
              obtain ⟨v', d', ho'⟩ := h3.mem hG'
              obtain ⟨o, eo, _⟩ := ho'.there a ha'
              have := (st.trans hs4) a o eo
              rw [z'] at this; cases this
          · exact x.2 y'
      · rw [show (Gs ++ [F]).flatten = Gs.flatten ++ F by simp]
        refine List.nodup_append.mpr ⟨h4, nd, fun a ha b hb e => ?_⟩
        subst e
        obtain ⟨G, hG', ha'⟩ := List.mem_flatten.mp ha
        obtain ⟨v', d', ho'⟩ := h3.mem hG'
        obtain ⟨o, eo, _⟩ := ho'.there a ha'
        have := (st.trans hs4) a o eo
        rw [hn a hb] at this; cases this
      · intro a ha
        rw [show (Gs ++ [F]).flatten = Gs.flatten ++ F by simp] at ha
        rcases List.mem_append.mp ha with y' | y'
        · exact h5 a y'
        · exact ⟨h14.free (hn a y'), fun z => nF (by rw [← z]; exact y')⟩
      · refine q2.imp (fun rest _ q v H' F a b d e => q v H' F a b d ?_) fun _ _ q => q
        rw [List.append_assoc] at e
        exact e
  · rintro H' ⟨acc, done, Gs, h1, h2, h3, h4, h5, h6, h7⟩
    rw [List.drop_length] at h7
    have h7 : ∀ v H' F, Same H H' → (∀ a ∈ F, H a = none) → F.Nodup → Own c (fun a => NW w 0 H a ∧ a ∉ F) H' (.l s) v (.lst (done ++ [])) F → Q v H' := h7
    rw [List.append_nil] at h7
    refine h7 (.ref Dl) H' (Dl :: Gs.flatten) (hs.trans h2) (fun a ha => ?_) (List.nodup_cons.mpr ⟨fun z => (h5 Dl z).2 rfl, h4⟩) ⟨Dl, acc, done, Gs, rfl, rfl, h1, h3.imp fun v d F _ ho => ho.mono (fun a x => ⟨x.1, fun z => ?_⟩) fun a o _ e => e, rfl⟩
    · rcases List.mem_cons.mp ha with z | z
      · rw [z]; exact hDH
      · exact hs.free (h5 a z).1
    · rcases List.mem_cons.mp z with y | y
      · exact x.2.1 y
      · exact x.2.2 y

theorem vo_lc {x : Str} {elt : Expr} {ifs : List Expr} {scope : Scope} {s : Sh} {p2 : Pos} (i : Nat) (z : Cz X c We k) (hN : X.N.Nodup) (hi : VI X c M We al (.Name x p2) it fi) (ok : BlkOk X.N X.env.scope scope [(x, i)])
    (hg : ∀ (s : Shared) (H : Hp) (C : Addr) (cl : List (Str × Addr)) (fp : List Addr), PG (X.blk s H scope (compEnvC scope cl C X.env) fp) (.Name x p2) (gName i))
    (ht : ∀ (s : Shared) (H : Hp) (C : Addr) (cl : List (Str × Addr)) (fp : List Addr), VTs (X.blk s H scope (compEnvC scope cl C X.env) fp) c (fset M i (.v al)) W0 ifs t)
    (he : ∀ (s' : Shared) (H : Hp) (C : Addr) (cl : List (Str × Addr)) (fp : List Addr), VO (X.blk s' H scope (compEnvC scope cl C X.env) fp) c (fset M i (.v al)) W0 s elt f)
    (hs : ∀ x, foldedSetIterable it X.env x = pure x := by intro _; rfl) : VO X c M We (.l s) (.ListComp elt [⟨.Name x p2, it, ifs, 0⟩] scope pos) (eLc fi i t f) := by
  obtain ⟨wi, tt, te, p, ptt, pte, rd⟩ := lc_read i z hN hi ok hg ht he
  exact ⟨_, pe_lc z.calm hN p ok hg ptt pte hs, rd⟩
/-- y = [.. for ..] -/
theorem vs_setLcO {s0 : Sh} {y : Str} {py spos : Pos} (j : Nat) (hm : M j = .o (.l s0)) {x : Str} {elt : Expr} {ifs : List Expr} {scope : Scope} {p2 : Pos} (i : Nat) (z : Cz X c We k) (hN : X.N.Nodup) (hi : VI X c M We al (.Name x p2) it fi) (ok : BlkOk X.N X.env.scope scope [(x, i)])
    (hg : ∀ (s : Shared) (H : Hp) (C : Addr) (cl : List (Str × Addr)) (fp : List Addr), PG (X.blk s H scope (compEnvC scope cl C X.env) fp) (.Name x p2) (gName i))
    (ht : ∀ (s : Shared) (H : Hp) (C : Addr) (cl : List (Str × Addr)) (fp : List Addr), VTs (X.blk s H scope (compEnvC scope cl C X.env) fp) c (fset M i (.v al)) W0 ifs t)
    (he : ∀ (s' : Shared) (H : Hp) (C : Addr) (cl : List (Str × Addr)) (fp : List Addr), VO (X.blk s' H scope (compEnvC scope cl C X.env) fp) c (fset M i (.v al)) W0 s0 elt f)
    (hs : ∀ x, foldedSetIterable it X.env x = pure x := by intro _; rfl) (hy : X.N[j]? = some y := by rfl) (hyl : X.env.scope.names.lookup y = some .local := by rfl)
    (hsw : swapsWith (.ListComp elt [⟨.Name x p2, it, ifs, 0⟩] scope pos) (some (.Name y py)) spos.line X.env = pure true := by exact sw_true rfl rfl rfl rfl) :
    VSt X c We rs Ml M M (.Assign [.Name y py] (.ListComp elt [⟨.Name x p2, it, ifs, 0⟩] scope pos) spos) (sSet j (eLc fi i t f)) := by
  obtain ⟨wi, tt, te, p, ptt, pte, rd⟩ := lc_read i z hN hi ok hg ht he
  refine ⟨_, ps_setLc z.calm hN hy hyl hsw p ok hg ptt pte hs, fun B σ H ρ D R po => ?_⟩
  obtain ⟨Fs, R⟩ := R
  refine rd _ σ H ρ _ R.slots ((Po.exc_up R (Po.bind po)).imp (fun d _ q v H' F hs hn nd ho => ?_) fun _ _ q => q)
  obtain ⟨hl, q⟩ := Po.gd q
  exact q _ H' (R.setO hm (of_decide_eq_true hl) hs hn nd ho)
theorem vs_setLcV {s0 : Sh} {y : Str} {py spos : Pos} (j : Nat) (hm : M j = .v 0) {x : Str} {elt : Expr} {ifs : List Expr} {scope : Scope} {p2 : Pos} (i : Nat) (z : Cz X c We k) (hN : X.N.Nodup) (hi : VI X c M We al (.Name x p2) it fi) (ok : BlkOk X.N X.env.scope scope [(x, i)])
    (hg : ∀ (s : Shared) (H : Hp) (C : Addr) (cl : List (Str × Addr)) (fp : List Addr), PG (X.blk s H scope (compEnvC scope cl C X.env) fp) (.Name x p2) (gName i))
    (ht : ∀ (s : Shared) (H : Hp) (C : Addr) (cl : List (Str × Addr)) (fp : List Addr), VTs (X.blk s H scope (compEnvC scope cl C X.env) fp) c (fset M i (.v al)) W0 ifs t)
    (he : ∀ (s' : Shared) (H : Hp) (C : Addr) (cl : List (Str × Addr)) (fp : List Addr), VO (X.blk s' H scope (compEnvC scope cl C X.env) fp) c (fset M i (.v al)) W0 s0 elt f)
    (hs : ∀ x, foldedSetIterable it X.env x = pure x := by intro _; rfl) (hy : X.N[j]? = some y := by rfl) (hyl : X.env.scope.names.lookup y = some .local := by rfl)
    (hsw : swapsWith (.ListComp elt [⟨.Name x p2, it, ifs, 0⟩] scope pos) (some (.Name y py)) spos.line X.env = pure true := by exact sw_true rfl rfl rfl rfl) :
    VSt X c We rs Ml M M (.Assign [.Name y py] (.ListComp elt [⟨.Name x p2, it, ifs, 0⟩] scope pos) spos) (sSet j (eLc fi i t f)) := by
  obtain ⟨wi, tt, te, p, ptt, pte, rd⟩ := lc_read i z hN hi ok hg ht he
  refine ⟨_, ps_setLc z.calm hN hy hyl hsw p ok hg ptt pte hs, fun B σ H ρ D R po => ?_⟩
  obtain ⟨Fs, R⟩ := R
  refine rd _ σ H ρ _ R.slots ((Po.exc_up R (Po.bind po)).imp (fun d _ q v H' F hs hn nd ho => ?_) fun _ _ q => q)
  obtain ⟨hl, q⟩ := Po.gd q
  exact q _ H' (R.setV hm (by decide) (of_decide_eq_true hl) (ho.toIs (fun a x => x.1) fun a ha => .inr (hn a ha)) hs)

/-- x.clear(), x its own list -/
theorem vs_clear {x : Str} {p2 apos cpos : Pos} {s : Sh} (i : Nat) (hm : M i = .o (.l s)) (hN : X.N[i]? = some x := by rfl) (hv : Vis X.env.scope x := by first | exact Or.inl rfl | exact Or.inr (Or.inl rfl) | exact Or.inr (Or.inr rfl)) (hd : (x == ("__debug__" : Str)) = false := by decide)
    (hcd : (x == ("__classdict__" : Str)) = false := by decide) (hbase : attributeBase (.Name x p2) "clear" X.env (eval (.Name x p2) X.env) = eval (.Name x p2) X.env := by rfl) (hline : (apos.endLine == cpos.line) = true := by rfl)
    (hs : swapsWith (.Call (.Attribute (.Name x p2) "clear" apos) [] [] cpos) none pos.line X.env = pure false := by rfl) :
    VSt X c We rs Ml M M (.Expr (.Call (.Attribute (.Name x p2) "clear" apos) [] [] cpos) pos) (sClear i) := by
  refine ⟨_, ps_expr (pe_bm0 PySem.F.plainAttrs_list PySem.F.slot_list_clear PySem.F.type_list_clear mt_clear (pv i hN hv hd hcd) hbase hline) hs, fun B σ H ρ D R po => ?_⟩
  obtain ⟨Fs, R⟩ := R
  obtain ⟨ds, er, po⟩ := po_lst po
  obtain ⟨p, xs, Gs, h1, hp, h3, eF, keep, put⟩ := R.lst hm er
  exact ⟨_, h1, .inl ⟨rfl, xs, .of hp⟩, p, xs, rfl, rfl, hp, po _ _ ⟨_, put H [] [] [] (Same.refl H) .nil (by simp) (by simp)⟩⟩

/-! ### raise X('..') -/
/-- the facts of an own class of exceptions over ValueError -/
structure ExK (K : PySem.W.Frag) (mg : Str → Option Value) (x : Str) (C : Addr) : Prop where
  g : mg x = some (.ref C)
  q : PySem.W.excIn K C [.type "ValueError", .type "Exception", .type "BaseException", .type "object"] "ValueError.__new__" = true
  kp : PySem.W.keepIn K (.ref C) = true
  b : PySem.W.subIn K (.ref C) (.type "BaseException") = some true
  t : PySem.W.typeIn K (.ref C) = some (.type "type")
theorem vs_raise {x m : Str} {C : Addr} {n : Nat} {p p2 p3 : Pos} (z : Cz X c We k) (h : ExK X.K X.mg x C) (hg : Gl X x) (hdb : (x == ("__debug__" : Str)) = false := by decide) :
    VSt X c We rs Ml M M' (.Raise (some (.Call (.Name x p) [.Constant (.str m) n p2] [] p3)) none pos) (sExc (.ref C)) :=
  ⟨_, L2N.ps_raise z.calm z.tk (L2N.pmk_own PySem.F.excBase_ValueError h.q h.g h.kp (raises_own h.b h.t) hg hdb), fun B σ H ρ D R po => by
    obtain ⟨Fs, R⟩ := R
    exact po σ H fun p hp a o e hn => R.fr p hp a o e hn⟩
end

/-! ### a def -/
def startD (n : Nat) (ds : List D) : Rho := ds.map some ++ List.replicate (n - ds.length) none
/-- the meaning of a def: n names, the first m its parameters -/
def runF (n m : Nat) (rs : Sh) (g : SF) : List D → O D := fun ds => gd (decide (ds.length = m) && decide (m ≤ n)) ((g (startD n ds)).bind fun out => match out with
  | .nx _ => gd (decide (rs = .fz)) (.ok .non)
  | .rt d _ => .ok d
  | .ex k _ => .exc k
  | _ => .bad)
theorem isA_get {c : Ct} {W : Addr → Prop} {H : Hp} {vs : List V} {ds : List D} (h : IsA c W H vs ds) {n i : Nat} {d : D} (e : (startD n ds)[i]? = some (some d)) : i < ds.length ∧ ∃ v, vs[i]? = some v ∧ Is c W H v d := by
  unfold startD at e
  by_cases hi : i < ds.length
  · rw [List.getElem?_append_left (by simpa using hi), List.getElem?_map] at e
    cases e1 : ds[i]? with
    | none => rw [e1] at e; cases e
    | some d' =>
      rw [e1] at e
      cases e
      exact ⟨hi, h.getD e1⟩
  · rw [List.getElem?_append_right (by simpa using hi), List.getElem?_replicate] at e
    split at e <;> cases e
section
variable {P : Program} {w : World} {K : PySem.W.Frag} {mg : Str → Option Value} {base : Heap} {c : Ct}
/-- a def that changes nothing keeps the promise of its meaning -/
theorem fn_pure {x qual : Str} {st : Stmt} {f : Addr} {fd : FuncData} {N ps : List Str} {k : Nat} {rs : Sh} {g : SF} {M M' : Nat → Mo} (F : Fun K x qual st f fd) (S : FnScope N ps (defScope st)) (hK : K = c.K) (hM : ∀ i, i < ps.length → M i = .v 1)
    (hb : ∀ (cdv : Value) (A : Around) (outer : List Env) (s : Shared) (H : Hp) (E : XK), Cz (cxOf (L2N.CX P w) P w K mg base N qual (defScope st) f cdv A outer s H E) c (fun cls d _ H => E cls d H) k →
      VSs (cxOf (L2N.CX P w) P w K mg base N qual (defScope st) f cdv A outer s H E) c (fun cls d _ H => E cls d H) rs M M M' (defBody st) g) :
    FnOk P w K mg base (L2N.CX P w) (k + 1) f fd ps (spP c rs (runF N.length ps.length rs g)) := by
  refine okG F S (fun vs H Q E h => ?_) (fun cdv A outer s H vs Q E hr h => ?_)
  · obtain ⟨ds, h1, h2⟩ := h
    obtain ⟨hl, _⟩ := Po.gd h2
    rw [Bool.and_eq_true, decide_eq_true_eq] at hl
    rw [h1.length, hl.1]
  · have z : Cz (cxOf (L2N.CX P w) P w K mg base N qual (defScope st) f cdv A outer s H E) c (fun cls d _ H => E cls d H) k := ⟨hK, rfl, L2N.takes_of rfl rfl rfl rfl, hr, passes_of rfl⟩
    obtain ⟨t, p, so⟩ := (hb cdv A outer s H E z).ex
    refine ⟨t, p, ?_⟩
    obtain ⟨ds, h1, h2⟩ := h
    obtain ⟨hl, h2⟩ := Po.gd h2
    rw [Bool.and_eq_true, decide_eq_true_eq, decide_eq_true_eq] at hl
    have h2 := Po.bind h2
    refine so ⟨H, [(H, fun _ => False)], []⟩ _ H (startD N.length ds) _ ⟨fun _ => [], ?_⟩ (h2.imp (fun out _ q => ?_) fun kx _ q σ' H' hf => q H' fun a o e => hf (H, fun _ => False) (by simp) a o e (fun z => z))
    · refine ⟨by simp, by simp, by simp, fun p hp a o e _ => ?_, by simp, by simp, fun a e => e, fun i d e => ?_, by simp, by simp [L2.start, startD, h1.length]⟩
      · have : p = (H, fun _ => False) := by simpa using hp
        rw [this] at e; exact e
      · obtain ⟨hi, v, e1, e2⟩ := isA_get h1 e
        have hv : i < vs.length := (List.getElem?_eq_some_iff.mp e1).1
        refine ⟨v, ?_, ?_⟩
        · unfold L2.start
          rw [List.getElem?_append_left (by simpa using hv), List.getElem?_map, e1]
          rfl
        · rw [hM i (by omega)]
          exact ⟨by decide, rfl, e2.up fun _ _ _ => by simp⟩
    · cases out with
      | nx ρ' =>
        intro σ' H' R
        obtain ⟨hrs, q⟩ := Po.gd q
        have hrs : rs = .fz := of_decide_eq_true hrs
        subst hrs
        obtain ⟨Fs, R⟩ := R
        exact q .non H' [] (fun a o e => R.fr (H, fun _ => False) (by simp) a o e (fun z => z)) (by simp) (by simp) ⟨rfl, .non⟩
      | rt d ρ' =>
        rintro v H' ⟨M2, Fs, σ2, Fp, R, n1, n2, n3⟩
        exact q v H' Fp (fun a o e => R.fr (H, fun _ => False) (by simp) a o e (fun z => z)) (fun a ha => (n2 a ha).1) n1 (n3.mono (fun a x => ⟨x.1, x.2.2⟩) fun a o _ e => e)
      | bk ρ' => exact q.elim
      | ct ρ' => exact q.elim
      | ex k ρ' =>
        rintro σ' H' M2 ⟨Fs, R⟩
        exact q H' fun a o e => R.fr (H, fun _ => False) (by simp) a o e (fun z => z)
end
end VS
set_option Elab.async false
set_option linter.all false
set_option maxRecDepth 100000
set_option maxHeartbeats 2000000
/-! VK: defs as they stand, further rules. -/
namespace VS
open PySem L2

def eCall (fs : AF) (F : List D → O D) : EF := fun ρ => (fs ρ).bind F
def mo (l : List Mo) : Nat → Mo := fun i => l.getD i (.v 0)
/-- a def of the top -/
structure Fact (K : PySem.W.Frag) (mg : Str → Option Value) (x : Str) (st : Stmt) (ps : List Str) : Prop where
  ex : ∃ f fd, Fun K x x st f fd ∧ mg x = some (.ref f) ∧ Binds K fd ps []
/-- a def that keeps a promise -/
structure Dc (P : Program) (w : World) (K : PySem.W.Frag) (mg : Str → Option Value) (base : Heap) (k : Nat) (x : Str) (sp : Sp) : Prop where
  ex : ∃ f fd ps, FnOk P w K mg base (L2N.CX P w) k f fd ps sp ∧ Binds K fd ps [] ∧ mg x = some (.ref f) ∧ PySem.W.keepIn K (.ref f) = true
/-- the built-ins' names are theirs -/
structure Bn (mg : Str → Option Value) : Prop where
  len : mg "len" = none
  isinstance : mg "isinstance" = none
  range : mg "range" = none
  zip : mg "zip" = none
  enumerate : mg "enumerate" = none
  int : mg "int" = none
  bool : mg "bool" = none
  list : mg "list" = none
  tuple : mg "tuple" = none
  str : mg "str" = none
  dict : mg "dict" = none
  sorted : mg "sorted" = none
  min : mg "min" = none
  max : mg "max" = none
  sum : mg "sum" = none
  abs : mg "abs" = none
  set : mg "set" = none
  vErr : mg "ValueError" = none

section
variable {X : Cx} {c : Ct} {M M' Ml : Nat → Mo} {We : WX} {al al' al'' k k' i : Nat} {e a b d : Expr} {f fa fb fc : EF} {pos : Pos} {t t' : TF} {rs : Sh}
theorem ve_any (h : VE X c M We al e f) : VE X c M We 2 e f := by
  obtain ⟨te, p, s⟩ := h.ex
  exact ⟨te, p, fun w σ H ρ Q sl po => s w σ H ρ Q sl (po.imp (fun d _ q v H' hs hi => q v H' hs (hi.up fun _ _ => .inl trivial)) fun _ _ q => q)⟩
/-- arguments of a call, whatever their taint -/
theorem va_arg {es : List Expr} {fs : AF} (h : VE X c M We al e f) (t : VA X c M We 2 es fs) (hs : starEach (e :: es) X.env = (false, eval e X.env) :: starEach es X.env := by rfl) : VA X c M We 2 (e :: es) (aCons f fs) := va_cons (ve_any h) t hs
theorem vo_callD {x : Str} {F : List D → O D} {es : List Expr} {fs : AF} {p : Pos} (z : Cz X c We k) (dc : Dc X.prog X.w X.K X.mg X.base k' x (spP c rs F)) (hk : k' ≤ k) (t : VA X c M We 2 (e :: es) fs) (hg : Gl X x := by rfl) (hdb : (x == ("__debug__" : Str)) = false := by decide)
    (he : starEach (e :: es) X.env = (false, eval e X.env) :: starEach es X.env := by rfl) (hpl : (backTo pos (starEach es X.env)).any (·.1) = false := by rfl) :
    VO X c M We rs (.Call (.Name x p) (e :: es) [] pos) (eCall fs F) := by
  obtain ⟨f, fd, ps, G, hb, hm, kp⟩ := dc.ex
  exact vo_call z (G.mono hk) hb hm kp hg t hdb he hpl
def negD : D → O D
  | .int i => .ok (.int (-i))
  | _ => .bad
theorem ve_neg (h : VE X c M We al a f) : VE X c M We 0 (.UnaryOp .USub a pos) (e1 negD f) := by
  obtain ⟨te, p, s⟩ := h.ex
  refine ⟨_, pe_un un_neg p, fun w σ H ρ Q sl po => s w σ H ρ _ sl ((Po.bind po).imp (fun d _ q v H1 hs hi => ?_) fun _ _ q => q)⟩
  cases d with
  | int i => exact ⟨i, is_int hi, q _ H1 hs (.int _)⟩
  | _ => exact q.elim
/-- int(n), int(a truth) -/
def intD : D → O D
  | .int i => .ok (.int i)
  | .bl b => .ok (.int (if b = true then 1 else 0))
  | _ => .bad
theorem ve_intc {p : Pos} (h : VE X c M We al e f) (hg : Gl X "int") (hm : X.mg "int" = none) (hs : starEach [e] X.env = (false, eval e X.env) :: starEach [] X.env := by rfl) (hpl : (backTo pos (starEach [] X.env)).any (·.1) = false := by rfl) :
    VE X c M We 0 (.Call (.Name "int" p) [e] [] pos) (e1 intD f) := by
  obtain ⟨te, pe, s⟩ := h.ex
  refine ⟨_, pe_callTy call_int1 hg hm PyProof.Rows.boot_int (pa_cons pe pa_nil hs) (by decide) (by decide) hs hpl, fun w σ H ρ Q sl po => s w σ H ρ _ sl ((Po.bind po).imp (fun d _ q v H1 hs hi => ?_) fun _ _ q => q)⟩
  cases d with
  | int i => exact .inl ⟨i, by rw [is_int hi], q _ H1 hs (.int _)⟩
  | bl b => exact .inr ⟨b, by rw [is_bl hi], q _ H1 hs (.int _)⟩
  | _ => exact q.elim
end
theorem fact_mk {K : PySem.W.Frag} {mg : Str → Option Value} {h : Heap} {x : Str} {st : Stmt} {ps : List Str} {f : Addr} {oc : Value} {od an : Option Addr} {osl : Array (Option Value)} {kV doc pm cdv ct : Value} (X : K.In h) (G : h.Ns mainGlobals mg)
    (hb : ∀ {fd : FuncData}, Fun K x x st f fd → Binds K fd ps [])
    (a : PySem.W.nsIn K mainGlobals x = some (some (.ref f))) (l : K.lookup f = some ⟨oc, od, .func (PySem.W.fnOf x x (defArgs st) (defBody st) (defScope st) .none kV doc pm an cdv ct), osl⟩)
    (c : PySem.W.codeIn K cdv x = true) (kp : PySem.W.keepIn K (.ref f) = true) : Fact K mg x st ps :=
  ⟨f, _, fun_mk l c kp, PySem.W.mg_of X G a, hb (fun_mk l c kp)⟩
/-- the law's own promise at the script -/
theorem walk_law {l : PySem.W.OpenLaw} {lv : Nat} {q : Program} {loose : List Str} {XP : (Str → Option Value) → Heap → Prop} {YP : World → Heap → Prop} {d : DefRec} {K : Params → PySem.W.Frag}
    (hn : l.most = some 63) (hdf : d.params.defaults = []) (hr : (callerA.depth + 3 * lv + 5 < recursionLimit)) (hu : callerA.units + 16 * lv + 200 < cLine) (hY : ∀ (w : World) (h : Heap), YP w h → (K w.params).In h)
    (Fn : ∀ (w : World) (mg : Str → Option Value) (fa : Addr) (h : Heap), (K w.params).In h → h.Ns mainGlobals mg → mg d.name = some (.ref fa) →
      ∃ fd : FuncData, (∀ (s : Shared) (u : Value), BindsTo s fd ⟨[u], []⟩ [("_law_script", u)]) ∧ ∃ (c : Ct) (F : List D → O D), c.K = K w.params ∧ (∀ ns : List Int, ns.length ≤ 63 → F [.lst (ns.map .int)] = .ok (.bl true)) ∧
        ∀ base : Heap, FnOk l.prog w (K w.params) mg base (L2N.CX l.prog w) lv fa fd ["_law_script"] (spP c .fz F)) :
    PySem.W.WalkO q loose XP YP l.row.toRowW d [] (fun f vs => PySem.call f vs) := by
  refine L2.walk_of (n := 63) (k := lv) (x := "_law_script") (CX := fun w => L2N.CX l.prog w) (sp := fun w vs H Q E => ∃ (a : Addr) (ns : List Int), vs = [.ref a] ∧ SqL (K w.params) H a (ns.map V.int) ∧ ns.length ≤ 63 ∧ ∀ H', Q (.bl true) H') hn (by decide) hdf ⟨rfl, hr, hu⟩ hY (fun w mg fa h KX G hm => ?_)
    (fun w H a ns hl hO hS => ⟨a, ns, rfl, hS, hl, fun _ => rfl⟩) fun w H s e s' z => ?_
  · obtain ⟨fd, h1, c, F, hc, law, h2⟩ := Fn w mg fa h KX G hm
    refine ⟨fd, h1, fun base _ _ => (h2 base).imp fun vs H Q E hsp => ?_⟩
    obtain ⟨a, ns, rfl, hS, hl, hq⟩ := hsp
    have hA : ∀ ns : List Int, IsA c (fun _ => True) H (ns.map V.int) (ns.map D.int) := by
      intro ns
      induction ns with
      | nil => exact .nil
      | cons n ns ih => exact .cons (.int n) ih
    refine ⟨[.lst (ns.map .int)], .cons ?_ .nil, ?_⟩
    · rw [← hc] at hS
      rcases hS with h | h
      · exact .lst trivial h (hA ns)
      · exact .lstK h (hA ns)
    · rw [law ns hl]
      intro v H' Fp hs hn nd ho
      rw [is_bl ho.2]
      exact hq H'
  · obtain ⟨_, _, _, _, _, _, _, _, _, _, _, _, z⟩ := z
    exact z
end VS
set_option Elab.async false
set_option linter.all false
set_option maxRecDepth 100000
set_option maxHeartbeats 2000000
/-! VM: defs that change what they are handed. -/
namespace VS
open PySem L2

/-- what such a def ends with: a value, or an exception; and its parameters then -/
inductive Rz where
  | rt (d : D) (ps : List D)
  | ex (k : Value) (ps : List D)
def ownAt (ms : List (Option Sh)) (i : Nat) : Option Sh := (ms[i]?).join
structure ArgM (c : Ct) (H : Hp) (ms : List (Option Sh)) (vs : List V) (ds : List D) (Fs : Nat → List Addr) : Prop where
  lv : vs.length = ds.length
  lm : ms.length = ds.length
  nd : ∀ i, (Fs i).Nodup
  dj : ∀ i j a, a ∈ Fs i → a ∈ Fs j → i = j
  no : ∀ i, ownAt ms i = none → Fs i = []
  at_ : ∀ i d, ds[i]? = some d → ∃ v, vs[i]? = some v ∧ (match ownAt ms i with
    | some s => Own c (fun _ => False) H s v d (Fs i)
    | none => Is c (fun a => ∀ j, a ∉ Fs j) H v d)
structure AfterM (c : Ct) (H H' : Hp) (ms : List (Option Sh)) (vs : List V) (ds' : List D) (Fs Fs' : Nat → List Addr) : Prop where
  nd : ∀ i, (Fs' i).Nodup
  dj : ∀ i j a, a ∈ Fs' i → a ∈ Fs' j → i = j
  no : ∀ i, ownAt ms i = none → Fs' i = []
  new : ∀ i a, a ∈ Fs' i → (∃ j, a ∈ Fs j) ∨ H a = none
  fr : ∀ a o, (∀ i, a ∉ Fs i) → H a = some o → H' a = some o
  old : ∀ a, H' a = none → H a = none
  at_ : ∀ i s, ownAt ms i = some s → ∃ v d', vs[i]? = some v ∧ ds'[i]? = some d' ∧ Own c (fun _ => False) H' s v d' (Fs' i)
def spM (c : Ct) (ms : List (Option Sh)) (rs : Sh) (F : List D → O Rz) : Sp := fun vs H Q E => ∃ ds Fs, ArgM c H ms vs ds Fs ∧ Po (F ds) (fun r => match r with
  | .rt d ds' => ∀ v H' Fs' Fp, AfterM c H H' ms vs ds' Fs Fs' → Fp.Nodup → (∀ a ∈ Fp, H a = none ∧ ∀ i, a ∉ Fs' i) → Own c (fun a => H a = none ∧ (∀ i, a ∉ Fs' i) ∧ a ∉ Fp) H' rs v d Fp → Q v H'
  | .ex k ds' => ∀ H' Fs', AfterM c H H' ms vs ds' Fs Fs' → E k none H') (fun _ => False)

/-! ### the meaning of such a def -/
/-- the parameters, those that are changed told -/
def parD (ρ : Rho) : List (Option Sh) → Nat → O (List D)
  | [], _ => .ok []
  | m :: ms, i => (if m.isSome then eVar i ρ else .ok .non).bind fun d => (parD ρ ms (i + 1)).bind fun ds => .ok (d :: ds)
def runM (n : Nat) (ms : List (Option Sh)) (rs : Sh) (g : SF) : List D → O Rz := fun ds => gd (decide (ds.length = ms.length) && decide (ms.length ≤ n)) (match g (startD n ds) with
  | .ok (.nx ρ) => gd (decide (rs = .fz)) ((parD ρ ms 0).bind fun ps => .ok (.rt .non ps))
  | .ok (.rt d ρ) => (parD ρ ms 0).bind fun ps => .ok (.rt d ps)
  | .ok (.ex k ρ) => (parD ρ ms 0).bind fun ps => .ok (.ex k ps)
  | _ => .bad)
theorem parD_get {ρ : Rho} : ∀ {ms : List (Option Sh)} {b : Nat} {ps : List D}, parD ρ ms b = .ok ps → ∀ i s, ownAt ms i = some s → ∃ d, ps[i]? = some d ∧ ρ[b + i]? = some (some d)
  | [], b, ps, e, i, s, h => by simp [ownAt] at h
  | m :: ms, b, ps, e, i, s, h => by
    unfold parD at e
    cases h1 : (if m.isSome then eVar b ρ else .ok .non) with
    | bad => rw [h1] at e; cases e
    | exc k => rw [h1] at e; cases e
    | ok d =>
      rw [h1] at e
      cases h2 : parD ρ ms (b + 1) with
      | bad => rw [O.bind_ok, h2] at e; cases e
      | exc k => rw [O.bind_ok, h2] at e; cases e
      | ok ds =>
        rw [O.bind_ok, h2] at e
        cases e
        cases i with
        | zero =>
          have hm : m = some s := by simpa [ownAt] using h
          rw [hm] at h1
          exact ⟨d, rfl, eVar_ok h1⟩
        | succ i =>
          obtain ⟨d', e1, e2⟩ := parD_get h2 i s (by simpa [ownAt] using h)
          exact ⟨d', by simpa using e1, by rw [show b + (i + 1) = b + 1 + i by omega]; exact e2⟩

def mpL (ms : List (Option Sh)) (vs : List V) : List (Nat × Sh × V) := (List.range vs.length).filterMap fun i => match ownAt ms i, vs[i]? with
  | some s, some v => some (i, s, v)
  | _, _ => none
theorem mpL_mem {ms : List (Option Sh)} {vs : List V} {q : Nat × Sh × V} : q ∈ mpL ms vs ↔ ownAt ms q.1 = some q.2.1 ∧ vs[q.1]? = some q.2.2 := by
  unfold mpL
  rw [List.mem_filterMap]
  constructor
  · rintro ⟨i, hi, h⟩
    split at h
    · rename_i s v h1 h2
      cases h
      exact ⟨h1, h2⟩
    · cases h
  · rintro ⟨h1, h2⟩
    refine ⟨q.1, ?_, ?_⟩
    · rw [List.mem_range]
      exact (List.getElem?_eq_some_iff.mp h2).1
    · rw [h1, h2]
section
variable {P : Program} {w : World} {K : PySem.W.Frag} {mg : Str → Option Value} {base : Heap} {c : Ct}
/-- from what stands at a def's end to what its caller sees -/
theorem afterM {ms : List (Option Sh)} {vs : List V} {H H' : Hp} {Fs Fs2 : Nat → List Addr} {M2 : Nat → Mo} {σ2 : L2.St} {ρ' : Rho} {ps : List D} (R : RelF c M2 ⟨H, [(H, fun a => ∃ i, a ∈ Fs i)], mpL ms vs⟩ Fs2 H' σ2 ρ') (hlen : vs.length = ms.length) (hp : parD ρ' ms 0 = .ok ps) :
    AfterM c H H' ms vs ps Fs (fun i => if (ownAt ms i).isSome then Fs2 i else []) where
  nd := fun i => by
    show (if _ then _ else _ : List Addr).Nodup
    split
    · exact R.nd i
    · simp
  dj := fun i j a ha hb => by
    split at ha
    · split at hb
      · exact R.dj i j a ha hb
      · simp at hb
    · simp at ha
  no := fun i h => by simp [h]
  new := fun i a ha => by
    split at ha
    · exact (R.out (H, fun a => ∃ i, a ∈ Fs i) (by simp) i a ha).symm
    · simp at ha
  fr := fun a o hn e => R.fr (H, fun a => ∃ i, a ∈ Fs i) (by simp) a o e fun ⟨i, z⟩ => hn i z
  old := R.old
  at_ := fun i s h => by
    obtain ⟨d, e1, e2⟩ := parD_get hp i s h
    rw [Nat.zero_add] at e2
    have hi : i < vs.length := by
      rw [hlen]
      unfold ownAt at h
      cases e : ms[i]? with
      | none => rw [e] at h; cases h
      | some m => exact (List.getElem?_eq_some_iff.mp e).1
    obtain ⟨q1, q2⟩ := R.mp (i, s, vs[i]) (mpL_mem.mpr ⟨h, List.getElem?_eq_getElem hi⟩)
    dsimp only at q1 q2
    obtain ⟨v, h1, h2⟩ := R.sl i d e2
    rw [q1] at h1
    cases h1
    rw [q2] at h2
    refine ⟨_, d, List.getElem?_eq_getElem hi, e1, ?_⟩
    simp only [h, Option.isSome_some, if_true]
    exact h2
theorem fn_mut {x qual : Str} {st : Stmt} {f : Addr} {fd : FuncData} {N ps : List Str} {k : Nat} {rs : Sh} {g : SF} {ms : List (Option Sh)} {M M' : Nat → Mo} (F : Fun K x qual st f fd) (S : FnScope N ps (defScope st)) (hK : K = c.K) (hms : ms.length = ps.length)
    (hM : ∀ i, i < ps.length → M i = match ownAt ms i with
      | some s => .p s
      | none => .v 1)
    (hb : ∀ (cdv : Value) (A : Around) (outer : List Env) (s : Shared) (H : Hp) (E : XK), Cz (cxOf (L2N.CX P w) P w K mg base N qual (defScope st) f cdv A outer s H E) c (fun cls d _ H => E cls d H) k →
      VSs (cxOf (L2N.CX P w) P w K mg base N qual (defScope st) f cdv A outer s H E) c (fun cls d _ H => E cls d H) rs M M M' (defBody st) g) :
    FnOk P w K mg base (L2N.CX P w) (k + 1) f fd ps (spM c ms rs (runM N.length ms rs g)) := by
  refine okG F S (fun vs H Q E h => ?_) (fun cdv A outer s H vs Q E hr h => ?_)
  · obtain ⟨ds, Fs, h1, h2⟩ := h
    rw [h1.lv, ← h1.lm, hms]
  · have z : Cz (cxOf (L2N.CX P w) P w K mg base N qual (defScope st) f cdv A outer s H E) c (fun cls d _ H => E cls d H) k := ⟨hK, rfl, L2N.takes_of rfl rfl rfl rfl, hr, passes_of rfl⟩
    obtain ⟨t, p, so⟩ := (hb cdv A outer s H E z).ex
    refine ⟨t, p, ?_⟩
    obtain ⟨ds, Fs, h1, h2⟩ := h
    obtain ⟨hl, h2⟩ := Po.gd h2
    rw [Bool.and_eq_true, decide_eq_true_eq, decide_eq_true_eq] at hl
    have hvm : vs.length = ms.length := by rw [h1.lv, hl.1]
    have big : ∀ i, ds.length ≤ i → Fs i = [] := fun i hi => h1.no i (by
      unfold ownAt
      rw [List.getElem?_eq_none (by omega)]
      rfl)
    have R0 : RelF c M ⟨H, [(H, fun a => ∃ i, a ∈ Fs i)], mpL ms vs⟩ Fs H (L2.start N vs) (startD N.length ds) := by
      have slot : ∀ i v, vs[i]? = some v → (L2.start N vs)[i]? = some (some v) := fun i v e => by
        unfold L2.start
        rw [List.getElem?_append_left (by have := (List.getElem?_eq_some_iff.mp e).1; simpa using this), List.getElem?_map, e]
        rfl
      have own : ∀ i s, ownAt ms i = some s → i < ps.length := fun i s h => by
        rw [← hms]
        unfold ownAt at h
        cases e : ms[i]? with
        | none => rw [e] at h; cases h
        | some m => exact (List.getElem?_eq_some_iff.mp e).1
      refine ⟨h1.nd, h1.dj, fun i a ha => ?_, fun p hp a o e _ => ?_, fun p hp i a ha => ?_, fun i s hs a ha => ?_, fun a e => e, fun i d e => ?_, fun q hq => ?_, by simp [L2.start, startD, h1.lv]⟩
      · cases ho : ownAt ms i with
        | none => rw [h1.no i ho] at ha; simp at ha
        | some s =>
          have hi : i < ds.length := by have := own i s ho; rw [← hms, ← hl.1] at this; exact this
          obtain ⟨v, _, hv⟩ := h1.at_ i _ (List.getElem?_eq_getElem hi)
          rw [ho] at hv
          exact hv.there a ha
      · have : p = (H, fun a => ∃ i, a ∈ Fs i) := by simpa using hp
        rw [this] at e; exact e
      · have : p = (H, fun a => ∃ i, a ∈ Fs i) := by simpa using hp
        rw [this]; exact .inr ⟨i, ha⟩
      · cases ho : ownAt ms i with
        | none => rw [h1.no i ho] at ha; simp at ha
        | some s' =>
          have := hM i (own i s' ho)
          rw [ho, hs] at this; cases this
      · have hi : i < ds.length := by
          unfold startD at e
          by_cases hi : i < ds.length
          · exact hi
          · rw [List.getElem?_append_right (by simpa using hi), List.getElem?_replicate] at e
            split at e <;> cases e
        have e1 : ds[i]? = some d := by
          unfold startD at e
          rw [List.getElem?_append_left (by simpa using hi), List.getElem?_map, List.getElem?_eq_getElem hi] at e
          rw [List.getElem?_eq_getElem hi]
          cases e; rfl
        obtain ⟨v, ev, hv⟩ := h1.at_ i d e1
        refine ⟨v, slot i v ev, ?_⟩
        rw [hM i (by rw [← hms, ← hl.1]; exact hi)]
        cases ho : ownAt ms i with
        | none =>
          rw [ho] at hv
          exact ⟨by decide, h1.no i ho, hv⟩
        | some s =>
          rw [ho] at hv
          exact hv
      · obtain ⟨q1, q2⟩ := mpL_mem.mp hq
        refine ⟨slot _ _ q2, ?_⟩
        have := hM q.1 (own q.1 q.2.1 q1)
        rw [q1] at this
        exact this
    refine so ⟨H, [(H, fun a => ∃ i, a ∈ Fs i)], mpL ms vs⟩ _ H (startD N.length ds) _ ⟨Fs, R0⟩ ?_
    cases hg : g (startD N.length ds) with
    | bad => rw [hg] at h2; exact h2.elim
    | exc k => rw [hg] at h2; exact h2.elim
    | ok out =>
      rw [hg] at h2
      cases out with
      | bk ρ' => exact h2.elim
      | ct ρ' => exact h2.elim
      | nx ρ' =>
        obtain ⟨hrs, q⟩ := Po.gd h2
        have hrs : rs = .fz := of_decide_eq_true hrs
        subst hrs
        cases hp : parD ρ' ms 0 with
        | bad => rw [hp] at q; exact q.elim
        | exc k => rw [hp] at q; exact q.elim
        | ok ps' =>
          rw [hp] at q
          rintro σ' H' ⟨Fs2, R⟩
          exact q .non H' _ [] (afterM R hvm hp) (by simp) (by simp) ⟨rfl, .non⟩
      | rt d ρ' =>
        replace h2 : Po ((parD ρ' ms 0).bind fun ps => O.ok (Rz.rt d ps)) _ _ := h2
        cases hp : parD ρ' ms 0 with
        | bad => rw [hp] at h2; exact h2.elim
        | exc k => rw [hp] at h2; exact h2.elim
        | ok ps' =>
          rw [hp] at h2
          rintro v H' ⟨M2, Fs2, σ2, Fp, R, n1, n2, n3⟩
          refine h2 v H' _ Fp (afterM R hvm hp) n1 (fun a ha => ⟨(n2 a ha).1, fun i z => ?_⟩) (n3.mono (fun a x => ⟨x.1, fun i z => ?_, x.2.2⟩) fun a o _ e => e)
          · split at z
            · exact (n2 a ha).2 i z
            · simp at z
          · split at z
            · exact x.2.1 i z
            · simp at z
      | ex kx ρ' =>
        replace h2 : Po ((parD ρ' ms 0).bind fun ps => O.ok (Rz.ex kx ps)) _ _ := h2
        cases hp : parD ρ' ms 0 with
        | bad => rw [hp] at h2; exact h2.elim
        | exc k => rw [hp] at h2; exact h2.elim
        | ok ps' =>
          rw [hp] at h2
          rintro σ' H' M2 ⟨Fs2, R⟩
          exact h2 H' _ (afterM R hvm hp)
end

/-! ### from the caller's side -/
section
variable {c : Ct} {M : Nat → Mo} {B : Bs} {Fs : Nat → List Addr} {H H' : Hp} {σ : L2.St} {ρ : Rho} {X : Cx} {We : WX} {k al al' i j : Nat}
/-- some slots' own objects changed -/
theorem RelF.putN (R : RelF c M B Fs H σ ρ) {Fs' : Nat → List Addr} {ρ' : Rho} (S : Nat → Prop) (h1 : ∀ a o, (∀ i, S i → a ∉ Fs i) → H a = some o → H' a = some o) (h2 : ∀ a, H' a = none → H a = none) (nd : ∀ i, S i → (Fs' i).Nodup)
    (dj : ∀ i j a, S i → S j → a ∈ Fs' i → a ∈ Fs' j → i = j) (eq : ∀ i, ¬ S i → Fs' i = Fs i) (h3 : ∀ i, S i → ∀ a ∈ Fs' i, (∃ j, S j ∧ a ∈ Fs j) ∨ H a = none) (h4 : ∀ i, S i → ∀ a ∈ Fs' i, ∃ o, H' a = some o ∧ ¬ sta o)
    (hρ : ∀ i, ¬ S i → ρ'[i]? = ρ[i]?) (hl : ρ'.length = ρ.length) (ho : ∀ i j s, S i → S j → M i = .o s → ∀ a ∈ Fs j, B.H0 a = none)
    (hi : ∀ i d, S i → ρ'[i]? = some (some d) → ∃ v, σ[i]? = some (some v) ∧ Sat c B Fs' H' (M i) v d (Fs' i)) : RelF c M B Fs' H' σ ρ' where
  nd := fun i => by
    by_cases h : S i
    · exact nd i h
    · rw [eq i h]; exact R.nd i
  dj := fun i j a ha hb => by
    by_cases h : S i
    · by_cases h' : S j
      · exact dj i j a h h' ha hb
      · rw [eq j h'] at hb
        rcases h3 i h a ha with ⟨l, hs, hm⟩ | e
        · exact absurd (R.dj l j a hm hb) fun z => h' (z ▸ hs)
        · exact absurd e (fun e => by obtain ⟨o, e', _⟩ := R.th j a hb; rw [e] at e'; cases e')
    · rw [eq i h] at ha
      by_cases h' : S j
      · rcases h3 j h' a hb with ⟨l, hs, hm⟩ | e
        · exact absurd (R.dj l i a hm ha) fun z => h (z ▸ hs)
        · exact absurd e (fun e => by obtain ⟨o, e', _⟩ := R.th i a ha; rw [e] at e'; cases e')
      · rw [eq j h'] at hb; exact R.dj i j a ha hb
  th := fun i a ha => by
    by_cases h : S i
    · exact h4 i h a ha
    · rw [eq i h] at ha
      obtain ⟨o, e, n⟩ := R.th i a ha
      exact ⟨o, h1 a o (fun j hj z => h (R.dj j i a z ha ▸ hj)) e, n⟩
  fr := fun p hp a o e hn => h1 a o (fun i _ z => (R.out p hp i a z).elim (fun y => by rw [y] at e; cases e) hn) (R.fr p hp a o e hn)
  out := fun p hp i a ha => by
    by_cases h : S i
    · rcases h3 i h a ha with ⟨l, _, hm⟩ | x
      · exact R.out p hp l a hm
      · by_cases hp2 : p.2 a
        · exact .inr hp2
        · refine .inl ?_
          cases e : p.1 a with
          | none => rfl
          | some o => rw [R.fr p hp a o e hp2] at x; cases x
    · rw [eq i h] at ha; exact R.out p hp i a ha
  own := fun i s hs a ha => by
    by_cases h : S i
    · rcases h3 i h a ha with ⟨l, hl, hm⟩ | x
      · exact ho i l s h hl hs a hm
      · exact R.old a x
    · rw [eq i h] at ha; exact R.own i s hs a ha
  old := fun a e => R.old a (h2 a e)
  sl := fun i d e => by
    by_cases h : S i
    · exact hi i d h e
    · rw [hρ i h] at e
      obtain ⟨v, e1, e2⟩ := R.sl i d e
      refine ⟨v, e1, ?_⟩
      rw [eq i h]
      have nin : ∀ a, (∀ l, a ∉ Fs l) → H a ≠ none → ∀ l, a ∉ Fs' l := fun a x y l z => by
        by_cases hl : S l
        · rcases h3 l hl a z with ⟨m, _, hm⟩ | q
          · exact x m hm
          · exact y q
        · rw [eq l hl] at z; exact x l z
      refine e2.mono (fun al a hal x y => ?_) fun a o x e => h1 a o (fun l hl z => ?_) e
      · match al, hal, x with
        | 0, _, x => exact ⟨nin a x.1 y, x.2⟩
        | 1, _, x => exact nin a x y
      · rcases x with x | x | x
        · exact x l z
        · exact h (R.dj l i a z x ▸ hl)
        · obtain ⟨o', e', n'⟩ := R.th l a z
          rw [e] at e'; cases e'; exact n' x
  mp := R.mp
  len := by rw [R.len, hl]

end
/-- what is owned and holds nothing else that may change -/
def immIn : Sh → D → Bool
  | .fz, d => d.imm
  | .l s, .lst l => l.all (immIn s)
  | .d, .dct m => m.all fun p => p.2.imm
  | .land, _ => true
  | .pile, .pile l => immA l
  | .pile, .raw => true
  | .m, .lst l => immA l
  | .m, d => d.imm
  | .tl, .tup (.lst l :: es) => immA l && immA es
  | _, _ => false
theorem P3.impD {P P' : V → D → List Addr → Prop} : ∀ {vs ds Fs}, P3 P vs ds Fs → (∀ v d F, d ∈ ds → F ∈ Fs → P v d F → P' v d F) → P3 P' vs ds Fs
  | _, _, _, .nil, _ => .nil
  | _, _, _, .cons h t, f => .cons (f _ _ _ (by simp) (by simp) h) (t.impD fun v d F hd hF => f v d F (by simp [hd]) (by simp [hF]))
theorem immA_zip {ks : List (List Key)} : ∀ {ds : List D}, ds.length ≤ ks.length → ((ks.zip ds).all fun p => p.2.imm) = true → immA ds = true := by
  induction ks with
  | nil => intro ds hl _; cases ds with
    | nil => simp
    | cons d ds => simp at hl
  | cons k ks ih =>
    intro ds hl h
    cases ds with
    | nil => simp
    | cons d ds =>
      simp only [List.zip_cons_cons, List.all_cons, Bool.and_eq_true] at h
      rw [immA_cons, h.1, ih (by simpa using hl) h.2]
      rfl
theorem Own.immIn {c : Ct} {W W' : Addr → Prop} {H : Hp} : ∀ {s : Sh} {v : V} {d : D} {F : List Addr}, Own c W H s v d F → immIn s d = true → Own c W' H s v d F
  | .fz, v, d, F, ⟨e, h⟩, hd => ⟨e, h.imm (fun _ _ _ x => x) hd⟩
  | .l s, v, d, F, ⟨a, xs, ds, Gs, e1, e2, h1, h2, e3⟩, hd => by
    subst e2
    rw [VS.immIn, List.all_eq_true] at hd
    exact ⟨a, xs, ds, Gs, e1, rfl, h1, h2.impD fun v d F hm _ ho => Own.immIn ho (hd d hm), e3⟩
  | .d, v, d, F, ⟨a, ks, vs, ds, e1, e2, h1, h2, h3, e3⟩, hd => by
    subst e2
    rw [VS.immIn] at hd
    exact ⟨a, ks, vs, ds, e1, rfl, h1, h2, h3.imm (fun _ _ _ x => x) (immA_zip (by rw [← h3.length, h2]; exact Nat.le_refl _) hd), e3⟩
  | .land, v, d, F, h, hd => h
  | .pile, v, d, F, ⟨a, e1, .inl ⟨dx, r, xs, ds, e2, h1, h2, h3, e3⟩⟩, hd => by
    subst e2
    exact ⟨a, e1, .inl ⟨dx, r, xs, ds, rfl, h1, h2, h3.imm (fun _ _ _ x => x) hd, e3⟩⟩
  | .pile, v, d, F, ⟨a, e1, .inr h⟩, hd => ⟨a, e1, .inr h⟩
  | .m, v, d, F, .inl ⟨e, hi, h⟩, hd => .inl ⟨e, hi, h.imm (fun _ _ _ x => x) hi⟩
  | .m, v, d, F, .inr ⟨a, xs, ds, e1, e2, h1, h2, e3⟩, hd => by
    subst e2
    rw [VS.immIn] at hd
    exact .inr ⟨a, xs, ds, e1, rfl, h1, h2.imm (fun _ _ _ x => x) hd, e3⟩
  | .tl, v, d, F, ⟨t, a, xs, ds, vs, es, e1, e2, h0, h1, h2, h3, e3⟩, hd => by
    subst e2
    rw [VS.immIn, Bool.and_eq_true] at hd
    exact ⟨t, a, xs, ds, vs, es, e1, rfl, h0, h1, h2.imm (fun _ _ _ x => x) hd.1, h3.imm (fun _ _ _ x => x) hd.2, e3⟩

def jAt (js : List (Option (Nat × Sh))) (i : Nat) : Option (Nat × Sh) := (js[i]?).join
def putM (ps : List D) : List (Option (Nat × Sh)) → Nat → Rho → Rho
  | [], _, ρ => ρ
  | m :: js, i, ρ => putM ps js (i + 1) (match m, ps[i]? with
    | some (j, _), some d => ρ.set j (some d)
    | _, _ => ρ)
def jIdx : List (Option (Nat × Sh)) → Nat → Option Nat
  | [], _ => none
  | m :: js, j => if m.map (·.1) = some j then some 0 else (jIdx js j).map (· + 1)
theorem jIdx_some : ∀ {js : List (Option (Nat × Sh))} {j i : Nat}, jIdx js j = some i → ∃ s, jAt js i = some (j, s)
  | [], j, i, h => by simp [jIdx] at h
  | m :: js, j, i, h => by
    unfold jIdx at h
    split at h
    · rename_i e
      cases h
      cases m with
      | none => cases e
      | some p => exact ⟨p.2, by simp at e; simp [jAt, ← e]⟩
    · cases e : jIdx js j with
      | none => rw [e] at h; cases h
      | some i' =>
        rw [e] at h
        cases h
        obtain ⟨s, hs⟩ := jIdx_some e
        exact ⟨s, by simpa [jAt] using hs⟩
theorem jIdx_of : ∀ {js : List (Option (Nat × Sh))} {j i : Nat} {s : Sh}, jAt js i = some (j, s) → ∃ i', jIdx js j = some i'
  | [], j, i, s, h => by simp [jAt] at h
  | m :: js, j, i, s, h => by
    unfold jIdx
    split
    · exact ⟨0, rfl⟩
    · rename_i e
      cases i with
      | zero => simp [jAt] at h; rw [h] at e; exact absurd rfl e
      | succ i =>
        obtain ⟨i', h'⟩ := jIdx_of (js := js) (j := j) (i := i) (s := s) (by simpa [jAt] using h)
        exact ⟨i' + 1, by rw [h']; rfl⟩
theorem putM_len {ps : List D} : ∀ {js : List (Option (Nat × Sh))} {b : Nat} {ρ : Rho}, (putM ps js b ρ).length = ρ.length
  | [], _, _ => rfl
  | m :: js, b, ρ => by
    unfold putM
    rw [putM_len]
    split <;> simp
theorem putM_ne {ps : List D} {j : Nat} : ∀ {js : List (Option (Nat × Sh))} {b : Nat} {ρ : Rho}, (∀ i s, jAt js i ≠ some (j, s)) → (putM ps js b ρ)[j]? = ρ[j]?
  | [], _, _, _ => rfl
  | m :: js, b, ρ, h => by
    unfold putM
    rw [putM_ne fun i s => by have := h (i + 1) s; simpa [jAt] using this]
    split
    · rename_i j' s' d hd
      rw [List.getElem?_set_ne]
      intro e
      exact h 0 s' (by simp [jAt, e])
    · rfl
theorem putM_at {ps : List D} {j : Nat} {s : Sh} {d : D} : ∀ {js : List (Option (Nat × Sh))} {b i : Nat} {ρ : Rho}, (∀ i i' s s', jAt js i = some (j, s) → jAt js i' = some (j, s') → i = i') → jAt js i = some (j, s) → ps[b + i]? = some d → j < ρ.length → (putM ps js b ρ)[j]? = some (some d)
  | [], _, i, _, _, h, _, _ => by simp [jAt] at h
  | m :: js, b, 0, ρ, inj, h, hd, hl => by
    have hm : m = some (j, s) := by simpa [jAt] using h
    subst hm
    unfold putM
    rw [putM_ne fun i s' e => by
      have := inj 0 (i + 1) s s' (by simp [jAt]) (by simpa [jAt] using e)
      omega]
    rw [Nat.add_zero] at hd
    rw [hd]
    exact List.getElem?_set_self hl
  | m :: js, b, i + 1, ρ, inj, h, hd, hl => by
    unfold putM
    refine putM_at (i := i) (fun i i' s s' h1 h2 => ?_) (by simpa [jAt] using h) (by rw [show b + 1 + i = b + (i + 1) by omega]; exact hd) ?_
    · have := inj (i + 1) (i' + 1) s s' (by simpa [jAt] using h1) (by simpa [jAt] using h2)
      omega
    · split <;> simpa using hl
theorem inj_of : ∀ {js : List (Option (Nat × Sh))}, (js.filterMap fun m => m.map (·.1)).Nodup → ∀ j i i' s s', jAt js i = some (j, s) → jAt js i' = some (j, s') → i = i'
  | [], _, j, i, i', s, s', h, _ => by simp [jAt] at h
  | m :: js, nd, j, i, i', s, s', h, h' => by
    have mem : ∀ {i s}, jAt js i = some (j, s) → j ∈ js.filterMap fun m => m.map (·.1) := fun {i s} h => by
      rw [List.mem_filterMap]
      unfold jAt at h
      cases e : js[i]? with
      | none => rw [e] at h; cases h
      | some m =>
        rw [e] at h
        exact ⟨m, List.mem_of_getElem? e, by rw [show m = some (j, s) from h]; rfl⟩
    have nd' : (js.filterMap fun m => m.map (·.1)).Nodup := by
      cases m with
      | none => simpa using nd
      | some p => exact (List.nodup_cons.mp (by simpa using nd)).2
    have hd : ∀ {i s s'}, m = some (j, s') → jAt js i = some (j, s) → False := fun {i s s'} e hh => by
      subst e
      have := (List.nodup_cons.mp (by simpa using nd : (j :: js.filterMap fun m => m.map (·.1)).Nodup)).1
      exact this (mem hh)
    cases i with
    | zero =>
      cases i' with
      | zero => rfl
      | succ i' => exact (hd (by simpa [jAt] using h) (by simpa [jAt] using h' : jAt js i' = _)).elim
    | succ i =>
      cases i' with
      | zero => exact (hd (by simpa [jAt] using h') (by simpa [jAt] using h : jAt js i = _)).elim
      | succ i' => rw [inj_of nd' j i i' s s' (by simpa [jAt] using h) (by simpa [jAt] using h')]
inductive ARG (c : Ct) (md : Sh → Mo) (M : Nat → Mo) (W : Addr → Prop) (H' : Hp) (σ : L2.St) (ρ : Rho) : List (Option (Nat × Sh)) → List V → List D → Prop
  | nil : ARG c md M W H' σ ρ [] [] []
  | rd {v d js vs ds} : Is c W H' v d → ARG c md M W H' σ ρ js vs ds → ARG c md M W H' σ ρ (none :: js) (v :: vs) (d :: ds)
  | own {v d j s js vs ds} : σ[j]? = some (some v) → ρ[j]? = some (some d) → M j = md s → immIn s d = true → ARG c md M W H' σ ρ js vs ds → ARG c md M W H' σ ρ (some (j, s) :: js) (v :: vs) (d :: ds)
section
variable {c : Ct} {M : Nat → Mo} {md : Sh → Mo} {B : Bs} {Fs : Nat → List Addr} {H H' : Hp} {σ : L2.St} {ρ : Rho} {X : Cx} {We : WX} {k al al' i j : Nat} {W W' : Addr → Prop} {js : List (Option (Nat × Sh))} {vs : List V} {ds : List D}
theorem ARG.len : ∀ {js vs ds}, ARG c md M W H' σ ρ js vs ds → vs.length = ds.length ∧ js.length = ds.length
  | _, _, _, .nil => ⟨rfl, rfl⟩
  | _, _, _, .rd _ t => by simp [t.len.1, t.len.2]
  | _, _, _, .own _ _ _ _ t => by simp [t.len.1, t.len.2]
theorem ARG.at_ : ∀ {js vs ds}, ARG c md M W H' σ ρ js vs ds → ∀ i d, ds[i]? = some d → ∃ v, vs[i]? = some v ∧ (match jAt js i with
    | some (j, s) => σ[j]? = some (some v) ∧ ρ[j]? = some (some d) ∧ M j = md s ∧ immIn s d = true
    | none => Is c W H' v d)
  | _, _, _, .nil, i, d, e => by simp at e
  | _, _, _, .rd h t, 0, d, e => by simp at e; subst e; exact ⟨_, rfl, h⟩
  | _, _, _, .own h1 h2 h3 h4 t, 0, d, e => by simp at e; subst e; exact ⟨_, rfl, h1, h2, h3, h4⟩
  | _, _, _, .rd h t, i + 1, d, e => by
    obtain ⟨v, e1, e2⟩ := t.at_ i d (by simpa using e)
    exact ⟨v, by simpa using e1, by simpa [jAt] using e2⟩
  | _, _, _, .own h1 h2 h3 h4 t, i + 1, d, e => by
    obtain ⟨v, e1, e2⟩ := t.at_ i d (by simpa using e)
    exact ⟨v, by simpa using e1, by simpa [jAt] using e2⟩
theorem ARG.slot : ∀ {js vs ds}, ARG c md M W H' σ ρ js vs ds → ∀ i j s, jAt js i = some (j, s) → ∃ v d, vs[i]? = some v ∧ ds[i]? = some d ∧ σ[j]? = some (some v) ∧ ρ[j]? = some (some d) ∧ M j = md s
  | _, _, _, .nil, i, j, s, e => by simp [jAt] at e
  | _, _, _, .rd h t, 0, j, s, e => by simp [jAt] at e
  | _, _, _, .own h1 h2 h3 h4 t, 0, j, s, e => by simp [jAt] at e; obtain ⟨rfl, rfl⟩ := e; exact ⟨_, _, rfl, rfl, h1, h2, h3⟩
  | _, _, _, .rd h t, i + 1, j, s, e => by
    obtain ⟨v, d, e1, e2, e3⟩ := t.slot i j s (by simpa [jAt] using e)
    exact ⟨v, d, by simpa using e1, by simpa using e2, e3⟩
  | _, _, _, .own h1 h2 h3 h4 t, i + 1, j, s, e => by
    obtain ⟨v, d, e1, e2, e3⟩ := t.slot i j s (by simpa [jAt] using e)
    exact ⟨v, d, by simpa using e1, by simpa using e2, e3⟩
theorem ARG.same {H2 : Hp} (hs : Same H' H2) : ∀ {js vs ds}, ARG c md M W H' σ ρ js vs ds → ARG c md M W H2 σ ρ js vs ds
  | _, _, _, .nil => .nil
  | _, _, _, .rd h t => .rd (h.same hs) (t.same hs)
  | _, _, _, .own h1 h2 h3 h4 t => .own h1 h2 h3 h4 (t.same hs)
def shs (js : List (Option (Nat × Sh))) : List (Option Sh) := js.map fun m => m.map (·.2)
theorem ownAt_shs {js : List (Option (Nat × Sh))} {i : Nat} : ownAt (shs js) i = (jAt js i).map (·.2) := by
  unfold ownAt shs jAt
  rw [List.getElem?_map]
  cases js[i]? with
  | none => rfl
  | some m => rfl
def cFs (js : List (Option (Nat × Sh))) (Fs : Nat → List Addr) : Nat → List Addr := fun i => match jAt js i with
  | some p => Fs p.1
  | none => []
theorem ARG.argM (R : RelF c M B Fs H' σ ρ) (hmd : md = Mo.o ∨ md = Mo.p) (inj : ∀ j i i' s s', jAt js i = some (j, s) → jAt js i' = some (j, s') → i = i') (h : ARG c md M (fun a => ∀ l, a ∉ Fs l) H' σ ρ js vs ds) : ArgM c H' (shs js) vs ds (cFs js Fs) where
  lv := h.len.1
  lm := by rw [← h.len.2]; simp [shs]
  nd := fun i => by
    unfold cFs
    split
    · exact R.nd _
    · simp
  dj := fun i i' a ha hb => by
    unfold cFs at ha hb
    cases e1 : jAt js i with
    | none => rw [e1] at ha; simp at ha
    | some p =>
      cases e2 : jAt js i' with
      | none => rw [e2] at hb; simp at hb
      | some p' =>
        rw [e1] at ha; rw [e2] at hb
        have e := R.dj _ _ a ha hb
        obtain ⟨j, s⟩ := p
        obtain ⟨j', s'⟩ := p'
        dsimp only at e
        subst e
        exact inj j i i' s s' e1 e2
  no := fun i e => by
    rw [ownAt_shs] at e
    unfold cFs
    cases e1 : jAt js i with
    | none => rfl
    | some p => rw [e1] at e; cases e
  at_ := fun i d e => by
    obtain ⟨v, e1, e2⟩ := h.at_ i d e
    refine ⟨v, e1, ?_⟩
    rw [ownAt_shs]
    cases e3 : jAt js i with
    | none =>
      rw [e3] at e2
      refine Is.up e2 fun a x l => ?_
      unfold cFs
      split
      · exact x _
      · simp
    | some p =>
      rw [e3] at e2
      obtain ⟨j, s⟩ := p
      obtain ⟨h1, h2, h3, h4⟩ := e2
      obtain ⟨v', q1, q2⟩ := R.sl j d h2
      rw [h1] at q1
      cases q1
      show Own c _ H' s v d (cFs js Fs i)
      unfold cFs
      rw [e3]
      rw [h3] at q2
      rcases hmd with rfl | rfl
      · exact Own.immIn q2 h4
      · exact q2
/-- what stands behind such a call -/
theorem RelF.after {ps : List D} {Fc : Nat → List Addr} (R : RelF c M B Fs H σ ρ) (hmd : md = Mo.o ∨ md = Mo.p) (inj : ∀ j i i' s s', jAt js i = some (j, s) → jAt js i' = some (j, s') → i = i') (h : ARG c md M W H σ ρ js vs ds) (A : AfterM c H H' (shs js) vs ps (cFs js Fs) Fc) :
    RelF c M B (fun j => match jIdx js j with
      | some i => Fc i
      | none => Fs j) H' σ (putM ps js 0 ρ) := by
  have idx : ∀ {i j s}, jAt js i = some (j, s) → jIdx js j = some i := fun {i j s} e => by
    obtain ⟨i', e'⟩ := jIdx_of e
    obtain ⟨s', hs⟩ := jIdx_some e'
    rw [e', inj j i' i s' s hs e]
  have cf : ∀ {i j s}, jAt js i = some (j, s) → cFs js Fs i = Fs j := fun {i j s} e => by
    unfold cFs
    rw [e]
  refine R.putN (fun j => (jIdx js j).isSome) (fun a o hn e => A.fr a o (fun i z => ?_) e) A.old (fun j hj => ?_) (fun j j' a hj hj' ha hb => ?_) (fun j hj => ?_) (fun j hj a ha => ?_) (fun j hj a ha => ?_) (fun j hj => putM_ne fun i s e => hj (by rw [idx e]; rfl)) putM_len (fun j j' s hj hj' hs a ha => ?_) fun j d hj e => ?_
  · unfold cFs at z
    cases e1 : jAt js i with
    | none => rw [e1] at z; simp at z
    | some p =>
      rw [e1] at z
      exact hn p.1 (by rw [idx (s := p.2) e1]; rfl) z
  · obtain ⟨i, e⟩ := Option.isSome_iff_exists.mp hj
    rw [e]; exact A.nd i
  · obtain ⟨i, e⟩ := Option.isSome_iff_exists.mp hj
    obtain ⟨i', e'⟩ := Option.isSome_iff_exists.mp hj'
    rw [e] at ha; rw [e'] at hb
    have := A.dj i i' a ha hb
    subst this
    obtain ⟨s, h1⟩ := jIdx_some e
    obtain ⟨s', h2⟩ := jIdx_some e'
    rw [h1] at h2; cases h2; rfl
  · cases e : jIdx js j with
    | none => rfl
    | some i => exact absurd (by rw [e]; rfl) hj
  · obtain ⟨i, e⟩ := Option.isSome_iff_exists.mp hj
    rw [e] at ha
    rcases A.new i a ha with ⟨i', hm⟩ | x
    · refine .inl ?_
      unfold cFs at hm
      cases e1 : jAt js i' with
      | none => rw [e1] at hm; simp at hm
      | some p => rw [e1] at hm; exact ⟨p.1, by rw [idx (s := p.2) e1]; rfl, hm⟩
    · exact .inr x
  · obtain ⟨i, e⟩ := Option.isSome_iff_exists.mp hj
    rw [e] at ha
    obtain ⟨s, h1⟩ := jIdx_some e
    obtain ⟨v, d', q1, q2, q3⟩ := A.at_ i s (by rw [ownAt_shs, h1]; rfl)
    exact q3.there a ha
  · obtain ⟨i, e⟩ := Option.isSome_iff_exists.mp hj
    obtain ⟨i', e'⟩ := Option.isSome_iff_exists.mp hj'
    obtain ⟨s1, h1⟩ := jIdx_some e
    obtain ⟨s2, h2⟩ := jIdx_some e'
    obtain ⟨_, _, _, _, _, _, m1⟩ := h.slot i j s1 h1
    obtain ⟨_, _, _, _, _, _, m2⟩ := h.slot i' j' s2 h2
    rcases hmd with rfl | rfl
    · exact R.own j' s2 m2 a ha
    · rw [m1] at hs; cases hs
  · obtain ⟨i, e1⟩ := Option.isSome_iff_exists.mp hj
    obtain ⟨s, h1⟩ := jIdx_some e1
    obtain ⟨v, d0, q1, q2, q3, q4, q5⟩ := h.slot i j s h1
    obtain ⟨v', d', p1, p2, p3⟩ := A.at_ i s (by rw [ownAt_shs, h1]; rfl)
    rw [q1] at p1
    cases p1
    have hl : j < ρ.length := (List.getElem?_eq_some_iff.mp q4).1
    rw [putM_at (inj j) h1 (by rw [Nat.zero_add]; exact p2) hl] at e
    cases e
    refine ⟨v, q3, ?_⟩
    rw [q5]
    simp only [e1]
    rcases hmd with rfl | rfl
    · exact p3.mono (fun _ z => z.elim) fun _ _ _ e => e
    · exact p3
end
end VS
set_option Elab.async false
set_option linter.all false
set_option maxRecDepth 100000
set_option maxHeartbeats 2000000
/-! VN: expressions that change what a slot owns; calls of such defs; methods. -/
namespace VS
open PySem L2

/-- what such an expression gives: a value (that can not change), or an exception; the slots then -/
inductive Xo where
  | v (d : D) (ρ : Rho)
  | ex (k : Value) (ρ : Rho)
abbrev XF := Rho → O Xo
structure VX (X : Cx) (c : Ct) (M : Nat → Mo) (We : WX) (e : Expr) (f : XF) : Prop where
  ex : ∃ te, PE X e te ∧ ∀ (B : Bs) (σ : L2.St) (H : Hp) (ρ : Rho) (Q : VK), Rel c M B H σ ρ →
    Po (f ρ) (fun r => match r with
      | .v d ρ' => ∀ v H', Rel c M B H' σ ρ' → Is c (fun _ => False) H' v d → Q v H'
      | .ex k ρ' => ∀ H', Rel c M B H' σ ρ' → We k none σ H') (fun k => ∀ H', FrB B H' → We k none σ H') → te σ H Q
structure VXA (X : Cx) (c : Ct) (M : Nat → Mo) (We : WX) (es : List Expr) (f : Rho → O (Xo × List D)) : Prop where
  ex : ∃ ta, PA X es ta ∧ ∀ (B : Bs) (σ : L2.St) (H : Hp) (ρ : Rho) (Q : List V → Hp → Prop), Rel c M B H σ ρ →
    Po (f ρ) (fun r => match r with
      | (.v _ ρ', ds) => ∀ vs H', Rel c M B H' σ ρ' → IsA c (fun _ => False) H' vs ds → Q vs H'
      | (.ex k ρ', _) => ∀ H', Rel c M B H' σ ρ' → We k none σ H') (fun k => ∀ H', FrB B H' → We k none σ H') → ta σ H Q
structure VXT (X : Cx) (c : Ct) (M : Nat → Mo) (We : WX) (e : Expr) (f : XF) : Prop where
  ex : ∃ tt, PT X e tt ∧ ∀ (B : Bs) (σ : L2.St) (H : Hp) (ρ : Rho) (Q : Bool → Hp → Prop), Rel c M B H σ ρ →
    Po (f ρ) (fun r => match r with
      | .v d ρ' => ∃ b, d = .bl b ∧ ∀ H', Rel c M B H' σ ρ' → Q b H'
      | .ex k ρ' => ∀ H', Rel c M B H' σ ρ' → We k none σ H') (fun k => ∀ H', FrB B H' → We k none σ H') → tt σ H Q
structure VAM (X : Cx) (c : Ct) (md : Sh → Mo) (M : Nat → Mo) (We : WX) (js : List (Option (Nat × Sh))) (es : List Expr) (f : AF) : Prop where
  ex : ∃ ta, PA X es ta ∧ ∀ (B : Bs) (Fs : Nat → List Addr) (σ : L2.St) (H : Hp) (ρ : Rho) (Q : List V → Hp → Prop), RelF c M B Fs H σ ρ →
    Po (f ρ) (fun ds => ∀ vs H', Same H H' → ARG c md M (fun a => ∀ l, a ∉ Fs l) H' σ ρ js vs ds → Q vs H') (fun k => ∀ H', Same H H' → We k none σ H') → ta σ H Q

/-! ### meanings -/
/-- r, then what follows -/
def Xo.then (r : O Xo) (f : D → Rho → O Xo) : O Xo := r.bind fun x => match x with
  | .v d ρ => f d ρ
  | .ex k ρ => .ok (.ex k ρ)
def xP (f : EF) : XF := fun ρ => (f ρ).bind fun d => gd d.imm (.ok (.v d ρ))
/-- a call of a def that changes the slots js -/
def xCall (js : List (Option (Nat × Sh))) (as : AF) (F : List D → O Rz) : XF := fun ρ => (as ρ).bind fun ds => (F ds).bind fun r => match r with
  | .rt d ps => gd d.imm (.ok (.v d (putM ps js 0 ρ)))
  | .ex k ps => .ok (.ex k (putM ps js 0 ρ))
def x1 (f : D → O D) (x : XF) : XF := fun ρ => Xo.then (x ρ) fun d ρ => (f d).bind fun d => gd d.imm (.ok (.v d ρ))
def eOwn (s : Sh) (j : Nat) : EF := fun ρ => (eVar j ρ).bind fun d => gd (immIn s d) (.ok d)
def xaNil : Rho → O (Xo × List D) := fun ρ => .ok (.v .non ρ, [])
def xaCons (x : XF) (xs : Rho → O (Xo × List D)) : Rho → O (Xo × List D) := fun ρ => (x ρ).bind fun r => match r with
  | .v d ρ => (xs ρ).bind fun r => match r with
    | (.v e ρ, ds) => .ok (.v e ρ, d :: ds)
    | (.ex k ρ, ds) => .ok (.ex k ρ, ds)
  | .ex k ρ => .ok (.ex k ρ, [])
/-- a call of a def that changes nothing -/
def xCallP (xs : Rho → O (Xo × List D)) (F : List D → O D) : XF := fun ρ => (xs ρ).bind fun r => match r with
  | (.v _ ρ, ds) => (F ds).bind fun d => gd d.imm (.ok (.v d ρ))
  | (.ex k ρ, _) => .ok (.ex k ρ)
def xB (x : XF) : XF := fun ρ => Xo.then (x ρ) fun d ρ => match d with
  | .bl b => .ok (.v (.bl b) ρ)
  | _ => .bad
def x2 (g : D → D → O D) (x y : XF) : XF := fun ρ => Xo.then (x ρ) fun d ρ => Xo.then (y ρ) fun e ρ => (g d e).bind fun r => gd r.imm (.ok (.v r ρ))
def xNot (x : XF) : XF := fun ρ => Xo.then (x ρ) fun d ρ => match d with
  | .bl b => .ok (.v (.bl !b) ρ)
  | _ => .bad
def xOr (x y : XF) : XF := fun ρ => Xo.then (x ρ) fun d ρ => match d with
  | .bl true => .ok (.v (.bl true) ρ)
  | .bl false => y ρ
  | _ => .bad
def xAnd (x y : XF) : XF := fun ρ => Xo.then (x ρ) fun d ρ => match d with
  | .bl false => .ok (.v (.bl false) ρ)
  | .bl true => y ρ
  | _ => .bad
def xT (t : TF) : XF := fun ρ => (t ρ).bind fun b => .ok (.v (.bl b) ρ)
def sX (x : XF) (f : D → Rho → O Out) : SF := fun ρ => (x ρ).bind fun r => match r with
  | .v d ρ => f d ρ
  | .ex k ρ => .ok (.ex k ρ)
def sDropX (x : XF) : SF := sX x fun _ ρ => .ok (.nx ρ)
def sSetX (i : Nat) (x : XF) : SF := sX x fun d ρ => gd (decide (i < ρ.length)) (.ok (.nx (ρ.set i (some d))))
def sRetX (x : XF) : SF := sX x fun d ρ => .ok (.rt d ρ)
def sIfX (x : XF) (g g' : SF) : SF := sX x fun d ρ => match d with
  | .bl true => g ρ
  | .bl false => g' ρ
  | _ => .bad

section
variable {c : Ct} {M M' M1 Ml : Nat → Mo} {B : Bs} {H H' : Hp} {σ : L2.St} {ρ : Rho} {X : Cx} {We : WX} {k k' al al' i j : Nat} {rs : Sh} {st : Stmt} {sts : List Stmt} {e a b : Expr} {f : EF} {g g' : SF} {t : TF} {pos apos : Pos} {x y : XF} {md : Sh → Mo} {js : List (Option (Nat × Sh))}
  {es : List Expr} {fs : AF} {xs : Rho → O (Xo × List D)}
theorem FrB.of {Fs : Nat → List Addr} (R : RelF c M B Fs H σ ρ) : FrB B H := fun p hp a o e hn => R.fr p hp a o e hn
theorem Po.exc_x {α : Type} {r : O α} {P : α → Prop} {Fs : Nat → List Addr} (R : RelF c M B Fs H σ ρ) (h : Po r P (fun k => ∀ H, FrB B H → We k none σ H)) : Po r P (fun k => ∀ H', Same H H' → We k none σ H') :=
  h.imp (fun _ _ q => q) fun _ _ q H' hs => q H' fun p hp a o e hn => hs a o (R.fr p hp a o e hn)

/-! ### arguments of a call that changes slots -/
theorem vam_nil : VAM X c md M We [] [] aNil := ⟨_, pa_nil, fun B Fs σ H ρ Q R po => po _ H (Same.refl H) .nil⟩
theorem vam_rd (h : VE X c M We al e f) (hal : al ≤ 1) (t : VAM X c md M We js es fs) (hs : starEach (e :: es) X.env = (false, eval e X.env) :: starEach es X.env := by rfl) : VAM X c md M We (none :: js) (e :: es) (aCons f fs) := by
  obtain ⟨te, p, s⟩ := h.ex
  obtain ⟨ta, p', s'⟩ := t.ex
  refine ⟨_, pa_cons p p' hs, fun B Fs σ H ρ Q R po => s _ σ H ρ _ R.slots ((Po.bind po).imp (fun d _ q v H1 hs hi => ?_) fun _ _ q => q)⟩
  refine s' B Fs σ H1 ρ _ (R.same hs) ((Po.bind q).imp (fun ds _ q vs H2 hs2 hi2 => ?_) fun _ _ q H2 hs2 => q H2 (hs.trans hs2))
  refine q _ H2 (hs.trans hs2) (.rd (Is.up (hi.same hs2) fun a z l => ?_) hi2)
  rcases z with z | z
  · exact (wd B Fs).up hal a z l
  · exact R.newNot z l
theorem vam_own {n : Str} (j : Nat) (s : Sh) (hm : M j = md s) (t : VAM X c md M We js es fs) (hN : X.N[j]? = some n := by rfl) (hv : Vis X.env.scope n := by first | exact Or.inl rfl | exact Or.inr (Or.inl rfl) | exact Or.inr (Or.inr rfl)) (hd : (n == ("__debug__" : Str)) = false := by decide)
    (hcd : (n == ("__classdict__" : Str)) = false := by decide) (hs : starEach (.Name n pos :: es) X.env = (false, eval (.Name n pos) X.env) :: starEach es X.env := by rfl) : VAM X c md M We (some (j, s) :: js) (.Name n pos :: es) (aCons (eOwn s j) fs) := by
  obtain ⟨ta, p', s'⟩ := t.ex
  refine ⟨_, pa_cons (pv j hN hv hd hcd) p' hs, fun B Fs σ H ρ Q R po => ?_⟩
  obtain ⟨d, hr, po⟩ := po_var (i := j) (ρ := ρ) (f := fun d => gd (immIn s d) (.ok d)) (Po.bind (r := eOwn s j ρ) po)
  obtain ⟨hi, po⟩ := Po.gd po
  obtain ⟨v, h1, h2⟩ := R.sl j d hr
  refine ⟨v, h1, ?_⟩
  exact s' B Fs σ H ρ _ R ((Po.bind (r := fs ρ) po).imp (fun ds _ q vs H2 hs2 hi2 => q _ H2 hs2 (.own h1 hr hm hi hi2)) fun _ _ q => q)

/-! ### what changes nothing -/
theorem vx_of (h : VE X c M We al e f) : VX X c M We e (xP f) := by
  obtain ⟨te, p, s⟩ := h.ex
  refine ⟨te, p, fun B σ H ρ Q R po => ?_⟩
  obtain ⟨Fs, R⟩ := R
  refine s _ σ H ρ Q R.slots ((Po.exc_x R (Po.bind po)).imp (fun d _ q v H' hs hi => ?_) fun _ _ q => q)
  obtain ⟨hd, q⟩ := Po.gd q
  exact q v H' ⟨Fs, R.same hs⟩ (hi.imm (fun _ _ _ z => z) hd)
theorem vxt_of (h : VT X c M We e t) : VXT X c M We e (xT t) := by
  obtain ⟨tt, p, s⟩ := h.ex
  refine ⟨tt, p, fun B σ H ρ Q R po => ?_⟩
  obtain ⟨Fs, R⟩ := R
  refine s _ σ H ρ Q R.slots ((Po.exc_x R (Po.bind po)).imp (fun b _ q H' hs => ?_) fun _ _ q => q)
  obtain ⟨b', hb, q⟩ := q
  cases hb
  exact q H' ⟨Fs, R.same hs⟩

/-! ### calls -/
/-- behind a callee that keeps spM -/
theorem spM_call {F : List D → O Rz} {Fs : Nat → List Addr} {vs : List V} {ds : List D} {Q : VK} {H0 : Hp} (R : RelF c M B Fs H σ ρ) (hmd : md = Mo.o ∨ md = Mo.p) (inj : (js.filterMap fun m => m.map (·.1)).Nodup) (ha : ARG c md M (fun a => ∀ l, a ∉ Fs l) H σ ρ js vs ds)
    (po : Po ((F ds).bind fun r => match r with
      | .rt d ps => gd d.imm (.ok (Xo.v d (putM ps js 0 ρ)))
      | .ex k ps => .ok (.ex k (putM ps js 0 ρ))) (fun r => match r with
      | .v d ρ' => ∀ v H', Rel c M B H' σ ρ' → Is c (fun _ => False) H' v d → Q v H'
      | .ex k ρ' => ∀ H', Rel c M B H' σ ρ' → We k none σ H') (fun k => ∀ H', FrB B H' → We k none σ H')) (hne : ∀ k, F ds ≠ .exc k) : spM c (shs js) .fz F vs H Q (WE We σ) := by
  refine ⟨ds, cFs js Fs, ha.argM R hmd (inj_of inj), (Po.bind po).imp (fun r _ q => ?_) fun kx ek _ => hne kx ek⟩
  cases r with
  | rt d ps =>
    intro v H' Fc Fp A n1 n2 n3
    obtain ⟨hd, q⟩ := Po.gd q
    exact q v H' ⟨_, R.after hmd (inj_of inj) ha A⟩ (Is.imm (fun _ _ _ z => z) n3.2 hd)
  | ex k ps =>
    intro H' Fc A
    exact q H' ⟨_, R.after hmd (inj_of inj) ha A⟩
/-- a def whose exceptions are told with the state -/
def noExc (F : List D → O Rz) : Prop := ∀ ds k, F ds ≠ .exc k
theorem runM_noExc {n : Nat} {ms : List (Option Sh)} {rs : Sh} {g : SF} : noExc (runM n ms rs g) := by
  intro ds k h
  have hpar : ∀ (ρ : Rho) (ms : List (Option Sh)) (b : Nat) (k : Value), parD ρ ms b ≠ .exc k := by
    intro ρ ms
    induction ms with
    | nil => intro b k h; cases h
    | cons m ms ih =>
      intro b k h
      unfold parD at h
      have hv : ∀ kk, (if m.isSome then eVar b ρ else .ok .non) ≠ .exc kk := by
        intro kk h
        split at h
        · unfold eVar at h
          split at h <;> cases h
        · cases h
      cases h1 : (if m.isSome then eVar b ρ else .ok .non) with
      | bad => rw [h1] at h; cases h
      | exc kk => exact hv kk h1
      | ok d =>
        rw [h1, O.bind_ok] at h
        cases h2 : parD ρ ms (b + 1) with
        | bad => rw [h2] at h; cases h
        | exc kk => exact ih (b + 1) kk h2
        | ok ds => rw [h2] at h; cases h
  unfold runM at h
  cases hb : (decide (ds.length = ms.length) && decide (ms.length ≤ n)) with
  | false => rw [hb] at h; cases h
  | true =>
    rw [hb, gd_true] at h
    cases hg : g (startD n ds) with
    | bad => rw [hg] at h; cases h
    | exc kk => rw [hg] at h; cases h
    | ok out =>
      rw [hg] at h
      cases out with
      | bk ρ' => cases h
      | ct ρ' => cases h
      | nx ρ' =>
        replace h : gd (decide (rs = .fz)) ((parD ρ' ms 0).bind fun ps => O.ok (Rz.rt .non ps)) = O.exc k := h
        cases hd : decide (rs = Sh.fz) with
        | false => rw [hd] at h; cases h
        | true =>
          rw [hd, gd_true] at h
          cases hp : parD ρ' ms 0 with
          | bad => rw [hp] at h; cases h
          | exc kk => exact hpar _ _ _ _ hp
          | ok ps => rw [hp] at h; cases h
      | rt d ρ' =>
        replace h : ((parD ρ' ms 0).bind fun ps => O.ok (Rz.rt d ps)) = O.exc k := h
        cases hp : parD ρ' ms 0 with
        | bad => rw [hp] at h; cases h
        | exc kk => exact hpar _ _ _ _ hp
        | ok ps => rw [hp] at h; cases h
      | ex kx ρ' =>
        replace h : ((parD ρ' ms 0).bind fun ps => O.ok (Rz.ex kx ps)) = O.exc k := h
        cases hp : parD ρ' ms 0 with
        | bad => rw [hp] at h; cases h
        | exc kk => exact hpar _ _ _ _ hp
        | ok ps => rw [hp] at h; cases h
theorem vx_call {n : Str} {F : List D → O Rz} {p : Pos} (z : Cz X c We k) (dc : Dc X.prog X.w X.K X.mg X.base k' n (spM c (shs js) .fz F)) (hk : k' ≤ k) (hne : noExc F) (hmd : md = Mo.o ∨ md = Mo.p) (t : VAM X c md M We js (e :: es) fs) (inj : (js.filterMap fun m => m.map (·.1)).Nodup := by decide) (hg : Gl X n := by rfl)
    (hdb : (n == ("__debug__" : Str)) = false := by decide) (he : starEach (e :: es) X.env = (false, eval e X.env) :: starEach es X.env := by rfl) (hpl : (backTo pos (starEach es X.env)).any (·.1) = false := by rfl) :
    VX X c M We (.Call (.Name n p) (e :: es) [] pos) (xCall js fs F) := by
  obtain ⟨f, fd, ps, G, hb, hm, kp⟩ := dc.ex
  obtain ⟨ta, pt, s⟩ := t.ex
  refine ⟨_, pe_callS (G.mono hk) z.hr hg hm kp hb (fun σ => L2N.passAt z.tk σ) pt hdb he hpl, fun B σ H ρ Q R po => ?_⟩
  obtain ⟨Fs, R⟩ := R
  exact s B Fs σ H ρ _ R ((Po.exc_x R (Po.bind po)).imp (fun ds _ q vs H1 hs ha => spM_call (H0 := H) (R.same hs) hmd inj ha q (hne ds)) fun _ _ q => q)
theorem vxa_nil : VXA X c M We [] xaNil := ⟨_, pa_nil, fun B σ H ρ Q R po => po _ H R .nil⟩
/-- what never changes is kept beside -/
def Bs.sta (B : Bs) (H : Hp) : Bs := { B with pr := (H, fun a => ∀ o, H a = some o → ¬ VS.sta o) :: B.pr }
theorem RelF.keepSta {Fs : Nat → List Addr} (R : RelF c M B Fs H σ ρ) : RelF c M (B.sta H) Fs H σ ρ :=
  ⟨R.nd, R.dj, R.th, fun p hp a o e hn => (List.mem_cons.mp hp).elim (fun z => by rw [z] at e; exact e) fun z => R.fr p z a o e hn,
    fun p hp i a ha => (List.mem_cons.mp hp).elim (fun z => by rw [z]; exact .inr fun o e => by obtain ⟨o', e', n⟩ := R.th i a ha; rw [e] at e'; cases e'; exact n) fun z => R.out p z i a ha, R.own, R.old, R.sl, R.mp, R.len⟩
theorem RelF.unSta {Fs : Nat → List Addr} {H0 : Hp} (R : RelF c M (B.sta H0) Fs H σ ρ) : RelF c M B Fs H σ ρ :=
  ⟨R.nd, R.dj, R.th, fun p hp => R.fr p (List.mem_cons_of_mem _ hp), fun p hp => R.out p (List.mem_cons_of_mem _ hp), R.own, R.old, R.sl, R.mp, R.len⟩
theorem RelF.staAt {Fs : Nat → List Addr} {H0 : Hp} (R : RelF c M (B.sta H0) Fs H σ ρ) : ∀ a o, VS.sta o → H0 a = some o → H a = some o := fun a o hs e =>
  R.fr _ List.mem_cons_self a o e fun z => z o e hs
theorem FrB.unSta {H0 : Hp} (h : FrB (B.sta H0) H) : FrB B H := fun p hp => h p (List.mem_cons_of_mem _ hp)
theorem Is.stay {W : Addr → Prop} {v : V} {d : D} (h : Is c (fun _ => False) H v d) (k : ∀ a o, VS.sta o → H a = some o → H' a = some o) : Is c W H' v d := h.mono (fun _ z => z.elim) fun a o z e => k a o (z.elim (fun y => y.elim) fun y => y) e
theorem vxa_cons (h : VX X c M We e x) (t : VXA X c M We es xs) (hs : starEach (e :: es) X.env = (false, eval e X.env) :: starEach es X.env := by rfl) : VXA X c M We (e :: es) (xaCons x xs) := by
  obtain ⟨te, p, s⟩ := h.ex
  obtain ⟨ta, p', s'⟩ := t.ex
  refine ⟨_, pa_cons p p' hs, fun B σ H ρ Q R po => s B σ H ρ _ R ((Po.bind po).imp (fun r _ q => ?_) fun _ _ q => q)⟩
  cases r with
  | ex k ρ1 => exact q
  | v d ρ1 =>
    rintro v H1 ⟨Fs, R1⟩ hi
    refine s' (B.sta H1) σ H1 ρ1 _ ⟨Fs, R1.keepSta⟩ ((Po.bind (r := xs ρ1) q).imp (fun r _ q => ?_) fun _ _ q H' hf => q H' hf.unSta)
    obtain ⟨r, ds⟩ := r
    cases r with
    | ex k ρ2 => exact fun H' ⟨F2, R2⟩ => q H' ⟨F2, R2.unSta⟩
    | v d2 ρ2 =>
      rintro vs H2 ⟨F2, R2⟩ hi2
      exact q _ H2 ⟨F2, R2.unSta⟩ (.cons (hi.stay R2.staAt) hi2)
theorem vx_callP {n : Str} {F : List D → O D} {p : Pos} (z : Cz X c We k) (dc : Dc X.prog X.w X.K X.mg X.base k' n (spP c .fz F)) (hk : k' ≤ k) (t : VXA X c M We (e :: es) xs) (hg : Gl X n := by rfl) (hdb : (n == ("__debug__" : Str)) = false := by decide)
    (he : starEach (e :: es) X.env = (false, eval e X.env) :: starEach es X.env := by rfl) (hpl : (backTo pos (starEach es X.env)).any (·.1) = false := by rfl) : VX X c M We (.Call (.Name n p) (e :: es) [] pos) (xCallP xs F) := by
  obtain ⟨f, fd, ps, G, hb, hm, kp⟩ := dc.ex
  obtain ⟨ta, pt, s⟩ := t.ex
  refine ⟨_, pe_callS (G.mono hk) z.hr hg hm kp hb (fun σ => L2N.passAt z.tk σ) pt hdb he hpl, fun B σ H ρ Q R po => ?_⟩
  refine s B σ H ρ _ R ((Po.bind po).imp (fun r _ q => ?_) fun _ _ q => q)
  obtain ⟨r, ds⟩ := r
  cases r with
  | ex k ρ1 => exact q
  | v d ρ1 =>
    rintro vs H1 ⟨Fs, R1⟩ hi
    refine ⟨ds, hi.up fun _ y => y.elim, (Po.bind (r := F ds) q).imp (fun d2 _ q v H2 Fp hs hn nd ho => ?_) fun kx _ q H2 hs => q H2 fun p hp a o e hn => hs a o (R1.fr p hp a o e hn)⟩
    obtain ⟨hd, q⟩ := Po.gd q
    exact q v H2 ⟨Fs, R1.same hs⟩ (Is.imm (fun _ _ _ z => z) ho.2 hd)

/-! ### tests -/
theorem vxt_val (h : VX X c M We e x) (he : ∀ whole, isTrue e X.env whole = (do let v ← whole; standAt e.pos; holding [v] (truthy v)) := by intro _; rfl) : VXT X c M We e (xB x) := by
  obtain ⟨te, p, s⟩ := h.ex
  refine ⟨_, pt_val p he, fun B σ H ρ Q R po => s B σ H ρ _ R ((Po.bind (r := x ρ) po).imp (fun r _ q => ?_) fun _ _ q => q)⟩
  cases r with
  | ex k ρ1 => exact q
  | v d ρ1 =>
    intro v H1 R1 hi
    cases d with
    | bl b =>
      obtain ⟨b', hb, q⟩ := q
      cases hb
      exact ⟨b, is_bl hi, q H1 R1⟩
    | _ => exact q.elim
theorem vxt_not (h : VXT X c M We e x) : VXT X c M We (.UnaryOp .Not e pos) (xNot x) := by
  obtain ⟨tt, p, s⟩ := h.ex
  refine ⟨_, pt_not p, fun B σ H ρ Q R po => s B σ H ρ _ R ((Po.bind (r := x ρ) po).imp (fun r _ q => ?_) fun _ _ q => q)⟩
  cases r with
  | ex k ρ1 => exact q
  | v d ρ1 =>
    cases d with
    | bl b =>
      obtain ⟨b', hb, q⟩ := q
      cases hb
      exact ⟨b, rfl, fun H1 R1 => q H1 R1⟩
    | _ => exact q.elim
structure VXW (X : Cx) (c : Ct) (M : Nat → Mo) (We : WX) (e : Expr) (f : XF) : Prop where
  ex : ∃ tt, PW X e tt ∧ ∀ (B : Bs) (σ : L2.St) (H : Hp) (ρ : Rho) (Q : Bool → Hp → Prop), Rel c M B H σ ρ →
    Po (f ρ) (fun r => match r with
      | .v d ρ' => ∃ b, d = .bl b ∧ ∀ H', Rel c M B H' σ ρ' → Q b H'
      | .ex k ρ' => ∀ H', Rel c M B H' σ ρ' → We k none σ H') (fun k => ∀ H', FrB B H' → We k none σ H') → tt σ H Q
theorem VXW.vt (h : VXW X c M We e x) : VXT X c M We e x := by
  obtain ⟨tt, p, s⟩ := h.ex
  exact ⟨tt, p.pt, s⟩
theorem vxw_and1 (h : VXT X c M We a x) : VXW X c M We (.BoolOp .And [a] pos) x := by
  obtain ⟨tt, p, s⟩ := h.ex
  exact ⟨tt, pw_and1 p, s⟩
theorem vxw_or1 (h : VXT X c M We a x) : VXW X c M We (.BoolOp .Or [a] pos) x := by
  obtain ⟨tt, p, s⟩ := h.ex
  exact ⟨tt, pw_or1 p, s⟩
theorem vxw_or {rest : List Expr} (h : VXT X c M We a x) (h' : VXW X c M We (.BoolOp .Or (b :: rest) pos) y) : VXW X c M We (.BoolOp .Or (a :: b :: rest) pos) (xOr x y) := by
  obtain ⟨tt, p, s⟩ := h.ex
  obtain ⟨tt', p', s'⟩ := h'.ex
  refine ⟨_, pw_or p p', fun B σ H ρ Q R po => s B σ H ρ _ R ((Po.bind (r := x ρ) po).imp (fun r _ q => ?_) fun _ _ q => q)⟩
  cases r with
  | ex k ρ1 => exact q
  | v d ρ1 =>
    cases d with
    | bl k =>
      refine ⟨k, rfl, fun H1 R1 => ?_⟩
      cases k with
      | false => exact s' B σ H1 ρ1 Q R1 q
      | true =>
        obtain ⟨b', hb, q⟩ := q
        cases hb
        exact q H1 R1
    | _ => exact q.elim
theorem vxw_and {rest : List Expr} (h : VXT X c M We a x) (h' : VXW X c M We (.BoolOp .And (b :: rest) pos) y) : VXW X c M We (.BoolOp .And (a :: b :: rest) pos) (xAnd x y) := by
  obtain ⟨tt, p, s⟩ := h.ex
  obtain ⟨tt', p', s'⟩ := h'.ex
  refine ⟨_, pw_and p p', fun B σ H ρ Q R po => s B σ H ρ _ R ((Po.bind (r := x ρ) po).imp (fun r _ q => ?_) fun _ _ q => q)⟩
  cases r with
  | ex k ρ1 => exact q
  | v d ρ1 =>
    cases d with
    | bl k =>
      refine ⟨k, rfl, fun H1 R1 => ?_⟩
      cases k with
      | true => exact s' B σ H1 ρ1 Q R1 q
      | false =>
        obtain ⟨b', hb, q⟩ := q
        cases hb
        exact q H1 R1
    | _ => exact q.elim
/-- x is not None .. -/
theorem vxt_cmp {op : CmpOp} {r : R2} {gd' : D → D → O D} (ho : OpR X (compareOp op) r) (hr : RS c r gd') (ha : VX X c M We a x) (hb : VX X c M We b y) (hm : behindInMarks op b = false) : VXT X c M We (.Compare a [op] [b] pos) (xB (x2 gd' x y)) := by
  obtain ⟨ta, p, s⟩ := ha.ex
  obtain ⟨tb, p', s'⟩ := hb.ex
  refine ⟨_, pt_cmpR ho p p' hm, fun B σ H ρ Q R po => s B σ H ρ _ R ((Po.bind (r := x ρ) (Po.bind (r := x2 gd' x y ρ) po)).imp (fun r1 _ q => ?_) fun _ _ q => q)⟩
  cases r1 with
  | ex k ρ1 => exact q
  | v d ρ1 =>
    rintro v H1 ⟨Fs, R1⟩ hi
    refine s' (B.sta H1) σ H1 ρ1 _ ⟨Fs, R1.keepSta⟩ ((Po.bind (r := y ρ1) q).imp (fun r2 _ q => ?_) fun _ _ q H' hf => q H' hf.unSta)
    cases r2 with
    | ex k ρ2 => exact fun H' ⟨F2, R2⟩ => q H' ⟨F2, R2.unSta⟩
    | v d2 ρ2 =>
      rintro v2 H2 ⟨F2, R2⟩ hi2
      have hst : Is c (fun _ => False) H2 v d := hi.stay R2.staAt
      refine hr _ _ v v2 d d2 H2 _ _ hst hi2 ((Po.bind (r := gd' d d2) q).imp (fun d3 _ q v3 H3 hs3 hz => ?_) fun _ _ q => q)
      obtain ⟨_, q⟩ := Po.gd q
      cases d3 with
      | bl k =>
        obtain ⟨b', hb, q⟩ := q
        cases hb
        exact ⟨k, is_bl (hz fun _ => True), q H3 ⟨F2, R2.unSta.same hs3⟩⟩
      | _ => exact q.elim
theorem vxt_isnt (ha : VX X c M We a x) (hb : VX X c M We b y) : VXT X c M We (.Compare a [.IsNot] [b] pos) (xB (x2 (isND true) x y)) := vxt_cmp (op_notN.or op_notBl) rs_isnt ha hb (nomark _)

/-! ### statements -/
theorem vs_exprX (h : VX X c M We e x) (hs : swapsWith e none pos.line X.env = pure false := by rfl) : VSt X c We rs Ml M M (.Expr e pos) (sDropX x) := by
  obtain ⟨te, p, s⟩ := h.ex
  refine ⟨_, ps_expr p hs, fun B σ H ρ D R po => s B σ H ρ _ R ((Po.bind (r := x ρ) po).imp (fun r _ q => ?_) fun _ _ q H' hf => q σ H' hf)⟩
  cases r with
  | ex k ρ1 => exact fun H' R' => q σ H' M R'
  | v d ρ1 => exact fun v H' R' _ => q σ H' R'
theorem vs_setX {n : Str} {pos' : Pos} (i : Nat) (h : VX X c M We e x) (hm : M i = .v 0) (hN : X.N.Nodup) (hi : X.N[i]? = some n := by rfl) (hx : Loc X.env.scope n := by first | exact .inl rfl | exact .inr rfl) (hs : swapsWith e (some (.Name n pos')) pos.line X.env = pure false := by rfl)
    (hf : X.fn n = true ∨ X.env.scope.names.lookup n = some .local := by first | exact .inl rfl | exact .inr rfl) : VSt X c We rs Ml M M (.Assign [.Name n pos'] e pos) (sSetX i x) := by
  obtain ⟨te, p, s⟩ := h.ex
  refine ⟨_, ps_set (i := i) hN hi hx p hs hf, fun B σ H ρ D R po => s B σ H ρ _ R ((Po.bind (r := x ρ) po).imp (fun r _ q => ?_) fun _ _ q H' hf => q σ H' hf)⟩
  cases r with
  | ex k ρ1 => exact fun H' R' => q σ H' M R'
  | v d ρ1 =>
    rintro v H' ⟨Fs, R'⟩ hv
    obtain ⟨hl, q⟩ := Po.gd q
    exact q _ H' (R'.setV hm (by decide) (of_decide_eq_true hl) (hv.up fun _ z => z.elim) (Same.refl H'))
theorem vs_retX (h : VX X c M We e x) : VSt X c We .fz Ml M M' (.Return (some e) pos) (sRetX x) := by
  obtain ⟨te, p, s⟩ := h.ex
  refine ⟨_, ps_ret p, fun B σ H ρ D R po => s B σ H ρ _ R ((Po.bind (r := x ρ) po).imp (fun r _ q => ?_) fun _ _ q H' hf => q σ H' hf)⟩
  cases r with
  | ex k ρ1 => exact fun H' R' => q σ H' M R'
  | v d ρ1 =>
    rintro v H' ⟨Fs, R'⟩ hv
    exact q v H' ⟨M, Fs, σ, [], R', by simp, by simp, rfl, hv.up fun _ z => z.elim⟩
theorem vs_ifX {cnd : Expr} {a b : List Stmt} (hc : VXT X c M We cnd x) (ha : VSs X c We rs Ml M M' a g) (hb : VSs X c We rs Ml M M' b g') : VSt X c We rs Ml M M' (.If cnd a b pos) (sIfX x g g') := by
  obtain ⟨tt, p, s⟩ := hc.ex
  obtain ⟨ta, pa, sa⟩ := ha.ex
  obtain ⟨tb, pb, sb⟩ := hb.ex
  refine ⟨_, ps_if p pa pb, fun B σ H ρ D R po => s B σ H ρ _ R ((Po.bind (r := x ρ) po).imp (fun r _ q => ?_) fun _ _ q H' hf => q σ H' hf)⟩
  cases r with
  | ex k ρ1 => exact fun H' R' => q σ H' M R'
  | v d ρ1 =>
    cases d with
    | bl k =>
      refine ⟨k, rfl, fun H1 R1 => ?_⟩
      cases k with
      | true => exact iteT (sa B σ H1 ρ1 D R1 q)
      | false => exact iteF (sb B σ H1 ρ1 D R1 q)
    | _ => exact q.elim

/-! ### statements whose exception leaves the slots as they were -/
def sK (g : SF) : SF := fun ρ => match g ρ with
  | .exc k => .ok (.ex k ρ)
  | r => r
theorem vs_exprK (h : VE X c M We al e f) (hs : swapsWith e none pos.line X.env = pure false := by rfl) : VSt X c We rs Ml M M (.Expr e pos) (sK (sDrop f)) := by
  obtain ⟨te, p, s⟩ := h.ex
  refine ⟨_, ps_expr p hs, fun B σ H ρ D R po => ?_⟩
  obtain ⟨Fs, R⟩ := R
  refine s _ σ H ρ _ R.slots ?_
  unfold sK sDrop at po
  cases hf : f ρ with
  | bad => rw [hf] at po; exact po.elim
  | exc k =>
    rw [hf] at po
    exact fun H' hs => po σ H' M ⟨Fs, R.same hs⟩
  | ok d =>
    rw [hf] at po
    exact fun v H' hs _ => po σ H' ⟨Fs, R.same hs⟩
theorem vs_raiseK {n m : Str} {C : Addr} {j : Nat} {p p2 p3 : Pos} (z : Cz X c We k) (h : ExK X.K X.mg n C) (hg : Gl X n) (hdb : (n == ("__debug__" : Str)) = false := by decide) :
    VSt X c We rs Ml M M' (.Raise (some (.Call (.Name n p) [.Constant (.str m) j p2] [] p3)) none pos) (sK (sExc (.ref C))) :=
  ⟨_, L2N.ps_raise z.calm z.tk (L2N.pmk_own PySem.F.excBase_ValueError h.q h.g h.kp (raises_own h.b h.t) hg hdb), fun B σ H ρ D R po => po σ H M R⟩
def sIfK (t : TF) (g g' : SF) : SF := fun ρ => match t ρ with
  | .exc k => .ok (.ex k ρ)
  | .bad => .bad
  | .ok b => if b = true then g ρ else g' ρ
theorem vs_ifK {cnd : Expr} {a b : List Stmt} (hc : VT X c M We cnd t) (ha : VSs X c We rs Ml M M' a g) (hb : VSs X c We rs Ml M M' b g') : VSt X c We rs Ml M M' (.If cnd a b pos) (sIfK t g g') := by
  obtain ⟨tt, p, s⟩ := hc.ex
  obtain ⟨ta, pa, sa⟩ := ha.ex
  obtain ⟨tb, pb, sb⟩ := hb.ex
  refine ⟨_, ps_if p pa pb, fun B σ H ρ D R po => ?_⟩
  obtain ⟨Fs, R⟩ := R
  refine s _ σ H ρ _ R.slots ?_
  unfold sIfK at po
  cases ht : t ρ with
  | bad => rw [ht] at po; exact po.elim
  | exc k =>
    rw [ht] at po
    exact fun H' hs => po σ H' M ⟨Fs, R.same hs⟩
  | ok k =>
    rw [ht] at po
    intro H' hs
    cases k with
    | true => exact iteT (sa B σ H' ρ D ⟨Fs, R.same hs⟩ po)
    | false => exact iteF (sb B σ H' ρ D ⟨Fs, R.same hs⟩ po)
theorem vs_retK (h : VO X c M We rs e f) : VSt X c We rs Ml M M' (.Return (some e) pos) (sK (sRet f)) := by
  obtain ⟨te, p, s⟩ := h.ex
  refine ⟨_, ps_ret p, fun B σ H ρ D R po => ?_⟩
  obtain ⟨Fs, R⟩ := R
  refine s _ σ H ρ _ R.slots ?_
  unfold sK sRet at po
  cases hf : f ρ with
  | bad => rw [hf] at po; exact po.elim
  | exc k =>
    rw [hf] at po
    exact fun H' hs => po σ H' M ⟨Fs, R.same hs⟩
  | ok d =>
    rw [hf] at po
    intro v H' F hs hn nd ho
    refine po v H' ⟨M, Fs, σ, F, R.same hs, nd, fun a ha => ⟨R.old a (hn a ha), R.newNot (hn a ha)⟩, ho.mono (fun a x => ?_) fun a o _ e => e⟩
    rcases x.1 with y | y
    · exact ⟨y.2, y.1, x.2⟩
    · exact ⟨R.old a y, R.newNot y, x.2⟩

/-! ### what a slot owns is changed -/
theorem RelF.mut {Fs : Nat → List Addr} {s : Sh} {d : D} (R : RelF c M B Fs H σ ρ) (hm : M i = .o s ∨ M i = .p s) (e : ρ[i]? = some (some d)) : ∃ v W, σ[i]? = some (some v) ∧ Own c W H s v d (Fs i) ∧ (Fs i).Nodup ∧ (∀ a, W a → a ∉ Fs i) ∧ (∀ a ∈ Fs i, ∃ o, H a = some o ∧ ¬ VS.sta o) ∧
    ∀ H' d' F', (∀ a o, a ∉ Fs i → H a = some o → H' a = some o) → (∀ a, H' a = none → H a = none) → F'.Nodup → (∀ a ∈ F', a ∈ Fs i ∨ H a = none) → Own c (fun a => W a ∧ H a ≠ none) H' s v d' F' → Rel c M B H' σ (ρ.set i (some d')) := by
  obtain ⟨v, h1, h2⟩ := R.sl i d e
  have hi : i < ρ.length := (List.getElem?_eq_some_iff.mp e).1
  rcases hm with hm | hm
  · rw [hm] at h2
    refine ⟨v, _, h1, h2, R.nd i, fun a x => x.1 i, R.th i, fun H' d' F' k1 k2 k3 k4 k5 => ⟨fset Fs i F', ?_⟩⟩
    refine R.put k1 k2 k3 k4 k5.there (fun _ _ => rfl) (fun j hj => List.getElem?_set_ne (Ne.symm hj)) (by simp [R.len]) (fun q hq eq => ?_) (fun s hs => R.own i s hs) fun d2 e2 => ?_
    · have := (R.mp q hq).2
      rw [eq, hm] at this; cases this
    · rw [List.getElem?_set_self hi] at e2
      cases e2
      refine ⟨v, h1, ?_⟩
      rw [hm]
      refine Own.mono (fun a x => ⟨fun l z => ?_, x.1.2⟩) (fun _ _ _ e => e) k5
      by_cases hl : l = i
      · rw [hl, fset_self] at z
        rcases k4 a z with y | y
        · exact x.1.1 i y
        · exact x.2 y
      · rw [fset_ne hl] at z; exact x.1.1 l z
  · rw [hm] at h2
    refine ⟨v, _, h1, h2, R.nd i, fun a x => x.elim, R.th i, fun H' d' F' k1 k2 k3 k4 k5 => ⟨fset Fs i F', ?_⟩⟩
    refine R.put k1 k2 k3 k4 k5.there (fun _ _ => rfl) (fun j hj => List.getElem?_set_ne (Ne.symm hj)) (by simp [R.len]) (fun q hq eq => ?_) (fun s hs => R.own i s hs) fun d2 e2 => ?_
    · have := (R.mp q hq).1
      rw [eq] at this; exact this
    · rw [List.getElem?_set_self hi] at e2
      cases e2
      refine ⟨v, h1, ?_⟩
      rw [hm]
      exact Own.mono (fun a x => x.1) (fun _ _ _ e => e) k5
end
end VS
set_option Elab.async false
set_option linter.all false
set_option maxRecDepth 100000
set_option maxHeartbeats 2000000
/-! VQ: lists in what a slot owns; attributes of lands and piles; dicts. -/
namespace VS
open PySem L2

structure VLoc (X : Cx) (c : Ct) (M : Nat → Mo) (We : WX) (i : Nat) (e : Expr) (g : Rho → O (List D)) (p : Rho → List D → Option D) : Prop where
  ex : ∃ te, PE X e te ∧ ∀ (B : Bs) (Fs : Nat → List Addr) (σ : L2.St) (H : Hp) (ρ : Rho) (Q : VK), RelF c M B Fs H σ ρ → Po (g ρ) (fun l => ∀ a xs H0, Same H H0 → H0 a = some (.lst xs) → IsA c (fun _ => False) H0 xs l →
      (∀ H1 xs' l' d', Same H0 H1 → IsA c (fun _ => False) H1 xs' l' → p ρ l' = some d' → Rel c M B (upd H1 a (.lst xs')) σ (ρ.set i (some d'))) → Q (.ref a) H0) (fun k => ∀ H', Same H H' → We k none σ H') → te σ H Q

/-! ### meanings -/
def gVar (i : Nat) : Rho → O (List D) := fun ρ => (eVar i ρ).bind fun d => (lstD d).bind fun l => gd (immA l) (.ok l)
def pVar : Rho → List D → Option D := fun _ l => some (.lst l)
/-- x[e], x a list of lists -/
def gSub (i : Nat) (f : EF) : Rho → O (List D) := fun ρ => (eVar i ρ).bind fun d => (lstD d).bind fun l => (f ρ).bind fun k => match k with
  | .int k => (ofO (atI l k)).bind fun r => (lstD r).bind fun r => gd (immA r) (.ok r)
  | _ => .bad
def pSub (i : Nat) (f : EF) : Rho → List D → Option D := fun ρ r => match eVar i ρ, f ρ with
  | .ok (.lst l), .ok (.int k) => (ixN l.length k).map fun j => .lst (l.set j (.lst r))
  | _, _ => none
def hD : Option Int → D
  | none => .non
  | some i => .int i
def hO : D → Option (Option Int)
  | .non => some none
  | .int i => some (some i)
  | _ => none
def hOs : List D → Option (List (Option Int))
  | [] => some []
  | d :: ds => match hO d, hOs ds with
    | some h, some hs => some (h :: hs)
    | _, _ => none
def rowD (r : List (Option Int)) : D := .lst (r.map hD)
def landO : D → O LandD
  | .land L => .ok L
  | _ => .bad
def gridD (d : D) : O D := (landO d).bind fun L => .ok (.lst (L.g.map rowD))
def rowsD (d : D) : O D := (landO d).bind fun L => .ok (.int L.g.length)
def colsD (d : D) : O D := (landO d).bind fun L => .ok (.int (L.g.headD []).length)
def openD (d : D) : O D := (landO d).bind fun L => .ok (.dct (L.o.map fun p => (p.1, .bl p.2)))
def pileO : D → O (List D)
  | .pile l => .ok l
  | _ => .bad
def rowPD (d : D) : O D := (pileO d).bind fun l => .ok (.lst l)
/-- x.grid[e] -/
def gGrid (i : Nat) (f : EF) : Rho → O (List D) := fun ρ => (eVar i ρ).bind fun d => (landO d).bind fun L => (f ρ).bind fun k => match k with
  | .int k => (ofO (atI L.g k)).bind fun r => .ok (r.map hD)
  | _ => .bad
def pGrid (i : Nat) (f : EF) : Rho → List D → Option D := fun ρ r => match eVar i ρ, f ρ with
  | .ok (.land L), .ok (.int k) => match ixN L.g.length k, hOs r with
    | some j, some r' => if r'.length = (L.g.getD j []).length then some (.land ⟨L.g.set j r', L.o⟩) else none
    | _, _ => none
  | _, _ => none
def gRow (i : Nat) : Rho → O (List D) := fun ρ => (eVar i ρ).bind fun d => (pileO d).bind fun l => gd (immA l) (.ok l)
def pRow : Rho → List D → Option D := fun _ l => some (.pile l)
/-- loc[e] = value -/
def sStore (i : Nat) (g : Rho → O (List D)) (p : Rho → List D → Option D) (fe fv : EF) : SF := fun ρ => (fv ρ).bind fun d => gd d.imm ((g ρ).bind fun l => (fe ρ).bind fun k => match k with
  | .int k => (ofO (ixN l.length k)).bind fun j => (ofO (p ρ (l.set j d))).bind fun d' => .ok (.nx (ρ.set i (some d')))
  | _ => .bad)
def sAppL (i : Nat) (g : Rho → O (List D)) (p : Rho → List D → Option D) (fv : EF) : SF := fun ρ => (g ρ).bind fun l => (fv ρ).bind fun d => gd (d.imm && decide (l.length < 100000)) ((ofO (p ρ (l ++ [d]))).bind fun d' => .ok (.nx (ρ.set i (some d'))))
def xPop (i : Nat) (g : Rho → O (List D)) (p : Rho → List D → Option D) : XF := fun ρ => (g ρ).bind fun l => (ofO l[l.length - 1]?).bind fun d => (ofO (p ρ l.dropLast)).bind fun d' => .ok (.v d (ρ.set i (some d')))
def sClearL (i : Nat) (g : Rho → O (List D)) (p : Rho → List D → Option D) : SF := fun ρ => (g ρ).bind fun _ => (ofO (p ρ [])).bind fun d' => .ok (.nx (ρ.set i (some d')))

structure LandK (K : PySem.W.Frag) (C : Addr) : Prop where
  cl : Cls K C
  nG : NoAttr K C "grid"
  nR : NoAttr K C "rows"
  nC : NoAttr K C "columns"
  nO : NoAttr K C "open_at"
structure PileK (K : PySem.W.Frag) (C : Addr) : Prop where
  cl : Cls K C
  nW : NoAttr K C "row"

section
variable {c : Ct} {M M' M1 Ml : Nat → Mo} {B : Bs} {H H' : Hp} {σ : L2.St} {ρ : Rho} {X : Cx} {We : WX} {k k' al al' i j : Nat} {rs : Sh} {st : Stmt} {sts : List Stmt} {e a b value : Expr} {f fa fb fe fv : EF} {pos pos' apos cpos : Pos} {W W' : Addr → Prop}
  {g : Rho → O (List D)} {p : Rho → List D → Option D}
theorem IsA.stay {vs : List V} {ds : List D} (h : IsA c (fun _ => False) H vs ds) (k : ∀ a o, VS.sta o → H a = some o → H' a = some o) : IsA c W H' vs ds := h.mono (fun _ z => z.elim) fun a o z e => k a o (z.elim (fun y => y.elim) fun y => y) e
theorem IsA.immA {vs : List V} {ds : List D} (h : IsA c W H vs ds) (e : VS.immA ds = true) : IsA c W' H vs ds := IsA.imm (fun _ _ _ z => z) h e
theorem upd_sta {a : Addr} {xs xs' : List V} (h : H a = some (.lst xs)) : ∀ b o, VS.sta o → H b = some o → upd H a (.lst xs') b = some o := fun b o hs e => by
  rw [upd_ne (fun z => by rw [z, h] at e; cases e; exact hs)]
  exact e
/-! ### places -/
theorem vl_var {n : Str} (i : Nat) (hm : M i = .o (.l .fz) ∨ M i = .p (.l .fz)) (hN : X.N[i]? = some n := by rfl) (hv : Vis X.env.scope n := by first | exact Or.inl rfl | exact Or.inr (Or.inl rfl) | exact Or.inr (Or.inr rfl)) (hd : (n == ("__debug__" : Str)) = false := by decide)
    (hcd : (n == ("__classdict__" : Str)) = false := by decide) : VLoc X c M We i (.Name n pos) (gVar i) pVar := by
  refine ⟨_, pv i hN hv hd hcd, fun B Fs σ H ρ Q R po => ?_⟩
  obtain ⟨ds, er, po⟩ := po_lst (i := i) (ρ := ρ) (f := fun l => gd (VS.immA l) (.ok l)) po
  obtain ⟨hi, po⟩ := Po.gd po
  obtain ⟨v, Wm, e1, ho, nd, hW, hth, put⟩ := R.mut hm er
  obtain ⟨q, xs, ds', Gs, rfl, ed, hq, h3, eF⟩ := ho
  cases ed
  obtain ⟨h4, h5⟩ := h3.ofFz
  rw [h5] at eF
  refine ⟨_, e1, po q xs H (Same.refl H) hq (h4.immA hi) fun H1 xs' l' d' hs hi' ed => ?_⟩
  cases ed
  have hq1 := hs _ _ hq
  refine put _ _ [q] (fun b o hb eb => ?_) (fun b eb => ?_) (by simp) (fun b hb => .inl (by rw [eF]; exact hb)) ⟨q, xs', l', ?_⟩
  · rw [upd_ne (fun z => hb (by rw [eF, z]; simp))]; exact hs b o eb
  · by_cases h : b = q
    · rw [h, upd_same] at eb; cases eb
    · rw [upd_ne h] at eb; exact hs.free eb
  · obtain ⟨Gs', g1, g2⟩ := (hi'.stay (W := fun a => Wm a ∧ H a ≠ none) (upd_sta (xs' := xs') hq1)).toP3
    exact ⟨Gs', rfl, rfl, upd_same, g1, by rw [g2]⟩
theorem P3.atI {P : V → D → List Addr → Prop} {vs : List V} {ds : List D} {Fs : List (List Addr)} {k : Int} {d : D} (h : P3 P vs ds Fs) (e : atI ds k = some d) : ∃ j v F, ixN ds.length k = some j ∧ ixN vs.length k = some j ∧ vs[j]? = some v ∧ ds[j]? = some d ∧ Fs[j]? = some F ∧ P v d F := by
  unfold L2.atI at e
  cases hj : ixN ds.length k with
  | none => rw [hj] at e; cases e
  | some j =>
    rw [hj] at e
    have e : ds[j]? = some d := e
    have hlen := h.length.1
    have hv : j < vs.length := by rw [hlen]; exact (List.getElem?_eq_some_iff.mp e).1
    obtain ⟨d', F, q1, q2, q3⟩ := h.get (List.getElem?_eq_getElem hv)
    rw [e] at q1
    cases q1
    exact ⟨j, _, F, rfl, by rw [hlen]; exact hj, List.getElem?_eq_getElem hv, e, q2, q3⟩
theorem nodup_at : ∀ {Gs : List (List Addr)} {j : Nat} {G : List Addr}, Gs.flatten.Nodup → Gs[j]? = some G → ∀ j' G' a, Gs[j']? = some G' → a ∈ G → a ∈ G' → j = j'
  | [], j, G, _, e, _, _, _, _, _, _ => by simp at e
  | G0 :: Gs, j, G, nd, e, j', G', a, e', ha, hb => by
    rw [List.flatten_cons] at nd
    obtain ⟨n1, n2, n3⟩ := List.nodup_append.mp nd
    cases j with
    | zero =>
      cases j' with
      | zero => rfl
      | succ j' =>
        simp at e; subst e
        exact absurd rfl (n3 a ha a (mem_flat (List.mem_of_getElem? (by simpa using e')) hb))
    | succ j =>
      cases j' with
      | zero =>
        simp at e'; subst e'
        exact absurd rfl (n3 a hb a (mem_flat (List.mem_of_getElem? (by simpa using e)) ha))
      | succ j' =>
        have := nodup_at (j := j) n2 (by simpa using e) j' G' a (by simpa using e') ha hb
        omega
/-- one item of a list of owned things is another, in place -/
theorem P3.step {P P' : V → D → List Addr → Prop} : ∀ {vs ds Fs} {j : Nat} {d' : D} {v : V} {F : List Addr}, P3 P vs ds Fs → vs[j]? = some v → Fs[j]? = some F → P' v d' F → (∀ j' v d F, j' ≠ j → vs[j']? = some v → Fs[j']? = some F → P v d F → P' v d F) → P3 P' vs (ds.set j d') Fs
  | _, _, _, j, _, _, _, .nil, e, _, _, _ => by simp at e
  | _, _, _, 0, d', v, F, .cons h t, e, eF, hp, f => by
    simp at e eF; subst e eF
    refine .cons hp ?_
    have : ∀ {vs : List V} {ds : List D} {Fs : List (List Addr)} (b : Nat), P3 P vs ds Fs → (∀ (j' : Nat) (v : V) (d : D) (F : List Addr), vs[j']? = some v → Fs[j']? = some F → P v d F → P' v d F) → P3 P' vs ds Fs := by
      intro vs ds Fs b h
      induction h with
      | nil => intro _; exact .nil
      | cons h t ih => intro f; exact .cons (f 0 _ _ _ rfl rfl h) (ih fun j' v d F e1 e2 => f (j' + 1) v d F (by simpa using e1) (by simpa using e2))
    exact this 0 t fun j' v d F e1 e2 => f (j' + 1) v d F (by omega) (by simpa using e1) (by simpa using e2)
  | _, _, _, j + 1, d', v, F, .cons h t, e, eF, hp, f => by
    refine .cons (f 0 _ _ _ (by omega) rfl rfl h) (t.step (by simpa using e) (by simpa using eF) hp fun j' v d F hj e1 e2 => f (j' + 1) v d F (by omega) (by simpa using e1) (by simpa using e2))
theorem vl_sub {n : Str} (i : Nat) (hm : M i = .o (.l (.l .fz)) ∨ M i = .p (.l (.l .fz))) (hb : VE X c M We al' b fb) (hN : X.N[i]? = some n := by rfl) (hv : Vis X.env.scope n := by first | exact Or.inl rfl | exact Or.inr (Or.inl rfl) | exact Or.inr (Or.inr rfl))
    (hd : (n == ("__debug__" : Str)) = false := by decide) (hcd : (n == ("__classdict__" : Str)) = false := by decide) (hs : PlainIx b := by exact fun _ _ => rfl) : VLoc X c M We i (.Subscript (.Name n pos) b pos') (gSub i fb) (pSub i fb) := by
  obtain ⟨tb, pb, sb⟩ := hb.ex
  refine ⟨_, pe_ix ix_list (pv i hN hv hd hcd) pb hs, fun B Fs σ H ρ Q R po => ?_⟩
  obtain ⟨ds, er, po⟩ := po_lst (i := i) (ρ := ρ) (f := fun l => (fb ρ).bind fun k => match k with
    | .int k => (ofO (atI l k)).bind fun r => (lstD r).bind fun r => gd (VS.immA r) (.ok r)
    | _ => .bad) po
  obtain ⟨v, Wm, e1, ho, nd, hW, hth, put⟩ := R.mut hm er
  obtain ⟨q, xs, ds', Gs, rfl, ed, hq, h3, eF⟩ := ho
  cases ed
  refine ⟨_, e1, sb _ σ H ρ _ R.slots ((Po.bind po).imp (fun kd ek po v2 H2 hs2 hi2 => ?_) fun _ _ q => q)⟩
  cases kd with
  | int kk =>
    obtain ⟨r, hr, po⟩ := Po.ofO (Po.bind (r := ofO (atI ds kk)) po)
    rw [is_int hi2]
    cases r with
    | lst r =>
      obtain ⟨hir, po⟩ := Po.gd po
      obtain ⟨j, vj, F, j1, j2, j3, j4, j5, a, ys, es, Gs', rfl, ed, ha, h5, eF5⟩ := h3.atI hr
      cases ed
      obtain ⟨h6, h7⟩ := h5.ofFz
      rw [h7] at eF5
      refine ⟨q, xs, kk, .ref a, rfl, rfl, .inl (.inl (hs2 _ _ hq)), by unfold L2.atI; rw [j2]; exact j3, po a ys H2 hs2 (hs2 _ _ ha) ((h6.same hs2).immA hir) fun H1 xs' l' d' hs3 hi' ed => ?_⟩
      unfold pSub at ed
      rw [show eVar i ρ = .ok (.lst ds) by unfold eVar; rw [er], ek] at ed
      simp only [j1, Option.map_some, Option.some.injEq] at ed
      subst ed
      have hs4 := hs2.trans hs3
      have ha1 := hs4 _ _ ha
      have aF : a ∈ Fs i := by rw [eF]; exact List.mem_cons_of_mem _ (mem_flat (List.mem_of_getElem? j5) (by rw [eF5]; simp))
      have aq : a ≠ q := by
        rw [eF] at nd
        exact fun z => (List.nodup_cons.mp nd).1 (by rw [← z]; exact mem_flat (List.mem_of_getElem? j5) (by rw [eF5]; simp))
      refine put _ _ (Fs i) (fun b' o hb' eb => ?_) (fun b' eb => ?_) nd (fun b' hb' => .inl hb') ⟨q, xs, ds.set j (.lst l'), Gs, rfl, rfl, by rw [upd_ne (Ne.symm aq)]; exact hs4 _ _ hq, ?_, eF⟩
      · rw [upd_ne (fun z => hb' (by rw [z]; exact aF))]; exact hs4 b' o eb
      · by_cases h : b' = a
        · rw [h, upd_same] at eb; cases eb
        · rw [upd_ne h] at eb; exact hs4.free eb
      · have nd2 : Gs.flatten.Nodup := by rw [eF] at nd; exact (List.nodup_cons.mp nd).2
        refine h3.step j3 j5 ?_ fun j' v d G hj' e1' e2' ho => ?_
        · obtain ⟨Gs2, g1, g2⟩ := (hi'.stay (W := fun a => Wm a ∧ H a ≠ none) (upd_sta (xs' := xs') ha1)).toP3
          exact ⟨a, xs', l', Gs2, rfl, rfl, upd_same, g1, by rw [g2]; exact eF5⟩
        · refine ho.track.mono (fun a x => x) fun b' o x eb => ?_
          rw [upd_ne (fun z => ?_)]
          · exact hs4 _ _ eb
          · rw [z] at x eb
            rcases x with x | x | x
            · exact hW a x.1 aF
            · exact hj' (nodup_at nd2 j5 j' G a e2' (by rw [eF5]; simp) x).symm
            · rw [ha] at eb; cases eb; exact x
    | _ => exact po.elim
  | _ => exact po.elim

/-! ### stores -/
theorem Po.exc_l {α : Type} {r : O α} {P : α → Prop} {Fs : Nat → List Addr} (R : RelF c M B Fs H σ ρ) (h : Po r P (fun k => ∀ σ H, FrB B H → We k none σ H)) : Po r P (fun k => ∀ H', Same H H' → We k none σ H') := Po.exc_up R h
theorem vs_store {o : Expr} (hl : VLoc X c M We i o g p) (hi : VE X c M We al e fe) (hv : VE X c M We al' value fv) (hs : swapsWithSole [.Subscript o e pos'] value pos.line X.env = pure false := by rfl) (hw : swappedStores [.Subscript o e pos'] value X.env = pure none := by rfl)
    (h1 : (assignEach [.Subscript o e pos'] X.env).map (·.2) = [assign (.Subscript o e pos') X.env] := by rfl) (ha : ∀ v, assign (.Subscript o e pos') X.env v = (do
      let ov ← holding [v] (eval o X.env)
      let iv ← holding [v, ov] (eval e X.env)
      standAt pos'
      holding [v, ov, iv] (setItem ov iv v)
      release [v, ov, iv] []) := by intro _; rfl) : VSt X c We rs Ml M M (.Assign [.Subscript o e pos'] value pos) (sStore i g p fe fv) := by
  obtain ⟨tl, pl, sl⟩ := hl.ex
  obtain ⟨ti, pi, si⟩ := hi.ex
  obtain ⟨tv, pv', sv⟩ := hv.ex
  refine ⟨_, ps_asg pv' (pg_sub pl pi set_list ha) hs hw h1, fun B σ H ρ D R po => ?_⟩
  obtain ⟨Fs, R⟩ := R
  refine sv _ σ H ρ _ R.slots ((Po.exc_up R (Po.bind po)).imp (fun d _ q v H1 hs1 hiv => ?_) fun _ _ q => q)
  obtain ⟨hd, q⟩ := Po.gd q
  have R1 := R.same hs1
  refine sl B Fs σ H1 ρ _ R1 ((Po.exc_up R1 (Po.bind q)).imp (fun l _ q a xs H2 hs2 ea hxs upd' => ?_) fun _ _ q => q)
  have R2 := R1.same hs2
  refine si _ σ H2 ρ _ R2.slots ((Po.exc_up R2 (Po.bind q)).imp (fun kd _ q v3 H3 hs3 hi3 => ?_) fun _ _ q => q)
  cases kd with
  | int kk =>
    obtain ⟨j, hj, q⟩ := Po.ofO (Po.bind (r := ofO (ixN l.length kk)) q)
    obtain ⟨d', hp, q⟩ := Po.ofO (Po.bind (r := ofO (p ρ (l.set j d))) q)
    refine ⟨a, xs, kk, j, rfl, is_int hi3, hs3 _ _ ea, by rw [hxs.length]; exact hj, ?_⟩
    exact q σ _ (upd' H3 (xs.set j v) (l.set j d) d' hs3 ((hxs.same hs3).set (Is.imm (fun _ _ _ z => z) (hiv.same (hs2.trans hs3)) hd) j) hp)
  | _ => exact q.elim
theorem vs_appL {o : Expr} (hl : VLoc X c M We i o g p) (hv : VE X c M We al e fv) (hbase : attributeBase o "append" X.env (eval o X.env) = eval o X.env := by rfl)
    (hfew : ((backTo cpos (starEach (e :: []) X.env)).all (fun x => !x.1) && (backToKw cpos (keywordEach [] X.env)).all (fun x => x.1.isSome) && decide ((e :: []).length + ([] : List Keyword).length + (if ([] : List Keyword).isEmpty then 0 else 1) < 30)) = true := by rfl)
    (hline : (apos.endLine == cpos.line) = true := by rfl) (he : starEach (e :: []) X.env = (false, eval e X.env) :: starEach [] X.env := by rfl) (hpl : (backTo cpos (starEach [] X.env)).any (·.1) = false := by rfl)
    (hs : swapsWith (.Call (.Attribute o "append" apos) [e] [] cpos) none pos.line X.env = pure false := by rfl) :
    VSt X c We rs Ml M M (.Expr (.Call (.Attribute o "append" apos) [e] [] cpos) pos) (sAppL i g p fv) := by
  obtain ⟨tl, pl, sl⟩ := hl.ex
  obtain ⟨tv, pv', sv⟩ := hv.ex
  refine ⟨_, ps_expr (pe_bm PySem.F.plainAttrs_list PySem.F.slot_list_append PySem.F.type_list_append mt_append pl (pa_cons pv' pa_nil he) hbase hfew hline he hpl) hs, fun B σ H ρ D R po => ?_⟩
  obtain ⟨Fs, R⟩ := R
  refine sl B Fs σ H ρ _ R ((Po.exc_up R (Po.bind po)).imp (fun l _ q a xs H1 hs1 ea hxs upd' => ?_) fun _ _ q => q)
  have R1 := R.same hs1
  refine ⟨.inl ⟨rfl, xs, .of ea⟩, sv _ σ H1 ρ _ R1.slots ((Po.exc_up R1 (Po.bind q)).imp (fun d _ q v H2 hs2 hiv => ?_) fun _ _ q => q)⟩
  obtain ⟨hd, q⟩ := Po.gd q
  rw [Bool.and_eq_true, decide_eq_true_eq] at hd
  obtain ⟨d', hp, q⟩ := Po.ofO (Po.bind (r := ofO (p ρ (l ++ [d]))) q)
  exact ⟨a, xs, v, rfl, rfl, hs2 _ _ ea, Nat.lt_of_lt_of_le (by rw [hxs.length]; exact hd.2) (by decide : 100000 ≤ sizeLine), q σ _ (upd' H2 (xs ++ [v]) (l ++ [d]) d' hs2 ((hxs.same hs2).append (.cons (Is.imm (fun _ _ _ z => z) hiv hd.1) .nil)) hp)⟩
theorem IsA.dropLast {vs : List V} {ds : List D} (h : IsA c W H vs ds) : IsA c W H vs.dropLast ds.dropLast := by
  rw [List.dropLast_eq_take, List.dropLast_eq_take, h.length]
  exact h.take _
theorem vx_pop {o : Expr} (hl : VLoc X c M We i o g p) (hbase : attributeBase o "pop" X.env (eval o X.env) = eval o X.env := by rfl) (hline : (apos.endLine == cpos.line) = true := by rfl) : VX X c M We (.Call (.Attribute o "pop" apos) [] [] cpos) (xPop i g p) := by
  obtain ⟨tl, pl, sl⟩ := hl.ex
  refine ⟨_, pe_bm0 PySem.F.plainAttrs_list PySem.F.slot_list_pop PySem.F.type_list_pop mt_pop pl hbase hline, fun B σ H ρ Q R po => ?_⟩
  obtain ⟨Fs, R⟩ := R
  refine sl B Fs σ H ρ _ R ((Po.exc_x R (Po.bind po)).imp (fun l _ q a xs H1 hs1 ea hxs upd' => ?_) fun _ _ q => q)
  obtain ⟨d, hd, q⟩ := Po.ofO (Po.bind (r := ofO l[l.length - 1]?) q)
  obtain ⟨d', hp, q⟩ := Po.ofO (Po.bind (r := ofO (p ρ l.dropLast)) q)
  obtain ⟨v, ev, hv⟩ := hxs.getD hd
  have hst : Is c (fun _ => False) (upd H1 a (.lst xs.dropLast)) v d := hv.stay (upd_sta (xs' := xs.dropLast) ea)
  exact ⟨.inl ⟨rfl, xs, .of ea⟩, a, xs, v, rfl, rfl, ea, by rw [hxs.length]; exact ev, q v _ (upd' H1 xs.dropLast l.dropLast d' (Same.refl H1) hxs.dropLast hp) hst⟩
theorem vs_clearL {o : Expr} (hl : VLoc X c M We i o g p) (hbase : attributeBase o "clear" X.env (eval o X.env) = eval o X.env := by rfl) (hline : (apos.endLine == cpos.line) = true := by rfl)
    (hs : swapsWith (.Call (.Attribute o "clear" apos) [] [] cpos) none pos.line X.env = pure false := by rfl) :
    VSt X c We rs Ml M M (.Expr (.Call (.Attribute o "clear" apos) [] [] cpos) pos) (sClearL i g p) := by
  obtain ⟨tl, pl, sl⟩ := hl.ex
  refine ⟨_, ps_expr (pe_bm0 PySem.F.plainAttrs_list PySem.F.slot_list_clear PySem.F.type_list_clear mt_clear pl hbase hline) hs, fun B σ H ρ D R po => ?_⟩
  obtain ⟨Fs, R⟩ := R
  refine sl B Fs σ H ρ _ R ((Po.exc_up R (Po.bind po)).imp (fun l _ q a xs H1 hs1 ea hxs upd' => ?_) fun _ _ q => q)
  obtain ⟨d', hp, q⟩ := Po.ofO (Po.bind (r := ofO (p ρ [])) q)
  exact ⟨.inl ⟨rfl, xs, .of ea⟩, a, xs, rfl, rfl, ea, q σ _ (upd' H1 [] [] d' (Same.refl H1) .nil hp)⟩
/-- x.append(e), e changes another slot -/
def sAppX (i : Nat) (x : XF) : SF := sX x fun d ρ => (eVar i ρ).bind fun y => (lstD y).bind fun l => gd (VS.immA l && decide (l.length < 100000)) (.ok (.nx (ρ.set i (some (.lst (l ++ [d]))))))
theorem vs_appX {n : Str} {x : XF} {p2 : Pos} (i : Nat) (h : VX X c M We e x) (hm : M i = .o (.l .fz) ∨ M i = .p (.l .fz)) (hN : X.N[i]? = some n := by rfl) (hv : Vis X.env.scope n := by first | exact Or.inl rfl | exact Or.inr (Or.inl rfl) | exact Or.inr (Or.inr rfl)) (hd : (n == ("__debug__" : Str)) = false := by decide)
    (hcd : (n == ("__classdict__" : Str)) = false := by decide) (hbase : attributeBase (.Name n p2) "append" X.env (eval (.Name n p2) X.env) = eval (.Name n p2) X.env := by rfl)
    (hfew : ((backTo cpos (starEach (e :: []) X.env)).all (fun x => !x.1) && (backToKw cpos (keywordEach [] X.env)).all (fun x => x.1.isSome) && decide ((e :: []).length + ([] : List Keyword).length + (if ([] : List Keyword).isEmpty then 0 else 1) < 30)) = true := by rfl)
    (hline : (apos.endLine == cpos.line) = true := by rfl) (he : starEach (e :: []) X.env = (false, eval e X.env) :: starEach [] X.env := by rfl) (hpl : (backTo cpos (starEach [] X.env)).any (·.1) = false := by rfl)
    (hs : swapsWith (.Call (.Attribute (.Name n p2) "append" apos) [e] [] cpos) none pos.line X.env = pure false := by rfl) :
    VSt X c We rs Ml M M (.Expr (.Call (.Attribute (.Name n p2) "append" apos) [e] [] cpos) pos) (fun ρ => (gVar i ρ).bind fun _ => sAppX i x ρ) := by
  obtain ⟨tx, px, sx⟩ := h.ex
  refine ⟨_, ps_expr (pe_bm PySem.F.plainAttrs_list PySem.F.slot_list_append PySem.F.type_list_append mt_append (pv i hN hv hd hcd) (pa_cons px pa_nil he) hbase hfew hline he hpl) hs, fun B σ H ρ D R po => ?_⟩
  obtain ⟨Fs, R⟩ := R
  have po := Po.bind po
  obtain ⟨ds, er, po⟩ := po_lst (i := i) (ρ := ρ) (f := fun l => gd (VS.immA l) (.ok l)) po
  obtain ⟨hi, po⟩ := Po.gd po
  obtain ⟨v, Wm, e1, ho, nd, hW, hth, put⟩ := R.mut hm er
  obtain ⟨q, xs, ds', Gs, rfl, ed, hq, h3, eF⟩ := ho
  refine ⟨_, e1, .inl ⟨rfl, xs, .of hq⟩, sx B σ H ρ _ ⟨Fs, R⟩ ((Po.bind (r := x ρ) po).imp (fun r _ q2 => ?_) fun _ _ q2 H' hf => q2 σ H' hf)⟩
  cases r with
  | ex k ρ1 => exact fun H' R' => q2 σ H' M R'
  | v d ρ1 =>
    rintro v2 H2 ⟨F2, R2⟩ hi2
    obtain ⟨ds2, er2, q2⟩ := po_lst (i := i) (ρ := ρ1) (f := fun l => gd (VS.immA l && decide (l.length < 100000)) (.ok (Out.nx (ρ1.set i (some (.lst (l ++ [d]))))))) q2
    obtain ⟨hd2, q2⟩ := Po.gd q2
    rw [Bool.and_eq_true, decide_eq_true_eq] at hd2
    obtain ⟨v3, Wm2, e2, ho2, nd2, hW2, hth2, put2⟩ := R2.mut hm er2
    obtain ⟨q', xs2, ds3, Gs2, rfl, ed2, hq2, h32, eF2⟩ := ho2
    cases ed2
    rw [e1] at e2
    cases e2
    obtain ⟨h4, h5⟩ := h32.ofFz
    rw [h5] at eF2
    refine ⟨q, xs2, v2, rfl, rfl, hq2, Nat.lt_of_lt_of_le (by rw [h4.length]; exact hd2.2) (by decide : 100000 ≤ sizeLine), q2 σ _ (put2 _ _ [q] (fun b o hb eb => ?_) (fun b eb => ?_) (by simp) (fun b hb => .inl (by rw [eF2]; exact hb)) ⟨q, xs2 ++ [v2], ds2 ++ [d], ?_⟩)⟩
    · rw [upd_ne (fun z => hb (by rw [eF2, z]; simp))]; exact eb
    · by_cases h : b = q
      · rw [h, upd_same] at eb; cases eb
      · rw [upd_ne h] at eb; exact eb
    · have hall : IsA c (fun _ => False) H2 (xs2 ++ [v2]) (ds2 ++ [d]) := (h4.immA hd2.1).append (.cons hi2 .nil)
      obtain ⟨Gs', g1, g2⟩ := (hall.stay (W := fun a => Wm2 a ∧ H2 a ≠ none) (upd_sta (xs' := xs2 ++ [v2]) hq2)).toP3
      exact ⟨Gs', rfl, rfl, upd_same, g1, by rw [g2]⟩

/-! ### attributes -/
theorem po_fn {α : Type} {f : D → O α} {d : O D} {P : α → Prop} {E : Value → Prop} (h : Po (d.bind f) P E) : Po d (fun d => Po (f d) P E) E := Po.bind h
theorem is_land {v : V} {L : LandD} (h : Is c W H v (.land L)) : ∃ a F, v = .ref a ∧ LandAt c H a L F ∧ ∀ x ∈ F, W x := by
  cases h with
  | land h1 h2 => exact ⟨_, _, rfl, h1, h2⟩
theorem is_h (h : Option Int) : Is c W H (hV h) (hD h) := by
  cases h with
  | none => exact .non
  | some i => exact .int i
theorem isA_h : ∀ r : List (Option Int), IsA c W H (rowV r) (r.map hD)
  | [] => .nil
  | h :: r => .cons (is_h h) (isA_h r)
theorem isA_grid {rs : List Addr} {gg : List (List (Option Int))} (h : Paired (fun r row => H r = some (.lst (rowV row))) rs gg) : (∀ x ∈ rs, W x) → IsA c W H (rs.map V.ref) (gg.map rowD) := by
  induction h with
  | nil => exact fun _ => .nil
  | cons p t ih => exact fun hw => .cons (.lst (hw _ (by simp)) (.inl p) (isA_h _)) (ih fun x hx => hw x (by simp [hx]))
theorem ve_land {n : Str} {r : D → O D} (lk : Cls X.K c.CL) (hn : NoAttr X.K c.CL n) (h : VE X c M We al e f) (hb : attributeBase e n X.env (eval e X.env) = eval e X.env)
    (hr : ∀ (W : Addr → Prop) H v d (P : D → Prop) (E : Value → Prop), Is c W H v d → Po (r d) P E → ∃ a dx fs u d', v = .ref a ∧ H a = some (.ins c.CL dx fs) ∧ fs.lookup n = some u ∧ Is c W H u d' ∧ P d') : VE X c M We al (.Attribute e n pos) (e1 r f) := by
  obtain ⟨te, p, s⟩ := h.ex
  refine ⟨_, pe_fld p hb, fun w σ H ρ Q sl po => s w σ H ρ _ sl ((Po.bind po).imp (fun d _ q v H1 hs hi => ?_) fun _ _ q => q)⟩
  obtain ⟨a, dx, fs, u, d', rfl, e1, e2, e3, e4⟩ := hr _ _ _ _ _ _ hi q
  exact ⟨a, c.CL, dx, fs, u, rfl, e1, lk, hn, e2, e4 u H1 hs e3⟩
theorem po_land {α : Type} {d : D} {f : LandD → O α} {P : α → Prop} {E : Value → Prop} (h : Po ((landO d).bind f) P E) : ∃ L, d = .land L ∧ Po (f L) P E := by
  cases d with
  | land L => exact ⟨L, rfl, h⟩
  | _ => exact h.elim
theorem po_pile {α : Type} {d : D} {f : List D → O α} {P : α → Prop} {E : Value → Prop} (h : Po ((pileO d).bind f) P E) : ∃ l, d = .pile l ∧ Po (f l) P E := by
  cases d with
  | pile l => exact ⟨l, rfl, h⟩
  | _ => exact h.elim
theorem ve_grid (lk : LandK X.K c.CL) (h : VE X c M We al e f) (hb : attributeBase e "grid" X.env (eval e X.env) = eval e X.env := by rfl) : VE X c M We al (.Attribute e "grid" pos) (e1 gridD f) := by
  refine ve_land lk.cl lk.nG h hb fun W H v d P E hi po => ?_
  obtain ⟨L, rfl, po⟩ := po_land po
  obtain ⟨a, F, rfl, ⟨dx, g, od, rs, h1, h2, h3, h4, rfl⟩, hw⟩ := is_land hi
  exact ⟨a, dx, _, _, _, rfl, h1, rfl, .lst (hw g (by simp)) (.inl h2) (isA_grid h4 fun x hx => hw x (by simp [hx])), po⟩
theorem ve_rows (lk : LandK X.K c.CL) (h : VE X c M We al e f) (hb : attributeBase e "rows" X.env (eval e X.env) = eval e X.env := by rfl) : VE X c M We al (.Attribute e "rows" pos) (e1 rowsD f) := by
  refine ve_land lk.cl lk.nR h hb fun W H v d P E hi po => ?_
  obtain ⟨L, rfl, po⟩ := po_land po
  obtain ⟨a, F, rfl, ⟨dx, g, od, rs, h1, h2, h3, h4, rfl⟩, hw⟩ := is_land hi
  exact ⟨a, dx, _, _, _, rfl, h1, rfl, .int _, po⟩
theorem ve_cols (lk : LandK X.K c.CL) (h : VE X c M We al e f) (hb : attributeBase e "columns" X.env (eval e X.env) = eval e X.env := by rfl) : VE X c M We al (.Attribute e "columns" pos) (e1 colsD f) := by
  refine ve_land lk.cl lk.nC h hb fun W H v d P E hi po => ?_
  obtain ⟨L, rfl, po⟩ := po_land po
  obtain ⟨a, F, rfl, ⟨dx, g, od, rs, h1, h2, h3, h4, rfl⟩, hw⟩ := is_land hi
  exact ⟨a, dx, _, _, _, rfl, h1, rfl, .int _, po⟩
theorem isA_bl : ∀ o : List (List Key × Bool), IsA c W H (o.map fun p => V.bl p.2) (o.map fun p => D.bl p.2)
  | [] => .nil
  | _ :: o => .cons (.bl _) (isA_bl o)
theorem map_pair {α β γ : Type} (f : β → γ) (l : List (α × β)) : l.map (fun p => (p.1, f p.2)) = (l.map (·.1)).zip (l.map fun p => f p.2) := by
  induction l with
  | nil => rfl
  | cons p l ih => simp only [List.map_cons, List.zip_cons_cons, ih]
theorem ve_open (lk : LandK X.K c.CL) (h : VE X c M We al e f) (hb : attributeBase e "open_at" X.env (eval e X.env) = eval e X.env := by rfl) : VE X c M We al (.Attribute e "open_at" pos) (e1 openD f) := by
  refine ve_land lk.cl lk.nO h hb fun W H v d P E hi po => ?_
  obtain ⟨L, rfl, po⟩ := po_land po
  obtain ⟨a, F, rfl, ⟨dx, g, od, rs, h1, h2, h3, h4, rfl⟩, hw⟩ := is_land hi
  refine ⟨a, dx, _, _, .dct (L.o.map fun (p : List Key × Bool) => (p.1, D.bl p.2)), rfl, h1, rfl, ?_, po⟩
  rw [map_pair D.bl L.o]
  exact .dct (hw od (by simp)) (by rw [h3, map_pair V.bl L.o]) (by simp) (isA_bl L.o)
theorem ve_row (pk : PileK X.K c.CP) (h : VE X c M We al e f) (hb : attributeBase e "row" X.env (eval e X.env) = eval e X.env := by rfl) : VE X c M We al (.Attribute e "row" pos) (e1 rowPD f) := by
  obtain ⟨te, p, s⟩ := h.ex
  refine ⟨_, pe_fld p hb, fun w σ H ρ Q sl po => s w σ H ρ _ sl ((Po.bind po).imp (fun d _ q v H1 hs hi => ?_) fun _ _ q => q)⟩
  obtain ⟨l, rfl, po⟩ := po_pile q
  cases hi with
  | pile h1 h2 h3 h4 h5 => exact ⟨_, c.CP, _, _, _, rfl, h3, pk.cl, pk.nW, rfl, po _ H1 hs (.lst h2 (.inl h4) h5)⟩
end
end VS
set_option Elab.async false
set_option linter.all false
set_option maxRecDepth 100000
set_option maxHeartbeats 2000000
/-! VR: lands and piles changed, dicts, calls of methods, instances made. -/
namespace VS
open PySem L2

def putL {β : Type} (kvs : List (List Key × β)) (k : List Key) (v : β) : List (List Key × β) :=
  if (kvs.any fun kv => decide (kv.1 = k)) = true then kvs.map (fun kv => if kv.1 = k then (kv.1, v) else kv) else kvs ++ [(k, v)]
theorem putK_map {β : Type} (f : β → V) (kvs : List (List Key × β)) (k : List Key) (v : β) : putK (kvs.map fun p => (p.1, f p.2)) k (f v) = (putL kvs k v).map fun p => (p.1, f p.2) := by
  unfold putK putL
  have e : ((kvs.map fun p => (p.1, f p.2)).any fun kv => decide (kv.1 = k)) = kvs.any fun kv => decide (kv.1 = k) := by rw [List.any_map]; rfl
  rw [e]
  split
  · rw [List.map_map, List.map_map]
    refine List.map_congr_left fun p _ => ?_
    show (if p.1 = k then (p.1, f v) else (p.1, f p.2)) = _
    by_cases h : p.1 = k <;> simp [h]
  · simp
def blO : D → O Bool
  | .bl b => .ok b
  | _ => .bad
/-- x.open_at[e] = value -/
def sOpen (i : Nat) (fe fv : EF) : SF := fun ρ => (fv ρ).bind fun d => (blO d).bind fun b => (eVar i ρ).bind fun x => (landO x).bind fun L => (fe ρ).bind fun k => (ofO (keyD k)).bind fun ks => gd (decide (L.o.length < 100000)) (.ok (.nx (ρ.set i (some (.land ⟨L.g, putL L.o ks b⟩)))))
def dctO : D → O (List (List Key × D))
  | .dct m => .ok m
  | _ => .bad
/-- x[e] = value, x its own dict -/
def sDput (i : Nat) (fe fv : EF) : SF := fun ρ => (fv ρ).bind fun d => gd d.imm ((eVar i ρ).bind fun x => (dctO x).bind fun m => (fe ρ).bind fun k => (ofO (keyD k)).bind fun ks => gd (decide (m.length < 100000)) (.ok (.nx (ρ.set i (some (.dct (putL m ks d)))))))
def eDct0 : EF := fun _ => .ok (.dct [])
def eGet2 (fa fb fd : EF) : EF := fun ρ => (fa ρ).bind fun x => (dctO x).bind fun m => (fb ρ).bind fun k => (fd ρ).bind fun z => (ofO (keyD k)).bind fun ks => .ok ((lookD m ks).getD z)
def inD (neg : Bool) (k d : D) : O D := (dctO d).bind fun m => (ofO (keyD k)).bind fun ks => .ok (.bl (neg != (lookD m ks).isSome))
def e3 (g : D → D → D → O D) (f h l : EF) : EF := fun ρ => (f ρ).bind fun x => (h ρ).bind fun y => (l ρ).bind fun z => g x y z
def gridO : List D → Option (List (List (Option Int)))
  | [] => some []
  | .lst d :: ds => match hOs d, gridO ds with
    | some r, some rs => some (r :: rs)
    | _, _ => none
  | _ => none
/-- list(x) -/
def listD : D → O D
  | .lst l => gd (immA l) (.ok (.lst l))
  | .tup l => gd (immA l) (.ok (.lst l))
  | _ => .bad

section
variable {c : Ct} {M M' M1 Ml : Nat → Mo} {B : Bs} {H H' : Hp} {σ : L2.St} {ρ : Rho} {X : Cx} {We : WX} {k k' al al' al'' i j : Nat} {rs : Sh} {st : Stmt} {sts : List Stmt} {e a b d value : Expr} {f fa fb fd fe fv : EF} {pos pos' apos cpos : Pos} {W W' : Addr → Prop}
theorem isA_hV : ∀ {ds : List D} {vs : List V} {r : List (Option Int)}, IsA c W H vs ds → hOs ds = some r → vs = rowV r ∧ ds = r.map hD
  | [], _, r, .nil, e => by cases e; exact ⟨rfl, rfl⟩
  | d :: ds, _, r, .cons h t, e => by
    unfold hOs at e
    cases h2 : hOs ds with
    | none => rw [h2] at e; cases d <;> cases e
    | some xs =>
      rw [h2] at e
      obtain ⟨e1, e2⟩ := isA_hV t h2
      cases d with
      | non => cases e; cases h; exact ⟨by rw [e1]; rfl, by rw [e2]; rfl⟩
      | int i => cases e; cases h; exact ⟨by rw [e1]; rfl, by rw [e2]; rfl⟩
      | _ => cases e
theorem paired_set {rs : List Addr} {gg : List (List (Option Int))} {r : Addr} {row : List (Option Int)} : ∀ {j : Nat}, Paired (fun r row => H r = some (.lst (rowV row))) rs gg → rs.Nodup → rs[j]? = some r → (∀ x ∈ rs, x ≠ r → ∀ o, H x = some o → H' x = some o) → H' r = some (.lst (rowV row)) →
    Paired (fun r row => H' r = some (.lst (rowV row))) rs (gg.set j row)
  | _, .nil, _, e, _, _ => by simp at e
  | 0, .cons (a := a) h t, nd, e, hk, hr => by
    simp at e; subst e
    refine .cons hr ?_
    have hn := (List.nodup_cons.mp nd).1
    have : ∀ {rs : List Addr} {gg : List (List (Option Int))}, Paired (fun r row => H r = some (.lst (rowV row))) rs gg → (∀ x ∈ rs, ∀ o, H x = some o → H' x = some o) → Paired (fun r row => H' r = some (.lst (rowV row))) rs gg := by
      intro rs gg h
      induction h with
      | nil => exact fun _ => .nil
      | cons p t ih => exact fun hk => .cons (hk _ (by simp) _ p) (ih fun x hx => hk x (by simp [hx]))
    exact this t fun x hx o => hk x (by simp [hx]) (fun z => hn (by rw [← z]; exact hx)) o
  | j + 1, .cons h t, nd, e, hk, hr => by
    have e' := (by simpa using e : _ = some r)
    refine .cons (hk _ (by simp) (fun z => (List.nodup_cons.mp nd).1 ?_) _ h) (paired_set t (List.nodup_cons.mp nd).2 e' (fun x hx => hk x (by simp [hx])) hr)
    rw [z]; exact List.mem_of_getElem? e'
theorem paired_len {rs : List Addr} {gg : List (List (Option Int))} (h : Paired (fun r row => H r = some (.lst (rowV row))) rs gg) : rs.length = gg.length := by
  induction h with
  | nil => rfl
  | cons _ _ ih => simp [ih]
theorem paired_get {rs : List Addr} {gg : List (List (Option Int))} : ∀ {j : Nat} {row : List (Option Int)}, Paired (fun r row => H r = some (.lst (rowV row))) rs gg → gg[j]? = some row → ∃ r, rs[j]? = some r ∧ H r = some (.lst (rowV row))
  | _, _, .nil, e => by simp at e
  | 0, row, .cons h t, e => by simp at e; subst e; exact ⟨_, rfl, h⟩
  | j + 1, row, .cons h t, e => by
    obtain ⟨r, e1, e2⟩ := paired_get (j := j) t (by simpa using e)
    exact ⟨r, by simpa using e1, e2⟩
theorem head_set {g : List (List (Option Int))} {j : Nat} {r : List (Option Int)} (h : r.length = (g.getD j []).length) : ((g.set j r).headD []).length = (g.headD []).length := by
  cases g with
  | nil => rfl
  | cons x g =>
    cases j with
    | zero => simpa using h
    | succ j => rfl
theorem vl_grid {n : Str} {p2 : Pos} (i : Nat) (lk : LandK X.K c.CL) (hm : M i = .o .land ∨ M i = .p .land) (hb : VE X c M We al' b fb) (hN : X.N[i]? = some n := by rfl) (hv : Vis X.env.scope n := by first | exact Or.inl rfl | exact Or.inr (Or.inl rfl) | exact Or.inr (Or.inr rfl))
    (hd : (n == ("__debug__" : Str)) = false := by decide) (hcd : (n == ("__classdict__" : Str)) = false := by decide) (ht : attributeBase (.Name n p2) "grid" X.env (eval (.Name n p2) X.env) = eval (.Name n p2) X.env := by rfl) (hs : PlainIx b := by exact fun _ _ => rfl) :
    VLoc X c M We i (.Subscript (.Attribute (.Name n p2) "grid" pos) b pos') (gGrid i fb) (pGrid i fb) := by
  obtain ⟨tb, pb, sb⟩ := hb.ex
  refine ⟨_, pe_ix ix_list (pe_fld (pv i hN hv hd hcd) ht) pb hs, fun B Fs σ H ρ Q R po => ?_⟩
  obtain ⟨d, er, po⟩ := po_var (i := i) (ρ := ρ) (f := fun d => (landO d).bind fun L => (fb ρ).bind fun k => match k with
    | .int k => (ofO (atI L.g k)).bind fun r => .ok (r.map hD)
    | _ => .bad) po
  obtain ⟨L, rfl, po⟩ := po_land po
  obtain ⟨v, Wm, e1, ho, nd, hW, hth, put⟩ := R.mut hm er
  obtain ⟨q, rfl, ⟨L', ed, dx, g, od, rs, h1, h2, h3, h4, eF⟩ | ⟨dx, ed, _⟩⟩ := ho
  · cases ed
    refine ⟨_, e1, q, c.CL, dx, _, .ref g, rfl, h1, lk.cl, lk.nG, rfl, sb _ σ H ρ _ R.slots ((Po.bind (r := fb ρ) po).imp (fun kd ek po v2 H2 hs2 hi2 => ?_) fun _ _ q => q)⟩
    cases kd with
    | int kk =>
      obtain ⟨row, hr, po⟩ := Po.ofO (Po.bind (r := ofO (atI L.g kk)) po)
      rw [is_int hi2]
      have hr' := hr
      unfold L2.atI at hr'
      cases hj : ixN L.g.length kk with
      | none => rw [hj] at hr'; cases hr'
      | some j =>
        rw [hj] at hr'
        replace hr' : L.g[j]? = some row := hr'
        obtain ⟨r, hrs, hrow⟩ := paired_get h4 hr'
        have rF : r ∈ Fs i := by rw [eF]; simp [List.mem_of_getElem? hrs]
        rw [eF] at nd
        have nd1 := List.nodup_cons.mp nd
        have nd2 := List.nodup_cons.mp nd1.2
        have nd3 := List.nodup_cons.mp nd2.2
        have hrm := List.mem_of_getElem? hrs
        have qr : q ≠ r := fun z => nd1.1 (by rw [z]; simp [hrm])
        have gr : g ≠ r := fun z => nd2.1 (by rw [z]; simp [hrm])
        have or' : od ≠ r := fun z => nd3.1 (by rw [z]; exact hrm)
        refine ⟨g, rs.map V.ref, kk, .ref r, rfl, rfl, .inl (.inl (hs2 _ _ h2)), ?_, po r (rowV row) H2 hs2 (hs2 _ _ hrow) (isA_h row) fun H1 xs' l' d' hs3 hi' ed => ?_⟩
        · unfold L2.atI
          rw [List.length_map, paired_len h4, hj]
          show (rs.map V.ref)[j]? = _
          rw [List.getElem?_map, hrs]; rfl
        · unfold pGrid at ed
          rw [show eVar i ρ = .ok (.land L) by unfold eVar; rw [er], ek] at ed
          simp only [hj] at ed
          cases hro : hOs l' with
          | none => rw [hro] at ed; cases ed
          | some r' =>
            rw [hro] at ed
            simp only [] at ed
            split at ed
            · rename_i hlen
              cases ed
              obtain ⟨ex, _⟩ := isA_hV hi' hro
              subst ex
              have hs4 := hs2.trans hs3
              refine put _ _ (Fs i) (fun b' o hb' eb => ?_) (fun b' eb => ?_) (by rw [eF]; exact nd) (fun b' hb' => .inl hb') ⟨q, rfl, .inl ⟨_, rfl, dx, g, od, rs, ?_, ?_, ?_, ?_, eF⟩⟩
              · rw [upd_ne (fun z => hb' (by rw [z]; exact rF))]; exact hs4 b' o eb
              · by_cases h : b' = r
                · rw [h, upd_same] at eb; cases eb
                · rw [upd_ne h] at eb; exact hs4.free eb
              · rw [upd_ne qr, hs4 _ _ h1]
                unfold landF
                simp only [List.length_set, head_set hlen]
              · rw [upd_ne gr]; exact hs4 _ _ h2
              · rw [upd_ne or']; exact hs4 _ _ h3
              · refine paired_set (H := H) h4 nd3.2 hrs (fun x hx hne o eo => ?_) upd_same
                rw [upd_ne hne]; exact hs4 _ _ eo
            · cases ed
    | _ => exact po.elim
  · cases ed
theorem vl_row {n : Str} {p2 : Pos} (i : Nat) (pk : PileK X.K c.CP) (hm : M i = .o .pile ∨ M i = .p .pile) (hN : X.N[i]? = some n := by rfl) (hv : Vis X.env.scope n := by first | exact Or.inl rfl | exact Or.inr (Or.inl rfl) | exact Or.inr (Or.inr rfl))
    (hd : (n == ("__debug__" : Str)) = false := by decide) (hcd : (n == ("__classdict__" : Str)) = false := by decide) (ht : attributeBase (.Name n p2) "row" X.env (eval (.Name n p2) X.env) = eval (.Name n p2) X.env := by rfl) : VLoc X c M We i (.Attribute (.Name n p2) "row" pos) (gRow i) pRow := by
  refine ⟨_, pe_fld (pv i hN hv hd hcd) ht, fun B Fs σ H ρ Q R po => ?_⟩
  obtain ⟨d, er, po⟩ := po_var (i := i) (ρ := ρ) (f := fun d => (pileO d).bind fun l => gd (VS.immA l) (.ok l)) po
  obtain ⟨l, rfl, po⟩ := po_pile po
  obtain ⟨hi, po⟩ := Po.gd po
  obtain ⟨v, Wm, e1, ho, nd, hW, hth, put⟩ := R.mut hm er
  obtain ⟨q, rfl, ⟨dx, r, xs, ds, ed, h1, h2, h3, eF⟩ | ⟨dx, ed, _⟩⟩ := ho
  · cases ed
    rw [eF] at nd
    have qr : q ≠ r := fun z => by rw [z] at nd; simp at nd
    refine ⟨_, e1, q, c.CP, dx, _, .ref r, rfl, h1, pk.cl, pk.nW, rfl, po r xs H (Same.refl H) h2 (h3.immA hi) fun H1 xs' l' d' hs hi' ed => ?_⟩
    cases ed
    have hr1 := hs _ _ h2
    refine put _ _ (Fs i) (fun b' o hb' eb => ?_) (fun b' eb => ?_) (by rw [eF]; exact nd) (fun b' hb' => .inl hb') ⟨q, rfl, .inl ⟨dx, r, xs', l', rfl, ?_, upd_same, ?_, eF⟩⟩
    · rw [upd_ne (fun z => hb' (by rw [eF, z]; simp))]; exact hs b' o eb
    · by_cases h : b' = r
      · rw [h, upd_same] at eb; cases eb
      · rw [upd_ne h] at eb; exact hs.free eb
    · rw [upd_ne qr]; exact hs _ _ h1
    · exact hi'.stay (upd_sta (xs' := xs') hr1)
  · cases ed

/-! ### dicts -/
theorem upd_staD {a : Addr} {kvs kvs' : List (List Key × V)} (h : H a = some (.dT kvs)) : ∀ b o, VS.sta o → H b = some o → upd H a (.dT kvs') b = some o := fun b o hs e => by
  rw [upd_ne (fun z => by rw [z, h] at e; cases e; exact hs)]
  exact e
theorem vs_open {n : Str} {p2 : Pos} (i : Nat) (z : Cz X c We k) (lk : LandK X.K c.CL) (hm : M i = .o .land ∨ M i = .p .land) (hi : VE X c M We al e fe) (hv : VE X c M We al' value fv) (hN : X.N[i]? = some n := by rfl) (hvis : Vis X.env.scope n := by first | exact Or.inl rfl | exact Or.inr (Or.inl rfl) | exact Or.inr (Or.inr rfl))
    (hd : (n == ("__debug__" : Str)) = false := by decide) (hcd : (n == ("__classdict__" : Str)) = false := by decide) (ht : attributeBase (.Name n p2) "open_at" X.env (eval (.Name n p2) X.env) = eval (.Name n p2) X.env := by rfl)
    (hs : swapsWith value (some (.Subscript (.Attribute (.Name n p2) "open_at" apos) e pos')) pos.line X.env = pure false := by rfl) : VSt X c We rs Ml M M (.Assign [.Subscript (.Attribute (.Name n p2) "open_at" apos) e pos'] value pos) (sOpen i fe fv) := by
  obtain ⟨ti, pi, si⟩ := hi.ex
  obtain ⟨tv, pv', sv⟩ := hv.ex
  refine ⟨_, ps_dput (hu_of z.hr) (pe_fld (pv i hN hvis hd hcd) ht) pi pv' hs, fun B σ H ρ D R po => ?_⟩
  obtain ⟨Fs, R⟩ := R
  refine sv _ σ H ρ _ R.slots ((Po.exc_up R (Po.bind po)).imp (fun d _ q v H1 hs1 hiv => ?_) fun _ _ q => q)
  cases d with
  | bl bb =>
    rw [is_bl hiv]
    have R1 := R.same hs1
    obtain ⟨d, er, q⟩ := po_var (i := i) (ρ := ρ) q
    obtain ⟨L, rfl, q⟩ := po_land q
    obtain ⟨v', Wm, e1, ho, nd, hW, hth, put⟩ := R1.mut hm er
    obtain ⟨q0, rfl, ⟨L', ed, dx, g, od, rs, h1, h2, h3, h4, eF⟩ | ⟨dx, ed, _⟩⟩ := ho
    · cases ed
      refine ⟨_, e1, q0, c.CL, dx, _, .ref od, rfl, h1, lk.cl, lk.nO, rfl, si _ σ H1 ρ _ R1.slots ((Po.exc_up R1 (Po.bind (r := fe ρ) q)).imp (fun kd ek q v2 H2 hs2 hi2 => ?_) fun _ _ q => q)⟩
      obtain ⟨ks, hk, q⟩ := Po.ofO (Po.bind (r := ofO (keyD kd)) q)
      obtain ⟨hz, q⟩ := Po.gd q
      obtain ⟨b, rfl, hb⟩ := key_is hi2 hk
      refine ⟨od, _, rfl, DPut.t (hs2 _ _ h3) hb (by rw [List.length_map]; exact Nat.lt_of_lt_of_le (of_decide_eq_true hz) (by decide)), q σ _ ?_⟩
      rw [eF] at nd
      have nd1 := List.nodup_cons.mp nd
      have nd2 := List.nodup_cons.mp nd1.2
      have nd3 := List.nodup_cons.mp nd2.2
      have oF : od ∈ Fs i := by rw [eF]; simp
      have qo : q0 ≠ od := fun z => nd1.1 (by rw [z]; simp)
      have go : g ≠ od := fun z => nd2.1 (by rw [z]; simp)
      refine put _ _ (Fs i) (fun b' o hb' eb => ?_) (fun b' eb => ?_) (by rw [eF]; exact nd) (fun b' hb' => .inl hb') ⟨q0, rfl, .inl ⟨_, rfl, dx, g, od, rs, ?_, ?_, ?_, ?_, eF⟩⟩
      · rw [upd_ne (fun z => hb' (by rw [z]; exact oF))]; exact hs2 b' o eb
      · by_cases h : b' = od
        · rw [h, upd_same] at eb; cases eb
        · rw [upd_ne h] at eb; exact hs2.free eb
      · rw [upd_ne qo]; exact hs2 _ _ h1
      · rw [upd_ne go]; exact hs2 _ _ h2
      · rw [upd_same, putK_map V.bl]
      · have : ∀ {rs : List Addr} {gg : List (List (Option Int))}, Paired (fun r row => H1 r = some (.lst (rowV row))) rs gg → (∀ x ∈ rs, x ≠ od) → Paired (fun r row => upd H2 od (.dT (putK (L.o.map fun p => (p.1, V.bl p.2)) ks (.bl bb))) r = some (.lst (rowV row))) rs gg := by
          intro rs gg h
          induction h with
          | nil => exact fun _ => .nil
          | cons p t ih => exact fun hk => .cons (by rw [upd_ne (hk _ (by simp))]; exact hs2 _ _ p) (ih fun x hx => hk x (by simp [hx]))
        exact this h4 fun x hx z => nd3.1 (by rw [← z]; exact hx)
    · cases ed
  | _ => exact q.elim
theorem zip_put {ks : List (List Key)} {vs : List V} {ds : List D} {kk : List Key} {v : V} {d : D} (hl : vs.length = ks.length) (h : IsA c W H vs ds) (hv : Is c W H v d) : ∃ (ks' : List (List Key)) (vs' : List V) (ds' : List D), putK (ks.zip vs) kk v = ks'.zip vs' ∧ putL (ks.zip ds) kk d = ks'.zip ds' ∧ vs'.length = ks'.length ∧ IsA c W H vs' ds' := by
  have hld : ds.length = ks.length := by rw [← h.length, hl]
  have any : ∀ {γ : Type} {xs : List γ}, xs.length = ks.length → ((ks.zip xs).any fun kv => decide (kv.1 = kk)) = ks.any fun k0 => decide (k0 = kk) := by
    intro γ xs hx
    have e : ((ks.zip xs).map (·.1)) = ks := List.map_fst_zip (by omega)
    have e2 : (((ks.zip xs).map (·.1)).any fun k0 => decide (k0 = kk)) = (ks.zip xs).any fun kv => decide (kv.1 = kk) := by rw [List.any_map]; rfl
    rw [← e2, e]
  unfold putK putL
  rw [any hl, any hld]
  split
  · clear any
    have : ∀ {ks : List (List Key)} {vs : List V} {ds : List D}, vs.length = ks.length → IsA c W H vs ds → ∃ vs' ds', (ks.zip vs).map (fun kv => if kv.1 = kk then (kv.1, v) else kv) = ks.zip vs' ∧ (ks.zip ds).map (fun kv => if kv.1 = kk then (kv.1, d) else kv) = ks.zip ds' ∧ vs'.length = ks.length ∧ IsA c W H vs' ds' := by
      intro ks
      induction ks with
      | nil => intro vs ds hl h; exact ⟨[], [], by simp, by simp, rfl, .nil⟩
      | cons k0 ks ih =>
        intro vs ds hl h
        cases h with
        | nil => simp at hl
        | @cons v0 vs d0 ds h0 t =>
          obtain ⟨vs', ds', e1, e2, e3, e4⟩ := ih (by simpa using hl) t
          by_cases hk : k0 = kk
          · exact ⟨v :: vs', d :: ds', by simp [hk, e1], by simp [hk, e2], by simp [e3], .cons hv e4⟩
          · exact ⟨v0 :: vs', d0 :: ds', by simp [hk, e1], by simp [hk, e2], by simp [e3], .cons h0 e4⟩
    obtain ⟨vs', ds', e1, e2, e3, e4⟩ := this hl h
    exact ⟨ks, vs', ds', e1, e2, e3, e4⟩
  · exact ⟨ks ++ [kk], vs ++ [v], ds ++ [d], by rw [List.zip_append hl.symm]; rfl, by rw [List.zip_append hld.symm]; rfl, by simp [hl], h.append (.cons hv .nil)⟩
theorem vs_dput {n : Str} {p2 : Pos} (i : Nat) (z : Cz X c We k) (hm : M i = .o .d ∨ M i = .p .d) (hi : VE X c M We al e fe) (hv : VE X c M We al' value fv) (hN : X.N[i]? = some n := by rfl) (hvis : Vis X.env.scope n := by first | exact Or.inl rfl | exact Or.inr (Or.inl rfl) | exact Or.inr (Or.inr rfl))
    (hd : (n == ("__debug__" : Str)) = false := by decide) (hcd : (n == ("__classdict__" : Str)) = false := by decide)
    (hs : swapsWith value (some (.Subscript (.Name n p2) e pos')) pos.line X.env = pure false := by rfl) : VSt X c We rs Ml M M (.Assign [.Subscript (.Name n p2) e pos'] value pos) (sDput i fe fv) := by
  obtain ⟨ti, pi, si⟩ := hi.ex
  obtain ⟨tv, pv', sv⟩ := hv.ex
  refine ⟨_, ps_dput (hu_of z.hr) (pv i hN hvis hd hcd) pi pv' hs, fun B σ H ρ D R po => ?_⟩
  obtain ⟨Fs, R⟩ := R
  refine sv _ σ H ρ _ R.slots ((Po.exc_up R (Po.bind po)).imp (fun d _ q v H1 hs1 hiv => ?_) fun _ _ q => q)
  obtain ⟨hdi, q⟩ := Po.gd q
  have R1 := R.same hs1
  obtain ⟨dx, er, q⟩ := po_var (i := i) (ρ := ρ) q
  cases dx with
  | dct m =>
    obtain ⟨v', Wm, e1, ho, nd, hW, hth, put⟩ := R1.mut hm er
    obtain ⟨q0, kss, vs, ds, rfl, ed, h1, h2, h3, eF⟩ := ho
    cases ed
    refine ⟨_, e1, si _ σ H1 ρ _ R1.slots ((Po.exc_up R1 (Po.bind (r := fe ρ) q)).imp (fun kd ek q v2 H2 hs2 hi2 => ?_) fun _ _ q => q)⟩
    obtain ⟨ks, hk, q⟩ := Po.ofO (Po.bind (r := ofO (keyD kd)) q)
    obtain ⟨hz, q⟩ := Po.gd q
    obtain ⟨b, rfl, hb⟩ := key_is hi2 hk
    have hlen : (kss.zip vs).length = (kss.zip ds).length := by simp [List.length_zip, h2, h3.length.symm]
    have h3' : IsA c (fun a => Wm a ∧ H1 a ≠ none) H2 vs ds := (h3.track).same hs2
    obtain ⟨ks', vs', ds', p1, p2', p3, p4⟩ := zip_put (kk := ks) (v := v) (d := d) h2 h3' (Is.imm (fun _ _ _ z => z) (hiv.same hs2) hdi)
    refine ⟨q0, _, rfl, DPut.t (hs2 _ _ h1) hb (by rw [hlen]; exact Nat.lt_of_lt_of_le (of_decide_eq_true hz) (by decide)), q σ _ ?_⟩
    rw [p2']
    refine put _ _ [q0] (fun b' o hb' eb => ?_) (fun b' eb => ?_) (by simp) (fun b' hb' => .inl (by rw [eF]; exact hb')) ⟨q0, ks', vs', ds', rfl, rfl, by rw [upd_same, p1], p3, ?_, rfl⟩
    · rw [upd_ne (fun z => hb' (by rw [eF, z]; simp))]; exact hs2 b' o eb
    · by_cases h : b' = q0
      · rw [h, upd_same] at eb; cases eb
      · rw [upd_ne h] at eb; exact hs2.free eb
    · refine p4.mono (fun a x => x) fun a o x ea => ?_
      rw [upd_ne (fun z => ?_)]
      · exact ea
      · rw [z] at x ea
        rcases x with x | x
        · exact hW q0 x.1 (by rw [eF]; simp)
        · rw [hs2 _ _ h1] at ea; cases ea; exact x
  | _ => exact q.elim
theorem vo_dct0 : VO X c M We .d (.Dict [] [] pos) eDct0 := by
  refine ⟨_, pe_dnewT, fun w σ H ρ Q sl po => ?_⟩
  intro p hp
  have hn : ∀ a ∈ [p], H a = none := fun a ha => by
    have e : a = p := by simpa using ha
    rw [e]; exact hp
  exact po _ _ [p] (same_new (Same.refl _) hp) hn (by simp) ⟨p, [], [], [], rfl, rfl, upd_same, rfl, .nil, rfl⟩
theorem ve_dget2 (z : Cz X c We k) (ha : VE X c M We al a fa) (hb : VE X c M We al' b fb) (hd : VE X c M We al'' d fd) (m : M2 X a "get" apos b d cpos := by exact ⟨rfl, rfl, rfl, rfl⟩) : VE X c M We (max al al'') (.Call (.Attribute a "get" apos) [b, d] [] cpos) (eGet2 fa fb fd) := by
  obtain ⟨ta, pa, sa⟩ := ha.ex
  obtain ⟨tb, pb, sb⟩ := hb.ex
  obtain ⟨td, pd, sd⟩ := hd.ex
  refine ⟨_, pe_dget2 (hu_of z.hr) pa pb pd m, fun w σ H ρ Q sl po => ?_⟩
  refine sa w σ H ρ _ sl ((Po.bind po).imp (fun x _ q v H1 hs1 hi1 => ?_) fun _ _ q => q)
  cases x with
  | dct mm =>
    have q : Po ((fb ρ).bind fun k => (fd ρ).bind fun z => (ofO (keyD k)).bind fun ks => .ok ((lookD mm ks).getD z)) _ _ := q
    cases hi1 with
    | @dct p kss vs ds h1 h2 h3 h4 =>
      refine ⟨p, rfl, .inr ⟨_, .inl h2⟩, sb w σ H1 ρ _ (sl.same hs1) ((Po.bind q).imp (fun y _ q v2 H2 hs2 hi2 => ?_) fun _ _ q H' hs => q H' (hs1.trans hs))⟩
      refine sd w σ H2 ρ _ ((sl.same hs1).same hs2) ((Po.bind q).imp (fun zd _ q v3 H3 hs3 hi3 => ?_) fun _ _ q H' hs => q H' ((hs1.trans hs2).trans hs))
      obtain ⟨ks, hk, q⟩ := Po.ofO (Po.bind (r := ofO (keyD y)) q)
      obtain ⟨bb, rfl, hbb⟩ := key_is hi2 hk
      have hs23 := hs2.trans hs3
      refine ⟨_, DGet.t (hs23 _ _ h2) (hs3 _ _ hbb), q _ H3 ((hs1.trans hs2).trans hs3) ?_⟩
      obtain ⟨l1, l2⟩ := look_is (k := ks) h4 h3
      have up1 : ∀ {vv dd}, Is c (NW w al H) H1 vv dd → Is c (NW w (max al al'') H) H3 vv dd := fun h => (h.same hs23).up (NW.up (Nat.le_max_left _ _))
      have up2 : Is c (NW w (max al al'') H) H3 v3 zd := hi3.up fun a x => NW.up (Nat.le_max_right al al'') a (NW.back hs1 a (NW.back hs2 a x))
      cases hl : lookD (kss.zip ds) ks with
      | none => rw [l2 hl]; exact up2
      | some dd =>
        obtain ⟨vv, e1, e2⟩ := l1 dd hl
        rw [e1]; exact up1 e2
  | _ => exact q.elim
/-- k in d -/
def eIn (neg : Bool) (fk fd : EF) : EF := fun ρ => (fk ρ).bind fun k => (fd ρ).bind fun d => inD neg k d
theorem din_is {kd dd : D} {v vk : V} {P : D → Prop} {E : Value → Prop} {neg : Bool} (hk : Is c W H vk kd) (hd : Is c W' H v dd) (po : Po (inD neg kd dd) P E) : ∃ a o, v = .ref a ∧ DGet H a vk o ∧ P (.bl (neg != o.isSome)) := by
  cases dd with
  | dct m =>
    cases hd with
    | @dct p kss vs ds h1 h2 h3 h4 =>
      obtain ⟨ks, hk', q⟩ := Po.ofO (Po.bind (r := ofO (keyD kd)) po)
      obtain ⟨bb, rfl, hbb⟩ := key_is hk hk'
      refine ⟨p, _, rfl, DGet.t h2 hbb, ?_⟩
      obtain ⟨l1, l2⟩ := look_is (k := ks) h4 h3
      have e : (valV (kss.zip vs) ks).isSome = (lookD (kss.zip ds) ks).isSome := by
        cases hl : lookD (kss.zip ds) ks with
        | none => rw [l2 hl]; rfl
        | some d' =>
          obtain ⟨vv, e1, _⟩ := l1 d' hl
          rw [e1]; rfl
      rw [e]
      exact q
  | _ => exact po.elim
theorem ve_din (z : Cz X c We k) (hb : VE X c M We al' b fb) (ha : VE X c M We al a fa) (hmk : behindInMarks .In a = false := by first | exact nobehind _ (by decide) (by decide) | rfl) : VE X c M We 0 (.Compare b [.In] [a] pos) (eIn false fb fa) := by
  obtain ⟨tb, pb, sb⟩ := hb.ex
  obtain ⟨ta, pa, sa⟩ := ha.ex
  refine ⟨_, pe_cmp (pc_din (hu_of z.hr) pb pa) hmk, fun w σ H ρ Q sl po => sb w σ H ρ _ sl ((Po.bind po).imp (fun kd _ q v H1 hs1 hi1 => ?_) fun _ _ q => q)⟩
  refine sa w σ H1 ρ _ (sl.same hs1) ((Po.bind q).imp (fun dd _ q v2 H2 hs2 hi2 => ?_) fun _ _ q H' hs => q H' (hs1.trans hs))
  obtain ⟨p, o, rfl, g, q⟩ := din_is (hi1.same hs2) hi2 q
  exact ⟨p, o, rfl, g, by simpa using q _ H2 (hs1.trans hs2) (.bl _)⟩
theorem ve_dnotin (z : Cz X c We k) (hb : VE X c M We al' b fb) (ha : VE X c M We al a fa) (hmk : behindInMarks .NotIn a = false := by first | exact nobehind _ (by decide) (by decide) | rfl) : VE X c M We 0 (.Compare b [.NotIn] [a] pos) (eIn true fb fa) := by
  obtain ⟨tb, pb, sb⟩ := hb.ex
  obtain ⟨ta, pa, sa⟩ := ha.ex
  refine ⟨_, pe_cmp (pc_dnotin (hu_of z.hr) pb pa) hmk, fun w σ H ρ Q sl po => sb w σ H ρ _ sl ((Po.bind po).imp (fun kd _ q v H1 hs1 hi1 => ?_) fun _ _ q => q)⟩
  refine sa w σ H1 ρ _ (sl.same hs1) ((Po.bind q).imp (fun dd _ q v2 H2 hs2 hi2 => ?_) fun _ _ q H' hs => q H' (hs1.trans hs))
  obtain ⟨p, o, rfl, g, q⟩ := din_is (hi1.same hs2) hi2 q
  exact ⟨p, o, rfl, g, by simpa using q _ H2 (hs1.trans hs2) (.bl _)⟩
theorem vt_din (z : Cz X c We k) (hb : VE X c M We al' b fb) (ha : VE X c M We al a fa) (hmk : behindInMarks .In a = false := by first | exact nobehind _ (by decide) (by decide) | rfl) : VT X c M We (.Compare b [.In] [a] pos) (tE (eIn false fb fa)) := by
  obtain ⟨tb, pb, sb⟩ := hb.ex
  obtain ⟨ta, pa, sa⟩ := ha.ex
  refine ⟨_, pt_cmp (pc_din (hu_of z.hr) pb pa) hmk, fun w σ H ρ Q sl po => sb w σ H ρ _ sl ((Po.bind (Po.bind po)).imp (fun kd _ q v H1 hs1 hi1 => ?_) fun _ _ q => q)⟩
  refine sa w σ H1 ρ _ (sl.same hs1) ((Po.bind q).imp (fun dd _ q v2 H2 hs2 hi2 => ?_) fun _ _ q H' hs => q H' (hs1.trans hs))
  obtain ⟨p, o, rfl, g, q⟩ := din_is (hi1.same hs2) hi2 q
  exact ⟨p, o, rfl, g, _, rfl, by simpa using q H2 (hs1.trans hs2)⟩
theorem vt_dnotin (z : Cz X c We k) (hb : VE X c M We al' b fb) (ha : VE X c M We al a fa) (hmk : behindInMarks .NotIn a = false := by first | exact nobehind _ (by decide) (by decide) | rfl) : VT X c M We (.Compare b [.NotIn] [a] pos) (tE (eIn true fb fa)) := by
  obtain ⟨tb, pb, sb⟩ := hb.ex
  obtain ⟨ta, pa, sa⟩ := ha.ex
  refine ⟨_, pt_cmp (pc_dnotin (hu_of z.hr) pb pa) hmk, fun w σ H ρ Q sl po => sb w σ H ρ _ sl ((Po.bind (Po.bind po)).imp (fun kd _ q v H1 hs1 hi1 => ?_) fun _ _ q => q)⟩
  refine sa w σ H1 ρ _ (sl.same hs1) ((Po.bind q).imp (fun dd _ q v2 H2 hs2 hi2 => ?_) fun _ _ q H' hs => q H' (hs1.trans hs))
  obtain ⟨p, o, rfl, g, q⟩ := din_is (hi1.same hs2) hi2 q
  exact ⟨p, o, rfl, g, _, rfl, by simpa using q H2 (hs1.trans hs2)⟩

/-! ### list(x) -/
theorem own_new {H1 : Hp} {w : Wd} {xs : List V} {l : List D} {p : Addr} (hs : Same H H1) (hp : H1 p = none) (hi : IsA c W H1 xs l) (hd : VS.immA l = true) :
    Same H (upd H1 p (.lst xs)) ∧ (∀ a ∈ [p], H a = none) ∧ [p].Nodup ∧ Own c (fun a => NW w 0 H a ∧ a ∉ [p]) (upd H1 p (.lst xs)) (.l .fz) (.ref p) (.lst l) [p] := by
  refine ⟨same_new hs hp, fun a ha => ?_, by simp, p, xs, l, ?_⟩
  · have e : a = p := by simpa using ha
    rw [e]; exact hs.free hp
  · have hi2 : IsA c (fun a => NW w 0 H a ∧ a ∉ [p]) (upd H1 p (.lst xs)) xs l := (hi.immA hd).same (same_new (Same.refl _) hp)
    obtain ⟨Gs, g1, g2⟩ := hi2.toP3
    exact ⟨Gs, rfl, rfl, upd_same, g1, by rw [g2]⟩
theorem vo_list {p : Pos} (z : Cz X c We k) (h : VE X c M We al e f) (hg : Gl X "list") (hm : X.mg "list" = none) (hs : starEach [e] X.env = (false, eval e X.env) :: starEach [] X.env := by rfl) (hpl : (backTo pos (starEach [] X.env)).any (·.1) = false := by rfl) :
    VO X c M We (.l .fz) (.Call (.Name "list" p) [e] [] pos) (e1 listD f) := by
  obtain ⟨te, pe, s⟩ := h.ex
  refine ⟨_, pe_callTy call_list_of hg hm (by decide +kernel) (pa_cons pe pa_nil hs) (by decide) (by decide) hs hpl, fun w σ H ρ Q sl po => s w σ H ρ _ sl ((Po.bind po).imp (fun d _ q v H1 hs1 hi => ?_) fun _ _ q => q)⟩
  cases d with
  | lst l =>
    obtain ⟨hd, q⟩ := Po.gd q
    obtain ⟨a, xs, rfl, h1, h2⟩ := is_lst hi
    refine ⟨a, xs, rfl, .inl (by rw [z.K]; exact h1), fun p hp => ?_⟩
    obtain ⟨o1, o2, o3, o4⟩ := own_new (w := w) hs1 hp h2 hd
    exact q _ _ [p] o1 o2 o3 o4
  | tup l =>
    obtain ⟨hd, q⟩ := Po.gd q
    obtain ⟨a, xs, rfl, h1, h2⟩ := is_tup hi
    refine ⟨a, xs, rfl, .inr (.of h1), fun p hp => ?_⟩
    obtain ⟨o1, o2, o3, o4⟩ := own_new (w := w) hs1 hp h2 hd
    exact q _ _ [p] o1 o2 o3 o4
  | _ => exact q.elim

/-! ### what an instance starts with -/
/-- self.grid, .rows, .columns, .open_at: a land is there -/
def sLand (i : Nat) (fg fr fc : EF) : SF := fun ρ => (fg ρ).bind fun g => (eVar i ρ).bind fun x => match x with
  | .raw => (lstD g).bind fun rows => (fr (ρ.set i none)).bind fun r => (fc (ρ.set i none)).bind fun cc => match r, cc with
    | .int r, .int cc => (ofO (gridO rows)).bind fun gg => gd (decide (r = (gg.length : Int)) && decide (cc = ((gg.headD []).length : Int))) (.ok (.nx (ρ.set i (some (.land ⟨gg, []⟩)))))
    | _, _ => .bad
  | _ => .bad
def sPile0 (i : Nat) : SF := fun ρ => (eVar i ρ).bind fun x => match x with
  | .raw => .ok (.nx (ρ.set i (some (.pile []))))
  | _ => .bad
/-- slot i holds a bare instance at q: what else stands while its attributes come -/
theorem RelF.bare {Fs : Nat → List Addr} {q C C' dx dx' : Addr} {fs fs' : List (Str × V)} (R : RelF c M B Fs H σ ρ) (hs : Same H H') (hq : H q = some (.ins C dx fs)) (hF : Fs i = [q]) (hr : ρ[i]? = some none) (hi : σ[i]? = some (some (.ref q))) (hm : M i = .o .land ∨ M i = .p .land ∨ M i = .o .pile ∨ M i = .p .pile) :
    RelF c M B Fs (upd H' q (.ins C' dx' fs')) σ ρ := by
  have e : fset Fs i (Fs i) = Fs := funext fun j => by
    by_cases h : j = i
    · rw [h, fset_self]
    · rw [fset_ne h]
  have := R.put (i := i) (F' := Fs i) (H' := upd H' q (.ins C' dx' fs')) (σ' := σ) (ρ' := ρ) (fun a o hn ea => by rw [upd_ne (fun z => hn (by rw [hF, z]; simp))]; exact hs a o ea) (fun a ea => by
      by_cases h : a = q
      · rw [h, upd_same] at ea; cases ea
      · rw [upd_ne h] at ea; exact hs.free ea) (R.nd i) (fun a ha => .inl ha) (fun a ha => by
      rw [hF] at ha
      have ea : a = q := by simpa using ha
      rw [ea, upd_same]; exact ⟨_, rfl, fun z => z⟩) (fun _ _ => rfl) (fun _ _ => rfl) R.len (fun p hp ep => by have := (R.mp p hp).1; rw [ep] at this; exact this) (fun s hs => R.own i s hs) (fun d ed => by rw [hr] at ed; cases ed)
  rw [e] at this
  exact this
theorem po_raw {α : Type} {x : D} {y : O α} {P : α → Prop} {E : Value → Prop} (h : Po (match x with | .raw => y | _ => .bad) P E) : x = .raw ∧ Po y P E := by
  cases x with
  | raw => exact ⟨rfl, h⟩
  | _ => exact h.elim
theorem grid_is {W : Addr → Prop} : ∀ {xs : List V} {rows : List D} {Gs : List (List Addr)} {gg : List (List (Option Int))}, P3 (Own c W H (.l .fz)) xs rows Gs → gridO rows = some gg → ∃ rs, xs = rs.map V.ref ∧ Gs.flatten = rs ∧ Paired (fun r row => H r = some (.lst (rowV row))) rs gg
  | _, _, _, _, .nil, e => by cases e; exact ⟨[], rfl, rfl, .nil⟩
  | _, _, _, gg, .cons (ds := ds2) h t, e => by
    obtain ⟨a, ys, ds, Gs', rfl, rfl, ha, h5, eF⟩ := h
    unfold gridO at e
    cases h1 : hOs ds with
    | none => rw [h1] at e; cases e
    | some r =>
      cases h2 : gridO ds2 with
      | none => rw [h1, h2] at e; cases e
      | some rs2 =>
        rw [h1, h2] at e
        cases e
        obtain ⟨rs, e1, e2, e3⟩ := grid_is t h2
        obtain ⟨f1, f2⟩ := h5.ofFz
        obtain ⟨g1, _⟩ := isA_hV f1 h1
        rw [g1] at ha
        exact ⟨a :: rs, by rw [e1]; rfl, by rw [List.flatten_cons, e2, eF, f2]; rfl, .cons ha e3⟩
theorem vss_land {n : Str} {eg er ec : Expr} {fg fr fc : EF} {p1 p2 p3 p4 q1 q2 q3 q4 r1 r2 r3 r4 r5 : Pos} (i : Nat) (lk : LandK X.K c.CL) (hm : M i = .p .land) (hg : VO X c M We (.l (.l .fz)) eg fg) (hr : VE X c M We al er fr) (hc : VE X c M We al' ec fc) (hN : X.N[i]? = some n := by rfl)
    (hv : Vis X.env.scope n := by first | exact Or.inl rfl | exact Or.inr (Or.inl rfl) | exact Or.inr (Or.inr rfl)) (hd : (n == ("__debug__" : Str)) = false := by decide) (hcd : (n == ("__classdict__" : Str)) = false := by decide)
    (s1 : swapsWith eg (some (.Attribute (.Name n p1) "grid" q1)) r1.line X.env = pure false := by rfl) (s2 : swapsWith er (some (.Attribute (.Name n p2) "rows" q2)) r2.line X.env = pure false := by rfl)
    (s3 : swapsWith ec (some (.Attribute (.Name n p3) "columns" q3)) r3.line X.env = pure false := by rfl) (s4 : swapsWith (.Dict [] [] r5) (some (.Attribute (.Name n p4) "open_at" q4)) r4.line X.env = pure false := by rfl) :
    VSs X c We rs Ml M M [.Assign [.Attribute (.Name n p1) "grid" q1] eg r1, .Assign [.Attribute (.Name n p2) "rows" q2] er r2, .Assign [.Attribute (.Name n p3) "columns" q3] ec r3, .Assign [.Attribute (.Name n p4) "open_at" q4] (.Dict [] [] r5) r4] (sLand i fg fr fc) := by
  obtain ⟨tg, pg, sg⟩ := hg.ex
  obtain ⟨tr, pr, sr⟩ := hr.ex
  obtain ⟨tc, pc, sc⟩ := hc.ex
  refine ⟨_, pss_cons (ps_fld (pv i hN hv hd hcd) pg s1) (pss_cons (ps_fld (pv i hN hv hd hcd) pr s2) (pss_cons (ps_fld (pv i hN hv hd hcd) pc s3) (pss_one (ps_fld (pv i hN hv hd hcd) pe_dnewT s4)))), fun B σ H ρ D R po => ?_⟩
  obtain ⟨Fs, R⟩ := R
  refine sg _ σ H ρ _ R.slots ((Po.exc_up R (Po.bind po)).imp (fun gd0 eg' q v H1 F hs1 hn nd ho => ?_) fun _ _ q => q)
  obtain ⟨x, er0, q⟩ := po_var (i := i) (ρ := ρ) q
  obtain ⟨rfl, q⟩ := po_raw q
  obtain ⟨v0, e0, hsat⟩ := R.sl i _ er0
  rw [hm] at hsat
  obtain ⟨qa, rfl, ⟨L, ed, _⟩ | ⟨dx, _, hq, hF⟩⟩ := hsat
  · cases ed
  have hil : i < ρ.length := (List.getElem?_eq_some_iff.mp er0).1
  have hr0 : (ρ.set i none)[i]? = some none := List.getElem?_set_self hil
  have Rn : RelF c M B Fs H1 σ (ρ.set i none) := by
    have e : fset Fs i (Fs i) = Fs := funext fun j => by
      by_cases h : j = i
      · rw [h, fset_self]
      · rw [fset_ne h]
    have := (R.same hs1).put (i := i) (F' := Fs i) (H' := H1) (σ' := σ) (ρ' := ρ.set i none) (fun a o _ ea => ea) (fun a ea => ea) (R.nd i) (fun a ha => .inl ha) ((R.same hs1).th i) (fun _ _ => rfl) (fun j hj => List.getElem?_set_ne (Ne.symm hj)) (by simp [R.len])
      (fun p hp ep => by have := (R.mp p hp).1; rw [ep] at this; exact this) (fun s hs => R.own i s hs) (fun d ed => by rw [hr0] at ed; cases ed)
    rw [e] at this
    exact this
  obtain ⟨g, xs, rows, Gs, rfl, rfl, hgl, h3, eF⟩ := ho
  replace q : Po ((fr (ρ.set i none)).bind fun r => (fc (ρ.set i none)).bind fun cc => match r, cc with
    | .int r, .int cc => (ofO (gridO rows)).bind fun gg => gd (decide (r = (gg.length : Int)) && decide (cc = ((gg.headD []).length : Int))) (.ok (Out.nx (ρ.set i (some (.land ⟨gg, []⟩)))))
    | _, _ => .bad) _ _ := q
  have hq1 := hs1 _ _ hq
  refine ⟨_, e0, qa, c.CL, dx, [], rfl, hq1, lk.cl, lk.nG, by decide, ?_⟩
  have R1 := Rn.bare (H' := H1) (C' := c.CL) (dx' := dx) (fs' := putF "grid" (.ref g) []) (Same.refl H1) hq1 hF hr0 e0 (.inr (.inl hm))
  refine sr _ σ _ (ρ.set i none) _ R1.slots ((Po.exc_up R1 (Po.bind q)).imp (fun rd _ q v2 H2 hs2 hi2 => ?_) fun _ _ q => q)
  have hq2 := hs2 _ _ (upd_same (H := H1) (a := qa))
  refine ⟨_, e0, qa, c.CL, dx, _, rfl, hq2, lk.cl, lk.nR, Nat.lt_of_le_of_lt (length_putF ..) (by decide), ?_⟩
  have R2 := (R1.same hs2).bare (H' := H2) (C' := c.CL) (dx' := dx) (fs' := putF "rows" v2 (putF "grid" (.ref g) [])) (Same.refl H2) hq2 hF hr0 e0 (.inr (.inl hm))
  refine sc _ σ _ (ρ.set i none) _ R2.slots ((Po.exc_up R2 (Po.bind q)).imp (fun cd _ q v3 H3 hs3 hi3 => ?_) fun _ _ q => q)
  have hq3 := hs3 _ _ (upd_same (H := H2) (a := qa))
  refine ⟨_, e0, qa, c.CL, dx, _, rfl, hq3, lk.cl, lk.nC, Nat.lt_of_le_of_lt (length_putF ..) (Nat.lt_of_le_of_lt (Nat.add_le_add_right (length_putF ..) 1) (by decide)), ?_⟩
  have R3 := (R2.same hs3).bare (H' := H3) (C' := c.CL) (dx' := dx) (fs' := putF "columns" v3 (putF "rows" v2 (putF "grid" (.ref g) []))) (Same.refl H3) hq3 hF hr0 e0 (.inr (.inl hm))
  cases rd with
  | int r =>
    cases cd with
    | int cc =>
      replace q : Po ((ofO (gridO rows)).bind fun gg => gd (decide (r = (gg.length : Int)) && decide (cc = ((gg.headD []).length : Int))) (.ok (Out.nx (ρ.set i (some (.land ⟨gg, []⟩)))))) _ _ := q
      obtain ⟨gg, hgg, q⟩ := Po.ofO (Po.bind (r := ofO (gridO rows)) q)
      obtain ⟨hz, q⟩ := Po.gd q
      rw [Bool.and_eq_true, decide_eq_true_eq, decide_eq_true_eq] at hz
      rw [is_int hi2, is_int hi3, hz.1, hz.2]
      rw [is_int hi2, is_int hi3] at R3
      intro od hod
      have odq : od ≠ qa := fun z => by rw [z, upd_same] at hod; cases hod
      have hod3 : H3 od = none := by rw [upd_ne odq] at hod; exact hod
      have hod2 : H2 od = none := by have := hs3.free hod3; rw [upd_ne odq] at this; exact this
      have hod1 : H1 od = none := by have := hs2.free hod2; rw [upd_ne odq] at this; exact this
      refine ⟨_, e0, qa, c.CL, dx, _, rfl, by rw [upd_ne (Ne.symm odq), upd_same], lk.cl, lk.nO, Nat.lt_of_le_of_lt (length_putF ..) (Nat.lt_of_le_of_lt (Nat.add_le_add_right (length_putF ..) 1) (Nat.lt_of_le_of_lt (Nat.add_le_add_right (Nat.add_le_add_right (length_putF ..) 1) 1) (by decide))), q σ _ ?_⟩
      obtain ⟨rs', ex, eG, hp⟩ := grid_is h3 hgg
      have keep1 : ∀ a o, a ≠ qa → H1 a = some o → ∀ f1 f2 f3 f4 : HO, upd (upd (upd H3 qa f3) od f4) qa f1 a = some o := fun a o hne ea f1 f2 f3 f4 => by
        have e1 : H2 a = some o := hs2 _ _ (by rw [upd_ne hne]; exact ea)
        have e2 : H3 a = some o := hs3 _ _ (by rw [upd_ne hne]; exact e1)
        have hao : a ≠ od := fun z => by rw [z, hod1] at ea; cases ea
        rw [upd_ne hne, upd_ne hao, upd_ne hne]
        exact e2
      have hnq : ∀ a ∈ F, a ≠ qa := fun a ha z => by
        have := hn a ha
        rw [z, hq] at this; cases this
      have hFe : F = g :: rs' := by rw [eF, eG]
      have hrs : ∀ x ∈ rs', x ∈ F := fun x hx => by rw [hFe]; exact List.mem_cons_of_mem _ hx
      have hgF : g ∈ F := by rw [hFe]; simp
      have odF : od ∉ F := fun z => by
        rw [hFe] at z
        rcases List.mem_cons.mp z with z | z
        · rw [z, hgl] at hod1; cases hod1
        · have : ∀ {rs : List Addr} {gg : List (List (Option Int))}, Paired (fun r row => H1 r = some (.lst (rowV row))) rs gg → od ∈ rs → False := by
            intro rs gg h
            induction h with
            | nil => intro hm; simp at hm
            | cons p t ih =>
              intro hm
              rcases List.mem_cons.mp hm with e | e
              · rw [← e, hod1] at p; cases p
              · exact ih e
          exact this hp z
      have hod0 : H od = none := hs1.free hod1
      have hown : Own c (fun _ => False) (upd (upd (upd H3 qa (.ins c.CL dx (putF "columns" (V.int ((gg.headD []).length : Int)) (putF "rows" (V.int (gg.length : Int)) (putF "grid" (.ref g) []))))) od (.dT [])) qa (.ins c.CL dx (landF ⟨gg, []⟩ g od))) .land (.ref qa) (.land ⟨gg, []⟩) (qa :: g :: od :: rs') := by
        refine ⟨qa, rfl, .inl ⟨_, rfl, dx, g, od, rs', upd_same, ?_, ?_, ?_, rfl⟩⟩
        · rw [keep1 g _ (hnq g hgF) hgl _ (.lst []) _ _, ex]
        · rw [upd_ne odq, upd_same]; rfl
        · have : ∀ {rs : List Addr} {gg : List (List (Option Int))}, Paired (fun r row => H1 r = some (.lst (rowV row))) rs gg → (∀ x ∈ rs, x ≠ qa) → ∀ {H4 : Hp}, (∀ a o, a ≠ qa → H1 a = some o → H4 a = some o) → Paired (fun r row => H4 r = some (.lst (rowV row))) rs gg := by
            intro rs gg h
            induction h with
            | nil => exact fun _ _ _ => .nil
            | cons p t ih => exact fun hk H4 hh => .cons (hh _ _ (hk _ (by simp)) p) (ih (fun x hx => hk x (by simp [hx])) hh)
          exact this hp (fun x hx => hnq x (hrs x hx)) fun a o h1 h2 => keep1 a o h1 h2 _ (.lst []) _ _
      refine ⟨_, R.put (i := i) (F' := qa :: g :: od :: rs') (fun a o ha ea => ?_) (fun a ea => ?_) ?_ (fun a ha => ?_) (fun a ha => ?_) (fun _ _ => rfl) (fun j hj => List.getElem?_set_ne (Ne.symm hj)) (by simp [R.len]) (fun p hp ep => by have := (R.mp p hp).1; rw [ep] at this; exact this) (fun s hs => R.own i s hs) fun d2 e2 => ?_⟩
      · exact keep1 a o (fun z => ha (by rw [hF, z]; simp)) (hs1 _ _ ea) _ (.lst []) _ _
      · by_cases h : a = qa
        · rw [h, upd_same] at ea; cases ea
        · cases e1 : H a with
          | none => rfl
          | some o =>
            rw [keep1 a o h (hs1 _ _ e1) _ (.lst []) _ _] at ea; cases ea
      · rw [hFe] at nd hnq odF
        have nd1 := List.nodup_cons.mp nd
        refine List.nodup_cons.mpr ⟨fun z => ?_, List.nodup_cons.mpr ⟨fun z => ?_, List.nodup_cons.mpr ⟨fun z => odF (List.mem_cons_of_mem _ z), nd1.2⟩⟩⟩
        · rcases List.mem_cons.mp z with z | z
          · exact hnq g (by simp) z.symm
          · rcases List.mem_cons.mp z with z | z
            · exact odq z.symm
            · exact hnq qa (List.mem_cons_of_mem _ z) rfl
        · rcases List.mem_cons.mp z with z | z
          · exact odF (by rw [z]; simp)
          · exact nd1.1 z
      · rcases List.mem_cons.mp ha with z | z
        · exact .inl (by rw [hF, z]; simp)
        · rcases List.mem_cons.mp z with z | z
          · exact .inr (by rw [z]; exact hn g hgF)
          · rcases List.mem_cons.mp z with z | z
            · exact .inr (by rw [z]; exact hod0)
            · exact .inr (hn a (hrs a z))
      · exact hown.there a ha
      · rw [List.getElem?_set_self hil] at e2
        cases e2
        refine ⟨_, e0, ?_⟩
        rw [hm]
        exact hown
    | _ => exact q.elim
  | _ => cases cd <;> exact q.elim
end
end VS
set_option Elab.async false
set_option linter.all false
set_option maxRecDepth 100000
set_option maxHeartbeats 2000000
/-! VT: calls of methods, instances made. -/
namespace VS
open PySem PySem.Spec PyProof.Rows L2

section
variable {X : Cx} {CX : CXT} {k : Nat} {f C : Addr} {fd : FuncData} {ps : List Str} {sp : Sp} {E : L2.St → XK} {m x : Str} {pos apos p : Pos} {e o : Expr} {es : List Expr} {ta : TE} {t : TA}
/-- o.m(..), its way out told with the slots -/
def tMe (C : Addr) (m : Str) (sp : Sp) (E : L2.St → XK) (ta : TE) (t : TA) : TE := fun σ H Q => ta σ H fun v H1 => ∃ a dx fs, v = .ref a ∧ H1 a = some (.ins C dx fs) ∧ fs.lookup m = none ∧ t σ H1 fun vs H2 => sp (v :: vs) H2 Q (E σ)
theorem pe_me {pl : Sem Bool} (he : PE X o ta) (c : Cls X.K C) (hm : Meth X.K C m f) (F : FnOk X.prog X.w X.K X.mg X.base CX k f fd ps sp) (hr : Room k X.A) (hb : Binds X.K fd ps []) (hx : ∀ σ, PassesAt CX X σ (E σ)) (ha : PA X (e :: es) t)
    (hst : starEach (e :: es) X.env = (false, eval e X.env) :: starEach es X.env := by rfl) (hpl : (backTo pos (starEach es X.env)).any (·.1) = false := by rfl)
    (ht : eval (.Call (.Attribute o m apos) (e :: es) [] pos) X.env = (do
      let ov ← eval o X.env
      standAt apos.atName
      let (f, first) ← holding [ov] (getMethod ov m pl)
      callWith pos f first (backTo pos (starEach (e :: es) X.env)) (backToKw pos (keywordEach [] X.env))) := by rfl) :
    PE X (.Call (.Attribute o m apos) (e :: es) [] pos) (tMe C m sp E ta t) := by
  refine ⟨fun pins s σ H Q I h => ?_⟩
  refine PySem.W.methodCall_KW (pl := pl) (thn (he.run pins s σ H _ I h) fun u s1 ⟨v, H1, I1, rx, a, dx, fs, ex, ea, l, q⟩ => ?_) ht
  subst ex
  obtain rfl : u = Value.ref a := rx
  refine getmeth_ok I1 ea c hm l ?_
  refine PySem.W.callWith_K (first := [.ref a]) (h₀ := X.base) I.ok.mod.kin hm.kp (thn (ha.run pos pins s1 σ H1 _ I1 q) fun us s2 ⟨vs, H2, I2, r, q2⟩ => ⟨I2.kIn, ?_⟩) hst hpl
  exact run_fnS (us := .ref a :: us) (vs := .ref a :: vs) F hr hb (hx σ) I2 (.cons rfl r) q2
theorem pe_me0 {pl : Sem Bool} (he : PE X o ta) (c : Cls X.K C) (hm : Meth X.K C m f) (F : FnOk X.prog X.w X.K X.mg X.base CX k f fd ps sp) (hr : Room k X.A) (hb : Binds X.K fd ps []) (hx : ∀ σ, PassesAt CX X σ (E σ))
    (ht : eval (.Call (.Attribute o m apos) [] [] pos) X.env = (do
      let ov ← eval o X.env
      standAt apos.atName
      let (f, first) ← holding [ov] (getMethod ov m pl)
      callWith pos f first (backTo pos (starEach [] X.env)) (backToKw pos (keywordEach [] X.env))) := by rfl) :
    PE X (.Call (.Attribute o m apos) [] [] pos) (tMe C m sp E ta tNil) := by
  refine ⟨fun pins s σ H Q I h => ?_⟩
  refine PySem.W.methodCall_KW (pl := pl) (thn (he.run pins s σ H _ I h) fun u s1 ⟨v, H1, I1, rx, a, dx, fs, ex, ea, l, q⟩ => ?_) ht
  subst ex
  obtain rfl : u = Value.ref a := rx
  refine getmeth_ok I1 ea c hm l ?_
  exact PySem.W.callWith_K0 (first := [.ref a]) I1.kIn hm.kp (run_fnS (us := [.ref a]) (vs := [.ref a]) F hr hb (hx σ) I1 (.cons rfl .nil) q)
/-- C(..), its way out told with the slots -/
def tMk (C : Addr) (sp : Sp) (E : L2.St → XK) (t : TA) : TE := fun σ H Q => t σ H fun vs H1 => ∀ a dx, H1 a = none → H1 dx = none → dx ≠ a → sp (.ref a :: vs) (upd (upd H1 dx (.own a)) a (.ins C dx [])) (fun v H2 => v = .non ∧ Q (.ref a) H2) fun cls d H2 => E σ cls d H2
theorem run_mk {pins : List (Addr × Obj)} {σ : L2.St} {H : Hp} {s : Shared} {Q : VK} {us : List Value} {vs : List V} (M : Mk X.K C f) (F : FnOk X.prog X.w X.K X.mg X.base CX k f fd ps sp) (hr : Room (k + 1) X.A) (hb : Binds X.K fd ps []) (hx : PassesAt CX X σ (E σ)) (I : Inv X pins σ H s) (r : Vals vs us)
    (h : ∀ a dx, H a = none → H dx = none → dx ≠ a → sp (.ref a :: vs) (upd (upd H dx (.own a)) a (.ins C dx [])) (fun v H2 => v = .non ∧ Q (.ref a) H2) fun cls d H2 => E σ cls d H2) : wpAny (model X.prog X.w) X.A (call (.ref C) us) (EP X pins σ Q) X.xe s := by
  have hq := h (s.heap.objs.size + 1) s.heap.objs.size (I.hok.fresh (Nat.le_succ _)) (I.hok.fresh (Nat.le_refl _)) (Nat.ne_of_lt (Nat.lt_succ_self _))
  have I2 := Inv.made (C := C) I
  have r2 : Vals (V.ref (s.heap.objs.size + 1) :: vs) (Value.ref (s.heap.objs.size + 1) :: us) := .cons rfl r
  have hl : (Value.ref (s.heap.objs.size + 1) :: us).length = ps.length := by
    have e := r2.length
    rw [F.len _ _ _ _ hq] at e
    exact e.symm
  have b := hb _ (Value.ref (s.heap.objs.size + 1) :: us) I2.kIn (by rw [List.append_nil]; exact hl)
  rw [List.append_nil] at b
  refine wpAny_call (make_map (f := f) I.kIn M.makes M.init (beq_iff_eq.mp M.fn) (codeAny_mono (F.run _ X.stack _ _ ⟨Value.ref (s.heap.objs.size + 1) :: us, []⟩ (Value.ref (s.heap.objs.size + 1) :: us) _ _ (E σ) (hr.make C us [])
    (I2.env0.make C us []) b r2 hq) fun r s' hq' => ?_))
  cases r with
  | error e => exact hx pins _ _ e s' I2 hq'
  | ok fl =>
    cases fl with
    | ret u =>
      obtain ⟨v, H', I3, rv, ev, q3⟩ := I2.after hq'
      subst ev
      exact ⟨rv, ⟨V.ref (s.heap.objs.size + 1), H', I3, rfl, q3⟩⟩
    | next => exact False.elim hq'
    | brk => exact False.elim hq'
    | cont => exact False.elim hq'
theorem pe_mk (M : Mk X.K C f) (F : FnOk X.prog X.w X.K X.mg X.base CX k f fd ps sp) (hr : Room (k + 1) X.A) (hg : Gl X x) (hm : X.mg x = some (.ref C)) (hb : Binds X.K fd ps []) (hx : ∀ σ, PassesAt CX X σ (E σ))
    (ha : PA X (e :: es) t) (hdb : (x == ("__debug__" : Str)) = false := by decide) (he : starEach (e :: es) X.env = (false, eval e X.env) :: starEach es X.env := by rfl) (hpl : (backTo pos (starEach es X.env)).any (·.1) = false := by rfl) :
    PE X (.Call (.Name x p) (e :: es) [] pos) (tMk C sp E t) := by
  refine ⟨fun pins s σ H Q I h => ?_⟩
  refine wpAny_Call_Name_kw (ld_glob I hg hm ?_ hdb)
  refine PySem.W.callWith_K (h₀ := X.base) I.ok.mod.kin M.kp (thn (ha.run pos pins s σ H _ I h) fun us s1 ⟨vs, H1, I1, r, q⟩ => ⟨I1.kIn, ?_⟩) he hpl
  exact run_mk M F hr hb (hx σ) I1 r q
theorem pe_mk0 (M : Mk X.K C f) (F : FnOk X.prog X.w X.K X.mg X.base CX k f fd ps sp) (hr : Room (k + 1) X.A) (hg : Gl X x) (hm : X.mg x = some (.ref C)) (hb : Binds X.K fd ps []) (hx : ∀ σ, PassesAt CX X σ (E σ))
    (hdb : (x == ("__debug__" : Str)) = false := by decide) : PE X (.Call (.Name x p) [] [] pos) (tMk C sp E tNil) := by
  refine ⟨fun pins s σ H Q I h => ?_⟩
  refine wpAny_Call_Name_kw (ld_glob I hg hm ?_ hdb)
  exact PySem.W.callWith_K0 I.kIn M.kp (run_mk (us := []) M F hr hb (hx σ) I .nil h)
end

/-- a method that keeps a promise -/
structure Dm (P : Program) (w : World) (K : PySem.W.Frag) (mg : Str → Option Value) (base : Heap) (k : Nat) (C : Addr) (m : Str) (sp : Sp) : Prop where
  ex : ∃ f fd ps, FnOk P w K mg base (L2N.CX P w) k f fd ps sp ∧ Binds K fd ps [] ∧ Meth K C m f
/-- __init__ -/
structure Di (P : Program) (w : World) (K : PySem.W.Frag) (mg : Str → Option Value) (base : Heap) (k : Nat) (x : Str) (C : Addr) (sp : Sp) : Prop where
  ex : ∃ f fd ps, FnOk P w K mg base (L2N.CX P w) k f fd ps sp ∧ Binds K fd ps [] ∧ Mk K C f ∧ mg x = some (.ref C)
/-- the two classes -/
inductive Kd where
  | land
  | pile
def Kd.cl (c : Ct) : Kd → Addr
  | .land => c.CL
  | .pile => c.CP
def Kd.sh : Kd → Sh
  | .land => .land
  | .pile => .pile
def Kd.is : Kd → D → Bool
  | .land, .land _ => true
  | .pile, .pile _ => true
  | _, _ => false
def Kd.no : Kd → Str → Bool
  | .land, m => (([("grid", V.non), ("rows", V.non), ("columns", V.non), ("open_at", V.non)] : List (Str × V)).lookup m).isNone
  | .pile, m => (([("row", V.non)] : List (Str × V)).lookup m).isNone
def eMe (kd : Kd) (fo : EF) (fs : AF) (F : List D → O D) : EF := fun ρ => (fo ρ).bind fun x => gd (kd.is x) ((fs ρ).bind fun ds => F (x :: ds))
def xMe (kd : Kd) (j : Nat) (js : List (Option (Nat × Sh))) (fs : AF) (F : List D → O Rz) : XF := fun ρ => (eOwn kd.sh j ρ).bind fun x => gd (kd.is x) ((fs ρ).bind fun ds => (F (x :: ds)).bind fun r => match r with
  | .rt d ps => gd d.imm (.ok (.v d (putM ps (some (j, kd.sh) :: js) 0 ρ)))
  | .ex k ps => .ok (.ex k (putM ps (some (j, kd.sh) :: js) 0 ρ)))
def eMk (fs : AF) (F : List D → O Rz) : EF := fun ρ => (fs ρ).bind fun ds => (F (.raw :: ds)).bind fun r => match r with
  | .rt .non (x :: _) => .ok x
  | .ex k _ => .exc k
  | _ => .bad
section
variable {c : Ct} {M M' M1 Ml : Nat → Mo} {B : Bs} {H H' : Hp} {σ : L2.St} {ρ : Rho} {X : Cx} {We : WX} {k k' al al' al'' i j : Nat} {rs : Sh} {a b e o : Expr} {es : List Expr} {f fo : EF} {fs : AF} {pos apos p : Pos} {W W' : Addr → Prop} {kd : Kd} {m x : Str} {md : Sh → Mo} {js : List (Option (Nat × Sh))}
theorem lk_no {fs fs' : List (Str × V)} {m : Str} (h : fs.map (·.1) = fs'.map (·.1)) : (fs.lookup m).isNone = (fs'.lookup m).isNone := by
  induction fs generalizing fs' with
  | nil => cases fs' with
    | nil => rfl
    | cons _ _ => simp at h
  | cons p fs ih =>
    cases fs' with
    | nil => simp at h
    | cons p' fs' =>
      simp only [List.map_cons, List.cons.injEq] at h
      obtain ⟨k, v⟩ := p
      obtain ⟨k', v'⟩ := p'
      obtain ⟨rfl, h2⟩ := h
      simp only [List.lookup_cons]
      split
      · rfl
      · exact ih h2
theorem meth_is {v : V} {d : D} (h : Is c W H v d) (hk : kd.is d = true) (hn : kd.no m = true) : ∃ a dx fs, v = .ref a ∧ H a = some (.ins (kd.cl c) dx fs) ∧ fs.lookup m = none := by
  cases kd with
  | land =>
    cases d with
    | land L =>
      obtain ⟨a, F, rfl, ⟨dx, g, od, rs, h1, h2, h3, h4, rfl⟩, _⟩ := is_land h
      refine ⟨a, dx, _, rfl, h1, ?_⟩
      have := lk_no (m := m) (fs := landF L g od) (fs' := [("grid", V.non), ("rows", V.non), ("columns", V.non), ("open_at", V.non)]) rfl
      exact Option.isNone_iff_eq_none.mp (this.trans hn)
    | _ => cases hk
  | pile =>
    cases d with
    | pile l =>
      cases h with
      | pile h1 h2 h3 h4 h5 =>
        refine ⟨_, _, _, rfl, h3, ?_⟩
        rename_i r xs
        have := lk_no (m := m) (fs := [("row", V.ref r)]) (fs' := [("row", V.non)]) rfl
        exact Option.isNone_iff_eq_none.mp (this.trans hn)
    | _ => cases hk
/-- o.m(..), nothing changes -/
theorem vo_me {F : List D → O D} {pl : Sem Bool} (z : Cz X c We k) (cl : Cls X.K (kd.cl c)) (dm : Dm X.prog X.w X.K X.mg X.base k' (kd.cl c) m (spP c rs F)) (hk : k' ≤ k) (hno : kd.no m = true) (ho : VE X c M We al o fo) (t : VA X c M We 2 (e :: es) fs)
    (hst : starEach (e :: es) X.env = (false, eval e X.env) :: starEach es X.env := by rfl) (hpl : (backTo pos (starEach es X.env)).any (·.1) = false := by rfl)
    (ht : eval (.Call (.Attribute o m apos) (e :: es) [] pos) X.env = (do
      let ov ← eval o X.env
      standAt apos.atName
      let (f, first) ← holding [ov] (getMethod ov m pl)
      callWith pos f first (backTo pos (starEach (e :: es) X.env)) (backToKw pos (keywordEach [] X.env))) := by rfl) :
    VO X c M We rs (.Call (.Attribute o m apos) (e :: es) [] pos) (eMe kd fo fs F) := by
  obtain ⟨g, fd, ps, G, hb, hm⟩ := dm.ex
  obtain ⟨to, po', so⟩ := ho.ex
  obtain ⟨ta, pa, sa⟩ := t.ex
  refine ⟨_, pe_me po' cl hm (G.mono hk) z.hr hb (fun σ => L2N.passAt z.tk σ) pa hst hpl ht, fun w σ H ρ Q sl po => so w σ H ρ _ sl ((Po.bind po).imp (fun d _ q v H1 hs hi => ?_) fun _ _ q => q)⟩
  obtain ⟨hd, q⟩ := Po.gd q
  obtain ⟨a, dx, fl, rfl, h1, h2⟩ := meth_is hi hd hno
  refine ⟨a, dx, fl, rfl, h1, h2, sa w σ H1 ρ _ (sl.same hs) ((Po.bind q).imp (fun ds _ q vs H2 hs2 hi2 => ?_) fun _ _ q H2 hs2 => q H2 (hs.trans hs2))⟩
  refine ⟨d :: ds, .cons ((hi.same hs2).up fun _ _ => trivial) (hi2.up fun _ _ => trivial), q.imp (fun d _ q v H' Fp hs3 hn nd ho => q v H' Fp ((hs.trans hs2).trans hs3) (fun a ha => (hs.trans hs2).free (hn a ha)) nd (ho.mono (fun a x => ⟨.inr ((hs.trans hs2).free x.1), x.2⟩) fun a o _ e => e)) fun kx _ q H' hs3 => q H' ((hs.trans hs2).trans hs3)⟩
theorem vo_me0 {F : List D → O D} {pl : Sem Bool} (z : Cz X c We k) (cl : Cls X.K (kd.cl c)) (dm : Dm X.prog X.w X.K X.mg X.base k' (kd.cl c) m (spP c rs F)) (hk : k' ≤ k) (hno : kd.no m = true) (ho : VE X c M We al o fo)
    (ht : eval (.Call (.Attribute o m apos) [] [] pos) X.env = (do
      let ov ← eval o X.env
      standAt apos.atName
      let (f, first) ← holding [ov] (getMethod ov m pl)
      callWith pos f first (backTo pos (starEach [] X.env)) (backToKw pos (keywordEach [] X.env))) := by rfl) :
    VO X c M We rs (.Call (.Attribute o m apos) [] [] pos) (eMe kd fo aNil F) := by
  obtain ⟨g, fd, ps, G, hb, hm⟩ := dm.ex
  obtain ⟨to, po', so⟩ := ho.ex
  refine ⟨_, pe_me0 po' cl hm (G.mono hk) z.hr hb (fun σ => L2N.passAt z.tk σ) ht, fun w σ H ρ Q sl po => so w σ H ρ _ sl ((Po.bind po).imp (fun d _ q v H1 hs hi => ?_) fun _ _ q => q)⟩
  obtain ⟨hd, q⟩ := Po.gd q
  obtain ⟨a, dx, fl, rfl, h1, h2⟩ := meth_is hi hd hno
  refine ⟨a, dx, fl, rfl, h1, h2, [d], .cons (hi.up fun _ _ => trivial) .nil, Po.imp (r := F [d]) q (fun d _ q v H' Fp hs3 hn nd ho => q v H' Fp (hs.trans hs3) (fun a ha => hs.free (hn a ha)) nd (ho.mono (fun a x => ⟨.inr (hs.free x.1), x.2⟩) fun a o _ e => e)) fun kx _ q H' hs3 => q H' (hs.trans hs3)⟩
/-- x.m(..), what x owns changes -/
theorem vx_me {F : List D → O Rz} {pl : Sem Bool} {n : Str} {p2 : Pos} (j : Nat) (z : Cz X c We k) (cl : Cls X.K (kd.cl c)) (dm : Dm X.prog X.w X.K X.mg X.base k' (kd.cl c) m (spM c (shs (some (j, kd.sh) :: js)) .fz F)) (hk : k' ≤ k) (hne : noExc F) (hmd : md = Mo.o ∨ md = Mo.p) (hno : kd.no m = true) (hm : M j = md kd.sh)
    (t : VAM X c md M We js (e :: es) fs) (inj : ((some (j, kd.sh) :: js).filterMap fun m => m.map (·.1)).Nodup := by decide) (hN : X.N[j]? = some n := by rfl) (hv : Vis X.env.scope n := by first | exact Or.inl rfl | exact Or.inr (Or.inl rfl) | exact Or.inr (Or.inr rfl)) (hdb : (n == ("__debug__" : Str)) = false := by decide)
    (hcd : (n == ("__classdict__" : Str)) = false := by decide) (hst : starEach (e :: es) X.env = (false, eval e X.env) :: starEach es X.env := by rfl) (hpl : (backTo pos (starEach es X.env)).any (·.1) = false := by rfl)
    (ht : eval (.Call (.Attribute (.Name n p2) m apos) (e :: es) [] pos) X.env = (do
      let ov ← eval (.Name n p2) X.env
      standAt apos.atName
      let (f, first) ← holding [ov] (getMethod ov m pl)
      callWith pos f first (backTo pos (starEach (e :: es) X.env)) (backToKw pos (keywordEach [] X.env))) := by rfl) :
    VX X c M We (.Call (.Attribute (.Name n p2) m apos) (e :: es) [] pos) (xMe kd j js fs F) := by
  obtain ⟨g, fd, ps, G, hb, hmm⟩ := dm.ex
  obtain ⟨ta, pa, sa⟩ := t.ex
  refine ⟨_, pe_me (pv j hN hv hdb hcd) cl hmm (G.mono hk) z.hr hb (fun σ => L2N.passAt z.tk σ) pa hst hpl ht, fun B σ H ρ Q R po => ?_⟩
  obtain ⟨Fs, R⟩ := R
  obtain ⟨d, er, po⟩ := po_var (i := j) (ρ := ρ) (f := fun d => gd (immIn kd.sh d) (.ok d)) (Po.bind (r := eOwn kd.sh j ρ) po)
  obtain ⟨hi, po⟩ := Po.gd po
  obtain ⟨hd, po⟩ := Po.gd po
  obtain ⟨v, e1, hsl⟩ := R.slots.2 j d er
  obtain ⟨a, dx, fl, rfl, h1, h2⟩ := meth_is hsl hd hno
  refine ⟨_, e1, a, dx, fl, rfl, h1, h2, sa B Fs σ H ρ _ R ((Po.exc_x R (Po.bind (r := fs ρ) po)).imp (fun ds _ q vs H1 hs ha => ?_) fun _ _ q => q)⟩
  exact spM_call (H0 := H) (R.same hs) hmd inj (.own e1 er hm hi ha) q (hne _)
theorem vx_me0 {F : List D → O Rz} {pl : Sem Bool} {n : Str} {p2 : Pos} (j : Nat) (z : Cz X c We k) (cl : Cls X.K (kd.cl c)) (dm : Dm X.prog X.w X.K X.mg X.base k' (kd.cl c) m (spM c [some kd.sh] .fz F)) (hk : k' ≤ k) (hne : noExc F) (hmd : md = Mo.o ∨ md = Mo.p) (hno : kd.no m = true) (hm : M j = md kd.sh)
    (hN : X.N[j]? = some n := by rfl) (hv : Vis X.env.scope n := by first | exact Or.inl rfl | exact Or.inr (Or.inl rfl) | exact Or.inr (Or.inr rfl)) (hdb : (n == ("__debug__" : Str)) = false := by decide)
    (hcd : (n == ("__classdict__" : Str)) = false := by decide)
    (ht : eval (.Call (.Attribute (.Name n p2) m apos) [] [] pos) X.env = (do
      let ov ← eval (.Name n p2) X.env
      standAt apos.atName
      let (f, first) ← holding [ov] (getMethod ov m pl)
      callWith pos f first (backTo pos (starEach [] X.env)) (backToKw pos (keywordEach [] X.env))) := by rfl) :
    VX X c M We (.Call (.Attribute (.Name n p2) m apos) [] [] pos) (xMe kd j [] aNil F) := by
  obtain ⟨g, fd, ps, G, hb, hmm⟩ := dm.ex
  refine ⟨_, pe_me0 (pv j hN hv hdb hcd) cl hmm (G.mono hk) z.hr hb (fun σ => L2N.passAt z.tk σ) ht, fun B σ H ρ Q R po => ?_⟩
  obtain ⟨Fs, R⟩ := R
  obtain ⟨d, er, po⟩ := po_var (i := j) (ρ := ρ) (f := fun d => gd (immIn kd.sh d) (.ok d)) (Po.bind (r := eOwn kd.sh j ρ) po)
  obtain ⟨hi, po⟩ := Po.gd po
  obtain ⟨hd, po⟩ := Po.gd po
  obtain ⟨v, e1, hsl⟩ := R.slots.2 j d er
  obtain ⟨a, dx, fl, rfl, h1, h2⟩ := meth_is hsl hd hno
  refine ⟨_, e1, a, dx, fl, rfl, h1, h2, ?_⟩
  exact spM_call (js := [some (j, kd.sh)]) (H0 := H) R hmd (by simp) (.own e1 er hm hi .nil) po (hne _)

/-! ### C(..) -/
def one (F : List Addr) : Nat → List Addr := fun i => if i = 0 then F else []
theorem mk_arg {H1 : Hp} {a dx : Addr} {vs : List V} {ds : List D} (ha : H1 a = none) (hdx : H1 dx = none) (hne : dx ≠ a) (hi : IsA c W H1 vs ds) (kd : Kd) :
    Same H1 (upd (upd H1 dx (.own a)) a (.ins (kd.cl c) dx [])) ∧ ArgM c (upd (upd H1 dx (.own a)) a (.ins (kd.cl c) dx [])) (some kd.sh :: ds.map fun _ => none) (.ref a :: vs) (.raw :: ds) (one [a]) := by
  have hs : Same H1 (upd (upd H1 dx (.own a)) a (.ins (kd.cl c) dx [])) := fun b o e => by
    rw [upd_ne (ne_of_none e ha), upd_ne (ne_of_none e hdx)]
    exact e
  refine ⟨hs, by simp [hi.length], by simp, fun i => ?_, fun i j b hb hb' => ?_, fun i e => ?_, fun i d e => ?_⟩
  · unfold one; split <;> simp
  · unfold one at hb hb'
    split at hb
    · split at hb'
      · omega
      · simp at hb'
    · simp at hb
  · unfold one
    split
    · rename_i hz
      subst hz
      simp [ownAt] at e
    · rfl
  · cases i with
    | zero =>
      simp at e
      subst e
      refine ⟨.ref a, rfl, ?_⟩
      show Own c _ _ kd.sh (.ref a) .raw [a]
      cases kd with
      | land => exact ⟨a, rfl, .inr ⟨dx, rfl, upd_same, rfl⟩⟩
      | pile => exact ⟨a, rfl, .inr ⟨dx, rfl, upd_same, rfl⟩⟩
    | succ i =>
      have e' : ds[i]? = some d := by simpa using e
      obtain ⟨v, ev, hv⟩ := hi.getD e'
      refine ⟨v, by simpa using ev, ?_⟩
      have hno : ownAt (some kd.sh :: ds.map fun _ => (none : Option Sh)) (i + 1) = none := by
        unfold ownAt
        rw [List.getElem?_cons_succ, List.getElem?_map, e']
        rfl
      rw [hno]
      refine (hv.track.same hs).up fun b x l => ?_
      unfold one
      split
      · intro z
        have : b = a := by simpa using z
        rw [this] at x
        exact x.2 ha
      · simp
theorem mk_after {F : List D → O Rz} {H1 : Hp} {a dx : Addr} {vs : List V} {ds : List D} {w : Wd} {Q : VK} {E : XK} (hs0 : Same H H1) (ha : H1 a = none) (hdx : H1 dx = none) (hne : dx ≠ a) (hi : IsA c W H1 vs ds) (hnx : noExc F)
    (po : Po ((F (.raw :: ds)).bind fun r => match r with
      | .rt .non (x :: _) => .ok x
      | .ex k _ => .exc k
      | _ => .bad) (fun d => ∀ v H' F, Same H H' → (∀ a ∈ F, H a = none) → F.Nodup → Own c (fun a => NW w 0 H a ∧ a ∉ F) H' kd.sh v d F → Q v H') (fun k => ∀ H', Same H H' → E k none H')) :
    spM c (some kd.sh :: ds.map fun _ => none) .fz F (.ref a :: vs) (upd (upd H1 dx (.own a)) a (.ins (kd.cl c) dx [])) (fun v H2 => v = .non ∧ Q (.ref a) H2) E := by
  obtain ⟨hs, hA⟩ := mk_arg ha hdx hne hi kd
  refine ⟨_, _, hA, (Po.bind po).imp (fun r _ q => ?_) fun k ek _ => hnx _ k ek⟩
  have fr : ∀ {H2 : Hp} {ds' : List D} {Fs' : Nat → List Addr}, AfterM c (upd (upd H1 dx (.own a)) a (.ins (kd.cl c) dx [])) H2 (some kd.sh :: ds.map fun _ => none) (.ref a :: vs) ds' (one [a]) Fs' → Same H H2 := fun A b o e => by
    have e1 := hs0 _ _ e
    refine A.fr b o (fun i z => ?_) (hs _ _ e1)
    unfold one at z
    split at z
    · have : b = a := by simpa using z
      rw [this, ha] at e1; cases e1
    · simp at z
  cases r with
  | ex k ps => exact fun H2 Fs' A => q H2 (fr A)
  | rt d ps =>
    cases d with
    | non =>
      cases ps with
      | nil => exact q.elim
      | cons x ps =>
        intro v H2 Fs' Fp A n1 n2 n3
        obtain ⟨v', d', e1, e2, e3⟩ := A.at_ 0 kd.sh rfl
        simp at e1 e2
        subst e1 e2
        refine ⟨is_non n3.2, q (.ref a) H2 (Fs' 0) (fr A) (fun b hb => ?_) (A.nd 0) (e3.mono (fun _ z => z.elim) fun _ _ _ e => e)⟩
        rcases A.new 0 b hb with ⟨i, hm⟩ | e
        · unfold one at hm
          split at hm
          · have : b = a := by simpa using hm
            rw [this]; exact hs0.free ha
          · simp at hm
        · exact hs0.free (hs.free e)
    | _ => exact q.elim
theorem vo_mk {F : List D → O Rz} (z : Cz X c We k) (di : Di X.prog X.w X.K X.mg X.base k' x (kd.cl c) (spM c (some kd.sh :: (e :: es).map fun _ => none) .fz F)) (hk : k' + 1 ≤ k) (hnx : noExc F) (t : VA X c M We 2 (e :: es) fs) (hg : Gl X x := by rfl) (hdb : (x == ("__debug__" : Str)) = false := by decide)
    (hlen : ∀ ρ ds, fs ρ = .ok ds → ds.length = (e :: es).length)
    (he : starEach (e :: es) X.env = (false, eval e X.env) :: starEach es X.env := by rfl) (hpl : (backTo pos (starEach es X.env)).any (·.1) = false := by rfl) : VO X c M We kd.sh (.Call (.Name x p) (e :: es) [] pos) (eMk fs F) := by
  obtain ⟨f, fd, ps, G, hb, mk, hm⟩ := di.ex
  obtain ⟨ta, pa, sa⟩ := t.ex
  refine ⟨_, pe_mk mk G (z.hr.mono hk) hg hm hb (fun σ => L2N.passAt z.tk σ) pa hdb he hpl, fun w σ H ρ Q sl po => sa w σ H ρ _ sl ((Po.bind po).imp (fun ds ed q vs H1 hs hi => ?_) fun _ _ q => q)⟩
  intro a dx ha hdx hne
  have hl : (ds.map fun _ => (none : Option Sh)) = (e :: es).map fun _ => none := by
    rw [List.map_const', List.map_const', hlen ρ ds ed]
  rw [← hl]
  exact mk_after hs ha hdx hne hi hnx q
theorem vo_mk0 {F : List D → O Rz} (z : Cz X c We k) (di : Di X.prog X.w X.K X.mg X.base k' x (kd.cl c) (spM c [some kd.sh] .fz F)) (hk : k' + 1 ≤ k) (hnx : noExc F) (hg : Gl X x := by rfl) (hdb : (x == ("__debug__" : Str)) = false := by decide) : VO X c M We kd.sh (.Call (.Name x p) [] [] pos) (eMk aNil F) := by
  obtain ⟨f, fd, ps, G, hb, mk, hm⟩ := di.ex
  refine ⟨_, pe_mk0 mk G (z.hr.mono hk) hg hm hb (fun σ => L2N.passAt z.tk σ) hdb, fun w σ H ρ Q sl po => ?_⟩
  intro a dx ha hdx hne
  exact mk_after (W := fun _ => True) (vs := []) (ds := []) (Same.refl H) ha hdx hne .nil hnx po
/-- self.row = [] -/
theorem vs_pile0 {n : Str} {p1 q1 r1 r2 : Pos} (i : Nat) (pk : PileK X.K c.CP) (hm : M i = .p .pile) (hN : X.N[i]? = some n := by rfl) (hv : Vis X.env.scope n := by first | exact Or.inl rfl | exact Or.inr (Or.inl rfl) | exact Or.inr (Or.inr rfl))
    (hd : (n == ("__debug__" : Str)) = false := by decide) (hcd : (n == ("__classdict__" : Str)) = false := by decide) (s1 : swapsWith (.List [] r2) (some (.Attribute (.Name n p1) "row" q1)) r1.line X.env = pure false := by rfl) :
    VSt X c We rs Ml M M (.Assign [.Attribute (.Name n p1) "row" q1] (.List [] r2) r1) (sPile0 i) := by
  refine ⟨_, ps_fld (pv i hN hv hd hcd) (pe_lst pa_nil) s1, fun B σ H ρ D R po => ?_⟩
  obtain ⟨Fs, R⟩ := R
  obtain ⟨x, er0, q⟩ := po_var (i := i) (ρ := ρ) po
  obtain ⟨rfl, q⟩ := po_raw q
  obtain ⟨v0, e0, hsat⟩ := R.sl i _ er0
  rw [hm] at hsat
  obtain ⟨qa, rfl, ⟨_, _, _, _, ed, _⟩ | ⟨dx, _, hq, hF⟩⟩ := hsat
  · cases ed
  have hil : i < ρ.length := (List.getElem?_eq_some_iff.mp er0).1
  refine ⟨Nat.zero_le _, fun r hr => ?_⟩
  have rq : r ≠ qa := fun z => by rw [z, hq] at hr; cases hr
  refine ⟨_, e0, qa, c.CP, dx, [], rfl, by rw [upd_ne (Ne.symm rq)]; exact hq, pk.cl, pk.nW, by decide, q σ _ ?_⟩
  have hown : Own c (fun _ => False) (upd (upd H r (.lst [])) qa (.ins c.CP dx (putF "row" (.ref r) []))) .pile (.ref qa) (.pile []) [qa, r] :=
    ⟨qa, rfl, .inl ⟨dx, r, [], [], rfl, upd_same, by rw [upd_ne rq, upd_same], .nil, rfl⟩⟩
  refine ⟨_, R.put (i := i) (F' := [qa, r]) (fun a o ha ea => ?_) (fun a ea => ?_) (by simp [Ne.symm rq]) (fun a ha => ?_) (fun a ha => hown.there a ha) (fun _ _ => rfl) (fun j hj => List.getElem?_set_ne (Ne.symm hj)) (by simp [R.len]) (fun p hp ep => by have := (R.mp p hp).1; rw [ep] at this; exact this) (fun s hs => R.own i s hs) fun d2 e2 => ?_⟩
  · rw [upd_ne (fun z => ha (by rw [hF, z]; simp)), upd_ne (ne_of_none ea hr)]; exact ea
  · by_cases h : a = qa
    · rw [h, upd_same] at ea; cases ea
    · rw [upd_ne h] at ea
      by_cases h2 : a = r
      · rw [h2]; exact hr
      · rw [upd_ne h2] at ea; exact ea
  · have : a = qa ∨ a = r := by simpa using ha
    rcases this with e | e
    · exact .inl (by rw [hF, e]; simp)
    · exact .inr (by rw [e]; exact hr)
  · rw [List.getElem?_set_self hil] at e2
    cases e2
    refine ⟨_, e0, ?_⟩
    rw [hm]
    exact hown
end
end VS
set_option Elab.async false
set_option linter.all false
set_option maxRecDepth 100000
set_option maxHeartbeats 2000000
/-! VU: further rules; the classes' facts. -/
namespace VS
open PySem L2

/-- x.append(e), e an own thing -/
def sAppO (i : Nat) (f : EF) : SF := fun ρ => (eVar i ρ).bind fun x => (lstD x).bind fun l => (f ρ).bind fun d => gd (decide (l.length < 100000)) (.ok (.nx (ρ.set i (some (.lst (l ++ [d]))))))
def max2D : D → D → O D
  | .int i, .int j => .ok (.int (if j > i then j else i))
  | _, _ => .bad
def min2D : D → D → O D
  | .int i, .int j => .ok (.int (if j < i then j else i))
  | _, _ => .bad
def absD : D → O D
  | .int i => .ok (.int (if i < 0 then -i else i))
  | _ => .bad
section
variable {c : Ct} {M M' M1 Ml : Nat → Mo} {B : Bs} {H H' : Hp} {σ : L2.St} {ρ : Rho} {X : Cx} {We : WX} {k k' al al' al'' i j : Nat} {rs : Sh} {a b e o : Expr} {es : List Expr} {f fa fb fo : EF} {fs : AF} {pos apos p : Pos} {W W' : Addr → Prop}
theorem vs_appO {x : Str} {s : Sh} {p2 apos cpos : Pos} (i : Nat) (h : VO X c M We s e f) (hm : M i = .o (.l s)) (hN : X.N[i]? = some x := by rfl) (hv : Vis X.env.scope x := by first | exact Or.inl rfl | exact Or.inr (Or.inl rfl) | exact Or.inr (Or.inr rfl)) (hd : (x == ("__debug__" : Str)) = false := by decide)
    (hcd : (x == ("__classdict__" : Str)) = false := by decide) (hbase : attributeBase (.Name x p2) "append" X.env (eval (.Name x p2) X.env) = eval (.Name x p2) X.env := by rfl)
    (hfew : ((backTo cpos (starEach (e :: []) X.env)).all (fun x => !x.1) && (backToKw cpos (keywordEach [] X.env)).all (fun x => x.1.isSome) && decide ((e :: []).length + ([] : List Keyword).length + (if ([] : List Keyword).isEmpty then 0 else 1) < 30)) = true := by rfl)
    (hline : (apos.endLine == cpos.line) = true := by rfl) (he : starEach (e :: []) X.env = (false, eval e X.env) :: starEach [] X.env := by rfl) (hpl : (backTo cpos (starEach [] X.env)).any (·.1) = false := by rfl)
    (hs : swapsWith (.Call (.Attribute (.Name x p2) "append" apos) [e] [] cpos) none pos.line X.env = pure false := by rfl) :
    VSt X c We rs Ml M M (.Expr (.Call (.Attribute (.Name x p2) "append" apos) [e] [] cpos) pos) (sAppO i f) := by
  obtain ⟨te, p, so⟩ := h.ex
  refine ⟨_, ps_expr (pe_bm PySem.F.plainAttrs_list PySem.F.slot_list_append PySem.F.type_list_append mt_append (pv i hN hv hd hcd) (pa_cons p pa_nil he) hbase hfew hline he hpl) hs, fun B σ H ρ D R po => ?_⟩
  obtain ⟨Fs, R⟩ := R
  obtain ⟨ds, er, po⟩ := po_lst po
  obtain ⟨p0, xs, Gs, h1, hp, h3, eF, keep, put⟩ := R.lst hm er
  refine ⟨_, h1, .inl ⟨rfl, xs, .of hp⟩, so _ σ H ρ _ R.slots ((Po.exc_up R (Po.bind po)).imp (fun d _ q v H' F hs hn nd ho => ?_) fun _ _ q => q)⟩
  obtain ⟨hz, q⟩ := Po.gd q
  have fl : (Gs ++ [F]).flatten = Gs.flatten ++ F := by simp
  have pF : p0 ∉ F := fun z => by have := hn p0 z; rw [hp] at this; cases this
  have gF : ∀ a ∈ Gs.flatten, a ∉ F := fun a ha z => by
    obtain ⟨o, e', _⟩ := R.th i a (by rw [eF]; exact List.mem_cons_of_mem _ ha)
    rw [hn a z] at e'; cases e'
  refine ⟨p0, xs, v, rfl, rfl, hs _ _ hp, Nat.lt_of_lt_of_le (by rw [h3.length.1]; exact of_decide_eq_true hz) (by decide : 100000 ≤ sizeLine), q σ _ ⟨_, put H' (xs ++ [v]) (ds ++ [d]) (Gs ++ [F]) hs ?_ ?_ ?_⟩⟩
  · have sub : ∀ a, (wd B Fs).n a → a ∉ F → (wd B (fset Fs i (p0 :: (Gs ++ [F]).flatten))).n a := fun a x y => ⟨fun l z => by
      by_cases hl : l = i
      · rw [hl, fset_self, fl] at z
        rcases List.mem_cons.mp z with z | z
        · exact x.1 i (by rw [eF, z]; simp)
        · rcases List.mem_append.mp z with z | z
          · exact x.1 i (by rw [eF]; exact List.mem_cons_of_mem _ z)
          · exact y z
      · rw [fset_ne hl] at z; exact x.1 l z, x.2⟩
    refine (h3.imp fun v d G hG ho => keep H' _ _ v d G hs hG (fun a x hne => sub a x fun z => hne (hn a z)) ho).append (.cons ?_ .nil)
    refine ho.mono (fun a x => ?_) fun a o x ea => ?_
    · refine sub a ?_ x.2
      rcases x.1 with y | y
      · exact y
      · exact ⟨R.newNot y, R.old a y⟩
    · have hap : a ≠ p0 := by
        intro z
        subst z
        rcases x with x | x | x
        · rcases x.1 with y | y
          · exact y.1 i (by rw [eF]; simp)
          · rw [hp] at y; cases y
        · exact pF x
        · rw [hs _ _ hp] at ea; cases ea; exact x
      rw [upd_ne hap]; exact ea
  · rw [fl]
    have nd1 := R.nd i
    rw [eF] at nd1
    have nd2 := List.nodup_cons.mp nd1
    refine List.nodup_cons.mpr ⟨fun z => ?_, List.nodup_append.mpr ⟨nd2.2, nd, fun a ha b hb e => gF a ha (by rw [e]; exact hb)⟩⟩
    rcases List.mem_append.mp z with z | z
    · exact nd2.1 z
    · exact pF z
  · intro a ha
    rw [fl] at ha
    rcases List.mem_append.mp ha with z | z
    · exact .inl z
    · exact .inr (hn a z)
theorem vo_lst0 {s : Sh} : VO X c M We (.l s) (.List [] pos) (eLst aNil) := by
  refine ⟨_, pe_lst pa_nil, fun w σ H ρ Q sl po => ?_⟩
  refine ⟨Nat.zero_le _, fun p hp => ?_⟩
  have hn : ∀ a ∈ [p], H a = none := fun a ha => by
    have e : a = p := by simpa using ha
    rw [e]; exact hp
  exact po _ _ [p] (same_new (Same.refl _) hp) hn (by simp) ⟨p, [], [], [], rfl, rfl, upd_same, .nil, rfl⟩
theorem ve_max2 {p : Pos} (z : Cz X c We k) (ha : VE X c M We al a fa) (hb : VE X c M We al' b fb) (hg : Gl X "max") (hm : X.mg "max" = none) (hs : starEach [a, b] X.env = (false, eval a X.env) :: starEach [b] X.env := by rfl) (hs1 : starEach [b] X.env = (false, eval b X.env) :: starEach [] X.env := by rfl)
    (hpl : (backTo pos (starEach [b] X.env)).any (·.1) = false := by rfl) : VE X c M We 0 (.Call (.Name "max" p) [a, b] [] pos) (e2 max2D fa fb) := by
  obtain ⟨ta, pa, sa⟩ := ha.ex
  obtain ⟨tb, pb, sb⟩ := hb.ex
  refine ⟨_, pe_callB (call_max2 z.calm) hg hm (by decide +kernel) (pa_cons pa (pa_cons pb pa_nil hs1) hs) (by decide) (by decide) hs hpl, fun w σ H ρ Q sl po => sa w σ H ρ _ sl ((Po.bind po).imp (fun d _ q v H1 hs hi => ?_) fun _ _ q => q)⟩
  refine sb w σ H1 ρ _ (sl.same hs) ((Po.bind q).imp (fun d2 _ q v2 H2 hs2 hi2 => ?_) fun _ _ q H2 hs2 => q H2 (hs.trans hs2))
  cases d with
  | int i =>
    cases d2 with
    | int j => exact ⟨i, j, by rw [is_int hi, is_int hi2], q _ H2 (hs.trans hs2) (.int _)⟩
    | _ => exact q.elim
  | _ => cases d2 <;> exact q.elim
theorem ve_min2 {p : Pos} (z : Cz X c We k) (ha : VE X c M We al a fa) (hb : VE X c M We al' b fb) (hg : Gl X "min") (hm : X.mg "min" = none) (hs : starEach [a, b] X.env = (false, eval a X.env) :: starEach [b] X.env := by rfl) (hs1 : starEach [b] X.env = (false, eval b X.env) :: starEach [] X.env := by rfl)
    (hpl : (backTo pos (starEach [b] X.env)).any (·.1) = false := by rfl) : VE X c M We 0 (.Call (.Name "min" p) [a, b] [] pos) (e2 min2D fa fb) := by
  obtain ⟨ta, pa, sa⟩ := ha.ex
  obtain ⟨tb, pb, sb⟩ := hb.ex
  refine ⟨_, pe_callB (call_min2 z.calm) hg hm (by decide +kernel) (pa_cons pa (pa_cons pb pa_nil hs1) hs) (by decide) (by decide) hs hpl, fun w σ H ρ Q sl po => sa w σ H ρ _ sl ((Po.bind po).imp (fun d _ q v H1 hs hi => ?_) fun _ _ q => q)⟩
  refine sb w σ H1 ρ _ (sl.same hs) ((Po.bind q).imp (fun d2 _ q v2 H2 hs2 hi2 => ?_) fun _ _ q H2 hs2 => q H2 (hs.trans hs2))
  cases d with
  | int i =>
    cases d2 with
    | int j => exact ⟨i, j, by rw [is_int hi, is_int hi2], q _ H2 (hs.trans hs2) (.int _)⟩
    | _ => exact q.elim
  | _ => cases d2 <;> exact q.elim
/-- f(..).clear(): a list that nobody else has -/
theorem vs_freshClear {s : Sh} {cpos : Pos} (h : VO X c M We (.l s) e f) (hbase : attributeBase e "clear" X.env (eval e X.env) = eval e X.env := by rfl) (hline : (apos.endLine == cpos.line) = true := by rfl)
    (hs : swapsWith (.Call (.Attribute e "clear" apos) [] [] cpos) none pos.line X.env = pure false := by rfl) : VSt X c We rs Ml M M (.Expr (.Call (.Attribute e "clear" apos) [] [] cpos) pos) (sDrop f) := by
  obtain ⟨te, p, so⟩ := h.ex
  refine ⟨_, ps_expr (pe_bm0 PySem.F.plainAttrs_list PySem.F.slot_list_clear PySem.F.type_list_clear mt_clear p hbase hline) hs, fun B σ H ρ D R po => ?_⟩
  obtain ⟨Fs, R⟩ := R
  refine so _ σ H ρ _ R.slots ((Po.exc_up R (Po.bind po)).imp (fun d _ q v H' F hs hn nd ho => ?_) fun _ _ q => q)
  obtain ⟨a, xs, ds, Gs, rfl, rfl, ha, _, eF⟩ := ho
  have hna : H a = none := hn a (by rw [eF]; simp)
  refine ⟨.inl ⟨rfl, xs, .of ha⟩, a, xs, rfl, rfl, ha, q σ _ ⟨Fs, R.same fun b o eb => ?_⟩⟩
  rw [upd_ne (ne_of_none eb hna)]
  exact hs b o eb
def sFreshApp (f g : EF) : SF := fun ρ => (f ρ).bind fun x => (lstD x).bind fun l => (g ρ).bind fun _ => gd (decide (l.length < 100000)) (.ok (.nx ρ))
theorem vs_freshApp {s : Sh} {cpos : Pos} (h : VO X c M We (.l s) e f) (hv : VE X c M We al a fa) (hbase : attributeBase e "append" X.env (eval e X.env) = eval e X.env := by rfl)
    (hfew : ((backTo cpos (starEach (a :: []) X.env)).all (fun x => !x.1) && (backToKw cpos (keywordEach [] X.env)).all (fun x => x.1.isSome) && decide ((a :: []).length + ([] : List Keyword).length + (if ([] : List Keyword).isEmpty then 0 else 1) < 30)) = true := by rfl)
    (hline : (apos.endLine == cpos.line) = true := by rfl) (he : starEach (a :: []) X.env = (false, eval a X.env) :: starEach [] X.env := by rfl) (hpl : (backTo cpos (starEach [] X.env)).any (·.1) = false := by rfl)
    (hs : swapsWith (.Call (.Attribute e "append" apos) [a] [] cpos) none pos.line X.env = pure false := by rfl) : VSt X c We rs Ml M M (.Expr (.Call (.Attribute e "append" apos) [a] [] cpos) pos) (sFreshApp f fa) := by
  obtain ⟨te, p, so⟩ := h.ex
  obtain ⟨ta, pa, sa⟩ := hv.ex
  refine ⟨_, ps_expr (pe_bm PySem.F.plainAttrs_list PySem.F.slot_list_append PySem.F.type_list_append mt_append p (pa_cons pa pa_nil he) hbase hfew hline he hpl) hs, fun B σ H ρ D R po => ?_⟩
  obtain ⟨Fs, R⟩ := R
  refine so _ σ H ρ _ R.slots ((Po.exc_up R (Po.bind po)).imp (fun d _ q v H' F hs hn nd ho => ?_) fun _ _ q => q)
  obtain ⟨q0, xs, ds, Gs, rfl, rfl, ha, h3, eF⟩ := ho
  have hna : H q0 = none := hn q0 (by rw [eF]; simp)
  have R1 := R.same hs
  replace q : Po ((fa ρ).bind fun _ => gd (decide (ds.length < 100000)) (.ok (Out.nx ρ))) _ _ := q
  refine ⟨.inl ⟨rfl, xs, .of ha⟩, sa _ σ H' ρ _ R1.slots ((Po.exc_up R1 (Po.bind q)).imp (fun d2 _ q v2 H2 hs2 hi2 => ?_) fun _ _ q => q)⟩
  obtain ⟨hz, q⟩ := Po.gd q
  refine ⟨q0, xs, v2, rfl, rfl, hs2 _ _ ha, Nat.lt_of_lt_of_le (by rw [h3.length.1]; exact of_decide_eq_true hz) (by decide : 100000 ≤ sizeLine), q σ _ ⟨Fs, R.same fun b o eb => ?_⟩⟩
  rw [upd_ne (ne_of_none eb hna)]
  exact hs2 b o (hs b o eb)
theorem aLen1 {f : EF} {ρ : Rho} {ds : List D} (h : aCons f aNil ρ = .ok ds) : ds.length = 1 := by
  unfold aCons aNil at h
  cases h1 : f ρ with
  | bad => rw [h1] at h; cases h
  | exc k => rw [h1] at h; cases h
  | ok d => rw [h1] at h; cases h; rfl
end

/-! ### the facts of the classes -/
class Exs where
  LandError : Addr
  NoLand : Addr
  NoHeight : Addr
  NoCell : Addr
  NoDrain : Addr
  NoWay : Addr
  NoRain : Addr
theorem landK_mk {K : PySem.W.Frag} {C : Addr} (pg : PySem.W.plainGet K C Str.empty = true) (hd : PySem.W.hasDictIn K C = true) (po : PySem.W.plainOver K C = true) (sa : PySem.W.findIn K (.ref C) "__setattr__" = some (some (.builtin "object.__setattr__")))
    (g : PySem.W.findIn K (.ref C) "grid" = some none) (r : PySem.W.findIn K (.ref C) "rows" = some none) (c : PySem.W.findIn K (.ref C) "columns" = some none) (o : PySem.W.findIn K (.ref C) "open_at" = some none) : LandK K C := ⟨⟨pg, hd, po, sa⟩, g, r, c, o⟩
theorem pileK_mk {K : PySem.W.Frag} {C : Addr} (pg : PySem.W.plainGet K C Str.empty = true) (hd : PySem.W.hasDictIn K C = true) (po : PySem.W.plainOver K C = true) (sa : PySem.W.findIn K (.ref C) "__setattr__" = some (some (.builtin "object.__setattr__")))
    (w : PySem.W.findIn K (.ref C) "row" = some none) : PileK K C := ⟨⟨pg, hd, po, sa⟩, w⟩
structure FactM (K : PySem.W.Frag) (C : Addr) (m qual : Str) (st : Stmt) (ps : List Str) : Prop where
  ex : ∃ f fd, Fun K m qual st f fd ∧ Meth K C m f ∧ Binds K fd ps []
structure FactI (K : PySem.W.Frag) (mg : Str → Option Value) (x : Str) (C : Addr) (qual : Str) (st : Stmt) (ps : List Str) : Prop where
  ex : ∃ f fd, Fun K "__init__" qual st f fd ∧ Mk K C f ∧ mg x = some (.ref C) ∧ Binds K fd ps []
theorem factM_mk {K : PySem.W.Frag} {C f : Addr} {m qual : Str} {st : Stmt} {ps : List Str} {oc : Value} {od an : Option Addr} {osl : Array (Option Value)} {kV doc pm cdv ct : Value} (hb : ∀ {fd : FuncData}, Fun K m qual st f fd → Binds K fd ps [])
    (a : PySem.W.findIn K (.ref C) m = some (some (.ref f))) (i : PySem.W.isFn K (.ref f) = true) (l : K.lookup f = some ⟨oc, od, .func (PySem.W.fnOf m qual (defArgs st) (defBody st) (defScope st) .none kV doc pm an cdv ct), osl⟩)
    (c : PySem.W.codeIn K cdv qual = true) (kp : PySem.W.keepIn K (.ref f) = true) : FactM K C m qual st ps := ⟨f, _, fun_mk l c kp, ⟨a, i, kp⟩, hb (fun_mk l c kp)⟩
theorem factI_mk {K : PySem.W.Frag} {mg : Str → Option Value} {x : Str} {C f : Addr} {qual : Str} {st : Stmt} {ps : List Str} {oc : Value} {od an : Option Addr} {osl : Array (Option Value)} {kV doc pm cdv ct : Value} (hb : ∀ {fd : FuncData}, Fun K "__init__" qual st f fd → Binds K fd ps [])
    (hm : mg x = some (.ref C)) (mk : PySem.W.makesIn K C = true) (a : PySem.W.findIn K (.ref C) "__init__" = some (some (.ref f))) (i : PySem.W.isFn K (.ref f) = true) (kC : PySem.W.keepIn K (.ref C) = true)
    (l : K.lookup f = some ⟨oc, od, .func (PySem.W.fnOf "__init__" qual (defArgs st) (defBody st) (defScope st) .none kV doc pm an cdv ct), osl⟩) (c : PySem.W.codeIn K cdv qual = true) (kp : PySem.W.keepIn K (.ref f) = true) : FactI K mg x C qual st ps :=
  ⟨f, _, fun_mk l c kp, ⟨mk, a, i, kC⟩, hm, hb (fun_mk l c kp)⟩
end VS
set_option Elab.async false
set_option linter.all false
set_option maxRecDepth 100000
set_option maxHeartbeats 2000000
/-! VY: the order of data. -/
namespace VS
open PySem L2

def rLtA (K : PySem.W.Frag) : R2 := fun x y H Q => ∃ d e, Dp K H x d ∧ Dp K H y e ∧ PySem.W.alike d e = true ∧ d ≠ .none ∧ d.depth ≤ 60 ∧ Q (.bl (PySem.W.dataLt d e)) H
theorem op_ltA {X : Cx} (hu : X.A.units + 64 < cLine) : OpR X (compareOp .Lt) (rLtA X.K) := by
  intro pins s σ H x y v u Q I rx ry h
  obtain ⟨d, e, hd, he, ha, hn, hdp, q⟩ := h
  obtain ⟨as, r1⟩ := Dp.reads I d x v hd rx
  obtain ⟨bs, r2⟩ := Dp.reads I e y u he ry
  have m : min d.depth e.depth ≤ d.depth := Nat.min_le_left _ _
  have R := PySem.W.rcLt_alike d e X.A s v u as bs r1 r2 ha hn (by omega)
  have z : wpAny (model X.prog X.w) X.A (compareOp .Lt v u) (EP X pins σ Q) X.xe s := R X.prog X.w X.xe (EP X pins σ Q) ⟨.bl _, H, I, rfl, q⟩
  exact z
/-- x < y, of alike data -/
def ltA (x y : D) : O D := gd (PySem.W.alike (toPy x) (toPy y) && (toPy x).canLay0 && (toPy y).canLay0 && decide ((toPy x).depth ≤ 60) && (match x with
  | .non => false
  | .dct _ => false
  | _ => true)) (.ok (.bl (PySem.W.dataLt (toPy x) (toPy y))))
theorem rs_ltA {c : Ct} : RS c (rLtA c.K) ltA := by
  intro W W' x y dx dy H Q E hx hy po
  obtain ⟨hl, po⟩ := Po.gd po
  rw [Bool.and_eq_true, Bool.and_eq_true, Bool.and_eq_true, Bool.and_eq_true, decide_eq_true_eq] at hl
  obtain ⟨⟨⟨⟨h1, h2⟩, h3⟩, h4⟩, h5⟩ := hl
  refine ⟨_, _, hx.dp h2, hy.dp h3, h1, ?_, h4, po _ H (Same.refl H) fun _ => .bl _⟩
  intro e
  cases dx <;> simp at e h5
section
variable {X : Cx} {c : Ct} {M : Nat → Mo} {We : WX} {al al' k : Nat} {a b : Expr} {fa fb : EF} {pos : Pos}
theorem ve_ltA (z : Cz X c We k) (ha : VE X c M We al a fa) (hb : VE X c M We al' b fb) : VE X c M We 0 (.Compare a [.Lt] [b] pos) (e2 ltA fa fb) := ve_cmp (op_ltA z.hr.units) (by rw [z.K]; exact rs_ltA) ha hb (nomark _)
theorem vt_ltA (z : Cz X c We k) (ha : VE X c M We al a fa) (hb : VE X c M We al' b fb) : VT X c M We (.Compare a [.Lt] [b] pos) (tE (e2 ltA fa fb)) := vt_cmp (op_ltA z.hr.units) (by rw [z.K]; exact rs_ltA) ha hb (nomark _)
end

/-! ### a[lo:hi] of a list -/
def cutD (l : List D) (lo hi : Option Int) : List D := (l.drop (HT.sIx l.length 0 lo)).take (HT.sIx l.length l.length hi - HT.sIx l.length 0 lo)
def pNo : Rho → O (Option Int) := fun _ => .ok none
def pSo (f : EF) : Rho → O (Option Int) := fun ρ => (f ρ).bind fun d => match d with
  | .int i => .ok (some i)
  | _ => .bad
def eSl (fa : EF) (pl ph : Rho → O (Option Int)) : EF := fun ρ => (fa ρ).bind fun d => (lstD d).bind fun l => (pl ρ).bind fun lo => (ph ρ).bind fun hi => gd (immA l) (.ok (.lst (cutD l lo hi)))
structure VPo (X : Cx) (c : Ct) (M : Nat → Mo) (We : WX) (e : Option Expr) (f : Rho → O (Option Int)) : Prop where
  ex : ∃ t, PO X e t ∧ ∀ (w : Wd) (σ : L2.St) (H : Hp) (ρ : Rho) (Q : Option Int → Hp → Prop), Sl c M w H σ ρ → Po (f ρ) (fun o => ∀ H', Same H H' → Q o H') (fun k => ∀ H', Same H H' → We k none σ H') → t σ H Q
section
variable {X : Cx} {c : Ct} {M : Nat → Mo} {We : WX} {al al' k : Nat} {a b e : Expr} {f fa fb : EF} {pos p2 : Pos} {lo hi : Option Expr} {pl ph : Rho → O (Option Int)}
theorem vpo_no : VPo X c M We none pNo := ⟨_, po_none, fun w σ H ρ Q sl po => po H (Same.refl H)⟩
theorem vpo_so (h : VE X c M We al e f) : VPo X c M We (some e) (pSo f) := by
  obtain ⟨te, p, s⟩ := h.ex
  refine ⟨_, po_some p, fun w σ H ρ Q sl po => s w σ H ρ _ sl ((Po.bind po).imp (fun d _ q v H1 hs hi => ?_) fun _ _ q => q)⟩
  cases d with
  | int i => exact ⟨i, is_int hi, q H1 hs⟩
  | _ => exact q.elim
theorem vo_slice (z : Cz X c We k) (ha : VE X c M We al a fa) (hl : VPo X c M We lo pl) (hh : VPo X c M We hi ph) : VO X c M We (.l .fz) (.Subscript a (.Slice lo hi none p2) pos) (eSl fa pl ph) := by
  obtain ⟨ta, pa, sa⟩ := ha.ex
  obtain ⟨tl, pl', sl'⟩ := hl.ex
  obtain ⟨th, ph', sh⟩ := hh.ex
  refine ⟨_, pe_slice sl_list pa pl' ph', fun w σ H ρ Q sl po => sa w σ H ρ _ sl ((Po.bind po).imp (fun d _ q v H1 hs1 hi1 => ?_) fun _ _ q => q)⟩
  cases d with
  | lst l =>
    replace q : Po ((pl ρ).bind fun lo => (ph ρ).bind fun hi => gd (immA l) (.ok (D.lst (cutD l lo hi)))) _ _ := q
    refine sl' w σ H1 ρ _ (sl.same hs1) ((Po.bind q).imp (fun o1 _ q H2 hs2 => ?_) fun _ _ q H' hs => q H' (hs1.trans hs))
    refine sh w σ H2 ρ _ ((sl.same hs1).same hs2) ((Po.bind q).imp (fun o2 _ q H3 hs3 => ?_) fun _ _ q H' hs => q H' ((hs1.trans hs2).trans hs))
    obtain ⟨hd, q⟩ := Po.gd q
    have hs13 := hs2.trans hs3
    obtain ⟨p, xs, rfl, h1, h2⟩ := is_lst (hi1.same hs13)
    refine ⟨p, xs, rfl, by rw [z.K]; exact h1, fun q' hq' => ?_⟩
    have hcut : IsA c (NW w al H) H3 (cutV xs o1 o2) (cutD l o1 o2) := by
      unfold cutV cutD
      rw [h2.length]
      exact (h2.drop _).take _
    have hdc : immA (cutD l o1 o2) = true := by
      have : ∀ (l : List D), immA l = l.all D.imm := fun l => by induction l with
        | nil => simp
        | cons d l ih => rw [immA_cons, ih, List.all_cons]
      rw [this] at hd ⊢
      rw [List.all_eq_true] at hd ⊢
      intro x hx
      unfold cutD at hx
      exact hd x (List.mem_of_mem_drop (List.mem_of_mem_take hx))
    obtain ⟨o1', o2', o3', o4'⟩ := own_new (w := w) (hs1.trans hs13) hq' hcut hdc
    exact q _ _ [q'] o1' o2' o3' o4'
  | _ => exact q.elim
end

/-! ### tuple(x) -/
def tupD : D → O D
  | .lst l => .ok (.tup l)
  | .tup l => .ok (.tup l)
  | _ => .bad
section
variable {X : Cx} {c : Ct} {M : Nat → Mo} {We : WX} {al k : Nat} {e : Expr} {f : EF} {pos : Pos}
theorem ve_tupc {p : Pos} (z : Cz X c We k) (h : VE X c M We al e f) (hg : Gl X "tuple") (hm : X.mg "tuple" = none) (hs : starEach [e] X.env = (false, eval e X.env) :: starEach [] X.env := by rfl) (hpl : (backTo pos (starEach [] X.env)).any (·.1) = false := by rfl) :
    VE X c M We al (.Call (.Name "tuple" p) [e] [] pos) (e1 tupD f) := by
  obtain ⟨te, pe, s⟩ := h.ex
  refine ⟨_, pe_callTy call_tuple_of hg hm (by decide +kernel) (pa_cons pe pa_nil hs) (by decide) (by decide) hs hpl, fun w σ H ρ Q sl po => s w σ H ρ _ sl ((Po.bind po).imp (fun d _ q v H1 hs1 hi => ?_) fun _ _ q => q)⟩
  cases d with
  | lst l =>
    obtain ⟨a, xs, rfl, h1, h2⟩ := is_lst hi
    refine ⟨a, xs, rfl, .inl ⟨by rw [z.K]; exact h1, fun p hp => ?_⟩⟩
    exact q _ _ (same_new hs1 hp) (.tup upd_same (h2.same (same_new (Same.refl _) hp)))
  | tup l =>
    obtain ⟨a, xs, rfl, h1, h2⟩ := is_tup hi
    exact ⟨a, xs, rfl, .inr ⟨.of h1, q _ H1 hs1 (.tup h1 h2)⟩⟩
  | _ => exact q.elim
end

/-! ### min of a list -/
theorem minD_mem (x : PyData) (xs : List PyData) : PySem.W.minD x xs ∈ x :: xs := by
  unfold PySem.W.minD
  induction xs generalizing x with
  | nil => simp
  | cons y ys ih =>
    rw [List.foldl_cons]
    rcases List.mem_cons.mp (ih (if PySem.W.dataLt y x then y else x)) with h | h
    · rw [h]
      split <;> simp
    · exact List.mem_cons_of_mem _ (List.mem_cons_of_mem _ h)
def rMinA (K : PySem.W.Frag) : List V → Hp → VK → Prop := fun vs H Q => ∃ (a : Addr) (xs : List V) (d : PyData) (ds : List PyData), vs = [.ref a] ∧ SqL K H a xs ∧ DpAll K H xs (d :: ds) ∧ PySem.W.AlikeAll (d :: ds) ∧ PyData.depthAll (d :: ds) ≤ 60 ∧
  ∀ (i : Nat) (v : V), xs[i]? = some v → (d :: ds)[i]? = some (PySem.W.minD d ds) → Q v H
theorem call_minA {X : Cx} (hc : X.calm = true) (hu : X.A.units + 64 < cLine) : CallR X (.builtin "min") (rMinA X.K) := by
  intro pins s σ H vs us Q I r h
  obtain ⟨a, xs, d, ds, rfl, hs, hdp, hal, hdep, q⟩ := h
  obtain ⟨its, rv, hl, hz⟩ := I.list hs
  obtain ⟨u, rfl, ru⟩ := vals1 r
  obtain rfl : u = Value.ref a := ru
  obtain ⟨as, hr⟩ := Dp.readsAll I (d :: ds) xs its hdp rv
  refine PySem.W.min_list_data (I.ok.hd hc) hl.isList (by simpa using hr) hal (by omega) fun i v h' tk bs hv hrd hk => ?_
  have hv' : its[i]? = some v := by simpa using hv
  obtain ⟨x, hx, rx⟩ : ∃ x, xs[i]? = some x ∧ RelV x v := by
    have : ∀ {xs : List V} {us : List Value} {i : Nat} {u : Value}, Vals xs us → us[i]? = some u → ∃ x, xs[i]? = some x ∧ RelV x u := by
      intro xs us i u h
      induction h generalizing i with
      | nil => intro e; simp at e
      | cons r t ih =>
        intro e
        cases i with
        | zero => simp at e; subst e; exact ⟨_, rfl, r⟩
        | succ i =>
          obtain ⟨x, h1, h2⟩ := ih (by simpa using e)
          exact ⟨x, by simpa using h1, h2⟩
    exact this rv hv'
  obtain ⟨cs, hrd2, hlt, hmem, _⟩ := PySem.W.readsAll_at hr i v hv'
  have e : (d :: ds).getD i .none = PySem.W.minD d ds := PySem.W.alike_unique _ _ _ _ _ (hal.1 _ hmem _ (minD_mem d ds)) (PySem.W.reads_keeps hk hrd2) hrd
  refine ⟨x, H, I.kept (t' := tk) hk, rx, q i x hx ?_⟩
  rw [← e, List.getD_eq_getElem?_getD, List.getElem?_eq_getElem hlt]
  rfl
mutual
theorem toPy_inj : ∀ {a b : D}, a.imm = true → b.imm = true → toPy a = toPy b → a = b
  | .non, b, _, hb, e => by cases b <;> simp at hb e ⊢
  | .bl x, b, _, hb, e => by cases b <;> simp at hb e ⊢; exact e
  | .int x, b, _, hb, e => by cases b <;> simp at hb e ⊢; exact e
  | .str x, b, _, hb, e => by cases b <;> simp at hb e ⊢; exact e
  | .tup l, b, ha, hb, e => by
    cases b with
    | tup l' =>
      rw [imm_tup] at ha hb
      rw [toPy_tup, toPy_tup] at e
      rw [toPyA_inj ha hb (PyData.tuple.inj e)]
    | _ => simp at hb e
  | .lst _, _, ha, _, _ => by simp at ha
  | .dct _, _, ha, _, _ => by simp at ha
  | .land _, _, ha, _, _ => by simp at ha
  | .pile _, _, ha, _, _ => by simp at ha
  | .raw, _, ha, _, _ => by simp at ha
theorem toPyA_inj : ∀ {a b : List D}, immA a = true → immA b = true → toPyA a = toPyA b → a = b
  | [], [], _, _, _ => rfl
  | [], _ :: _, _, _, e => by simp [toPyA] at e
  | _ :: _, [], _, _, e => by simp [toPyA] at e
  | x :: xs, y :: ys, ha, hb, e => by
    rw [immA_cons, Bool.and_eq_true] at ha hb
    simp only [toPyA, List.cons.injEq] at e
    rw [toPy_inj ha.1 hb.1 e.1, toPyA_inj ha.2 hb.2 e.2]
end
def minDD (d : D) (ds : List D) : D := ds.foldl (fun a y => if PySem.W.dataLt (toPy y) (toPy a) then y else a) d
theorem minDD_py (d : D) (ds : List D) : toPy (minDD d ds) = PySem.W.minD (toPy d) (toPyA ds) := by
  unfold minDD PySem.W.minD
  induction ds generalizing d with
  | nil => rfl
  | cons y ys ih =>
    rw [List.foldl_cons, ih]
    simp only [toPyA, List.foldl_cons]
    congr 1
    split <;> rfl
theorem minDD_mem (d : D) (ds : List D) : minDD d ds ∈ d :: ds := by
  unfold minDD
  induction ds generalizing d with
  | nil => simp
  | cons y ys ih =>
    rw [List.foldl_cons]
    rcases List.mem_cons.mp (ih (if PySem.W.dataLt (toPy y) (toPy d) then y else d)) with h | h
    · rw [h]
      split <;> simp
    · exact List.mem_cons_of_mem _ (List.mem_cons_of_mem _ h)
/-- every two can be compared, none is None -/
def alikeD (l : List D) : Bool := l.all fun x => l.all (fun y => PySem.W.alike (toPy x) (toPy y)) && (match x with
  | .non => false
  | .dct _ => false
  | _ => true)
def minLD : D → O D
  | .lst (d :: ds) => gd (immA (d :: ds) && alikeD (d :: ds) && PyData.canLayAll0 (toPyA (d :: ds)) && decide (PyData.depthAll (toPyA (d :: ds)) ≤ 60)) (.ok (minDD d ds))
  | _ => .bad
theorem alikeD_all {l : List D} (h : alikeD l = true) : PySem.W.AlikeAll (toPyA l) := by
  rw [toPyA_map]
  unfold alikeD at h
  rw [List.all_eq_true] at h
  refine ⟨fun x hx y hy => ?_, fun x hx e => ?_⟩
  · obtain ⟨a, ha, rfl⟩ := List.mem_map.mp hx
    obtain ⟨b, hb, rfl⟩ := List.mem_map.mp hy
    have := h a ha
    rw [Bool.and_eq_true, List.all_eq_true] at this
    exact this.1 b hb
  · obtain ⟨a, ha, rfl⟩ := List.mem_map.mp hx
    have := h a ha
    rw [Bool.and_eq_true] at this
    cases a <;> simp at e this
theorem immA_mem : ∀ {l : List D}, immA l = true → ∀ d ∈ l, d.imm = true
  | [], _, d, hd => by simp at hd
  | x :: xs, h, d, hd => by
    rw [immA_cons, Bool.and_eq_true] at h
    rcases List.mem_cons.mp hd with e | e
    · rw [e]; exact h.1
    · exact immA_mem h.2 d e
section
variable {X : Cx} {c : Ct} {M : Nat → Mo} {We : WX} {al k : Nat} {e : Expr} {f : EF} {pos : Pos}
theorem ve_min {p : Pos} (z : Cz X c We k) (h : VE X c M We al e f) (hg : Gl X "min") (hm : X.mg "min" = none) (hs : starEach [e] X.env = (false, eval e X.env) :: starEach [] X.env := by rfl) (hpl : (backTo pos (starEach [] X.env)).any (·.1) = false := by rfl) :
    VE X c M We 0 (.Call (.Name "min" p) [e] [] pos) (e1 minLD f) := by
  obtain ⟨te, pe, s⟩ := h.ex
  refine ⟨_, pe_callB (call_minA z.calm z.hr.units) hg hm (by decide +kernel) (pa_cons pe pa_nil hs) (by decide) (by decide) hs hpl, fun w σ H ρ Q sl po => s w σ H ρ _ sl ((Po.bind po).imp (fun d _ q v H1 hs1 hi => ?_) fun _ _ q => q)⟩
  cases d with
  | lst l =>
    cases l with
    | nil => exact q.elim
    | cons d ds =>
      obtain ⟨hd, q⟩ := Po.gd q
      rw [Bool.and_eq_true, Bool.and_eq_true, Bool.and_eq_true, decide_eq_true_eq] at hd
      obtain ⟨⟨⟨h1, h2⟩, h3⟩, h4⟩ := hd
      obtain ⟨a, xs, rfl, e1, e2⟩ := is_lst hi
      refine ⟨a, xs, toPy d, toPyA ds, rfl, by rw [z.K]; exact e1, ?_, alikeD_all h2, h4, fun i v hv hmin => ?_⟩
      · rw [z.K]; exact e2.dp h3
      · obtain ⟨di, q1, q2⟩ := e2.get hv
        have e3 : (toPyA (d :: ds))[i]? = some (toPy di) := by rw [toPyA_map, List.getElem?_map, q1]; rfl
        have e4 : toPy di = toPy (minDD d ds) := by
          rw [minDD_py]
          exact Option.some.inj (e3.symm.trans hmin)
        have e5 : di = minDD d ds := toPy_inj (immA_mem h1 di (List.mem_of_getElem? q1)) (immA_mem h1 _ (minDD_mem d ds)) e4
        rw [e5] at q2
        exact q v H1 hs1 (q2.imm (fun _ _ _ z => z) (immA_mem h1 _ (minDD_mem d ds)))
  | _ => exact q.elim
end

/-! ### sorted(x), of data -/
def leD2 (p q : V × D) : Bool := PySem.W.dataLe false (fun p : V × D => toPy p.2) p q
def leDD (x y : D) : Bool := PySem.W.dataLe false toPy x y
def rSortA (K : PySem.W.Frag) : List V → Hp → VK → Prop := fun vs H Q => ∃ (a : Addr) (ps : List (V × D)), vs = [.ref a] ∧ SqL K H a (ps.map (·.1)) ∧ (∀ p ∈ ps, Dp K H p.1 (toPy p.2)) ∧ PySem.W.AllAlike (ps.map fun p => toPy p.2) ∧ PySem.W.Sortable (ps.map fun p => toPy p.2) ∧ (∀ p ∈ ps, (toPy p.2).depth ≤ 60) ∧
  ∀ q, H q = none → Q (.ref q) (upd H q (.lst ((ps.mergeSort leD2).map (·.1))))
theorem call_sortA {X : Cx} (hu : X.A.units + 64 < cLine) : CallR X (.builtin "sorted") (rSortA X.K) := by
  intro pins s σ H vs us Q I r h
  obtain ⟨a, ps, rfl, hs, hdp, hal, hso, hdep, q⟩ := h
  obtain ⟨its, rv, hl, hz⟩ := I.list hs
  obtain ⟨u, rfl, ru⟩ := vals1 r
  obtain rfl : u = Value.ref a := ru
  have each : ∀ {ps : List (V × D)} {us : List Value}, Vals (ps.map (·.1)) us → PySem.W.EachIs (fun u (p : V × D) => RelV p.1 u) us ps := by
    intro ps
    induction ps with
    | nil => intro us h; cases h; exact .nil
    | cons p ps ih =>
      intro us h
      cases h with
      | cons r t => exact .cons r (ih t)
  have eachR : ∀ {ps : List (V × D)} {us : List Value}, (∀ p ∈ ps, Dp X.K H p.1 (toPy p.2)) → Vals (ps.map (·.1)) us → PySem.W.EachIs (fun u (p : V × D) => ∃ as, Reads s.heap u (toPy p.2) as) us ps := by
    intro ps
    induction ps with
    | nil => intro us _ h; cases h; exact .nil
    | cons p ps ih =>
      intro us hd h
      cases h with
      | cons r t => exact .cons (Dp.reads I _ _ _ (hd p (by simp)) r) (ih (fun p hp => hd p (by simp [hp])) t)
  have back : ∀ {ps : List (V × D)} {us : List Value}, PySem.W.EachIs (fun u (p : V × D) => RelV p.1 u) us ps → Vals (ps.map (·.1)) us := by
    intro ps us h
    induction h with
    | nil => exact .nil
    | cons r t ih => exact .cons r ih
  have hlen : its.length = ps.length := by rw [← rv.length, List.length_map]
  refine PySem.W.sorted_data (enc := fun p : V × D => toPy p.2) (bs := ps) (R := fun u (p : V × D) => RelV p.1 u) hl.isList (each rv) (eachR hdp rv) hal hso (by rw [← hlen]; rw [← rv.length]; exact hz) (fun p hp => by have := hdep p hp; omega) fun out h1 h2 => ?_
  obtain ⟨n, hn⟩ := PyProof.Rows.sortedAll_at s.heap its out.toArray
  refine ⟨.ref (s.heap.objs.size + 1), upd H (s.heap.objs.size + 1) (.lst ((ps.mergeSort leD2).map (·.1))), I.laid (t' := s.toks) (fun b o e => PyProof.Rows.sortedAll_old e) (Nat.le_succ _) ⟨?_, out, n, back h2, hn⟩, rfl, q _ (I.hok.fresh (Nat.le_succ _))⟩
  rw [List.length_map, List.length_mergeSort, ← hlen, ← rv.length]
  exact hz
def tupNE : D → Bool
  | .tup (_ :: _) => true
  | _ => false
def atomD : D → Bool
  | .bl _ => true
  | .int _ => true
  | .str _ => true
  | _ => false
def sortD : D → O D
  | .lst l => gd (immA l && (l.all fun x => l.all fun y => PySem.W.alike (toPy x) (toPy y)) && (l.all tupNE || l.all atomD) && (l.all fun x => (toPy x).canLay0 && decide ((toPy x).depth ≤ 60))) (.ok (.lst (l.mergeSort leDD)))
  | _ => .bad
theorem isA_pairs {c : Ct} {W : Addr → Prop} {H : Hp} : ∀ {ps : List (V × D)}, (∀ p ∈ ps, Is c W H p.1 p.2) → IsA c W H (ps.map (·.1)) (ps.map (·.2))
  | [], _ => .nil
  | p :: ps, h => .cons (h p (by simp)) (isA_pairs fun p hp => h p (by simp [hp]))
theorem isA_zip {c : Ct} {W : Addr → Prop} {H : Hp} : ∀ {xs : List V} {l : List D}, IsA c W H xs l → ∀ p ∈ xs.zip l, Is c W H p.1 p.2
  | _, _, .nil, p, hp => by simp at hp
  | _, _, .cons h t, p, hp => by
    rcases List.mem_cons.mp (by simpa using hp : p ∈ (_, _) :: List.zip _ _) with e | e
    · rw [e]; exact h
    · exact isA_zip t p e
section
variable {X : Cx} {c : Ct} {M : Nat → Mo} {We : WX} {al k : Nat} {e : Expr} {f : EF} {pos : Pos}
theorem vo_sorted {p : Pos} (z : Cz X c We k) (h : VE X c M We al e f) (hg : Gl X "sorted") (hm : X.mg "sorted" = none) (hs : starEach [e] X.env = (false, eval e X.env) :: starEach [] X.env := by rfl) (hpl : (backTo pos (starEach [] X.env)).any (·.1) = false := by rfl) :
    VO X c M We (.l .fz) (.Call (.Name "sorted" p) [e] [] pos) (e1 sortD f) := by
  obtain ⟨te, pe, s⟩ := h.ex
  refine ⟨_, pe_callB (call_sortA z.hr.units) hg hm (by decide +kernel) (pa_cons pe pa_nil hs) (by decide) (by decide) hs hpl, fun w σ H ρ Q sl po => s w σ H ρ _ sl ((Po.bind po).imp (fun d _ q v H1 hs1 hi => ?_) fun _ _ q => q)⟩
  cases d with
  | lst l =>
    obtain ⟨hd, q⟩ := Po.gd q
    rw [Bool.and_eq_true, Bool.and_eq_true, Bool.and_eq_true, Bool.or_eq_true, List.all_eq_true, List.all_eq_true, List.all_eq_true, List.all_eq_true] at hd
    obtain ⟨⟨⟨h1, h2⟩, h3⟩, h4⟩ := hd
    obtain ⟨a, xs, rfl, e1, e2⟩ := is_lst hi
    have f1 : (xs.zip l).map (·.1) = xs := List.map_fst_zip (by rw [e2.length]; exact Nat.le_refl _)
    have f2 : (xs.zip l).map (·.2) = l := List.map_snd_zip (by rw [e2.length]; exact Nat.le_refl _)
    have m2 : ∀ p ∈ xs.zip l, p.2 ∈ l := fun p hp => by rw [← f2]; exact List.mem_map.mpr ⟨p, hp, rfl⟩
    have hz := isA_zip e2
    refine ⟨a, xs.zip l, rfl, by rw [f1, z.K]; exact e1, fun p hp => ?_, fun x hx y hy => ?_, ?_, fun p hp => ?_, fun p0 hp0 => ?_⟩
    · have := h4 _ (m2 p hp)
      rw [Bool.and_eq_true] at this
      rw [z.K]
      exact (hz p hp).dp this.1
    · obtain ⟨p, hp, rfl⟩ := List.mem_map.mp hx
      obtain ⟨p', hp', rfl⟩ := List.mem_map.mp hy
      have := h2 _ (m2 p hp)
      rw [List.all_eq_true] at this
      exact this _ (m2 p' hp')
    · rcases h3 with h3 | h3
      · refine .inl fun x hx => ?_
        obtain ⟨p, hp, rfl⟩ := List.mem_map.mp hx
        have := h3 _ (m2 p hp)
        cases hp2 : p.2 with
        | tup l' =>
          rw [hp2] at this
          cases l' with
          | nil => cases this
          | cons y ys => exact ⟨toPy y, toPyA ys, by rw [toPy_tup]; simp only [toPyA]⟩
        | _ => rw [hp2] at this; cases this
      · refine .inr fun x hx => ?_
        obtain ⟨p, hp, rfl⟩ := List.mem_map.mp hx
        have := h3 _ (m2 p hp)
        cases hp2 : p.2 with
        | bl b => exact ⟨(by rw [toPy_bl]; exact fun z => nomatch z), fun xs => (by rw [toPy_bl]; exact fun z => nomatch z)⟩
        | int b => exact ⟨(by rw [toPy_int]; exact fun z => nomatch z), fun xs => (by rw [toPy_int]; exact fun z => nomatch z)⟩
        | str b => exact ⟨(by rw [toPy_str]; exact fun z => nomatch z), fun xs => (by rw [toPy_str]; exact fun z => nomatch z)⟩
        | _ => rw [hp2] at this; cases this
    · have := h4 _ (m2 p hp)
      rw [Bool.and_eq_true, decide_eq_true_eq] at this
      exact this.2
    · have hres : IsA c (NW w al H) H1 (((xs.zip l).mergeSort leD2).map (·.1)) (l.mergeSort leDD) := by
        have g1 : ((xs.zip l).mergeSort leD2).map (·.2) = l.mergeSort leDD := by
          rw [List.map_mergeSort (r := leD2) (s := leDD) (f := fun p : V × D => p.2) (fun a _ b _ => rfl), f2]
        rw [← g1]
        exact isA_pairs fun p hp => hz p (List.mem_mergeSort.mp hp)
      have hdc : immA (l.mergeSort leDD) = true := by
        have : ∀ (l : List D), immA l = l.all D.imm := fun l => by induction l with
          | nil => simp
          | cons d l ih => rw [immA_cons, ih, List.all_cons]
        rw [this] at h1 ⊢
        rw [List.all_eq_true] at h1 ⊢
        exact fun x hx => h1 x (List.mem_mergeSort.mp hx)
      obtain ⟨o1, o2, o3, o4⟩ := own_new (w := w) hs1 hp0 hres hdc
      exact q _ _ [p0] o1 o2 o3 o4
  | _ => exact q.elim
end

/-! ### x in a list -/
def inL (neg : Bool) (x y : D) : O D := match y with
  | .lst l => gd (SeqAt.shaped (toPy x) && SeqAt.shaped (.list (toPyA l))) (.ok (.bl (neg != (toPyA l).any fun z => PyData.eqv z (toPy x))))
  | _ => .bad
theorem rs_inL {c : Ct} : RS c (rInD c.K) (inL false) := by
  intro W W' x y dx dy H Q E hx hy po
  cases dy with
  | lst l =>
    obtain ⟨hl, po⟩ := Po.gd po
    rw [Bool.and_eq_true] at hl
    have hy2 := hy.dp (by rw [toPy_lst]; exact SeqAt.canLay_of_shaped hl.2)
    rw [toPy_lst] at hy2
    exact ⟨_, _, hx.dp (SeqAt.canLay_of_shaped hl.1), hy2, hl.1, hl.2, po _ H (Same.refl H) fun _ => by rw [Bool.false_bne]; exact .bl _⟩
  | _ => exact po.elim
theorem rs_notinL {c : Ct} : RS c (rNotInD c.K) (inL true) := by
  intro W W' x y dx dy H Q E hx hy po
  cases dy with
  | lst l =>
    obtain ⟨hl, po⟩ := Po.gd po
    rw [Bool.and_eq_true] at hl
    have hy2 := hy.dp (by rw [toPy_lst]; exact SeqAt.canLay_of_shaped hl.2)
    rw [toPy_lst] at hy2
    exact ⟨_, _, hx.dp (SeqAt.canLay_of_shaped hl.1), hy2, hl.1, hl.2, po _ H (Same.refl H) fun _ => by rw [Bool.true_bne]; exact .bl _⟩
  | _ => exact po.elim
section
variable {X : Cx} {c : Ct} {M : Nat → Mo} {We : WX} {al al' k : Nat} {a b : Expr} {fa fb : EF} {pos : Pos}
theorem u65 (z : Cz X c We k) : X.A.units + 65 < cLine := by have := z.hr.un; omega
theorem ve_lin (z : Cz X c We k) (ha : VE X c M We al a fa) (hb : VE X c M We al' b fb) (hmk : behindInMarks .In b = false := by first | exact nobehind _ (by decide) (by decide) | rfl) : VE X c M We 0 (.Compare a [.In] [b] pos) (e2 (inL false) fa fb) := ve_cmp (op_inD (u65 z)) (by rw [z.K]; exact rs_inL) ha hb hmk
theorem vt_lin (z : Cz X c We k) (ha : VE X c M We al a fa) (hb : VE X c M We al' b fb) (hmk : behindInMarks .In b = false := by first | exact nobehind _ (by decide) (by decide) | rfl) : VT X c M We (.Compare a [.In] [b] pos) (tE (e2 (inL false) fa fb)) := vt_cmp (op_inD (u65 z)) (by rw [z.K]; exact rs_inL) ha hb hmk
theorem ve_lnotin (z : Cz X c We k) (ha : VE X c M We al a fa) (hb : VE X c M We al' b fb) (hmk : behindInMarks .NotIn b = false := by first | exact nobehind _ (by decide) (by decide) | rfl) : VE X c M We 0 (.Compare a [.NotIn] [b] pos) (e2 (inL true) fa fb) := ve_cmp (op_notInD (u65 z)) (by rw [z.K]; exact rs_notinL) ha hb hmk
theorem vt_lnotin (z : Cz X c We k) (ha : VE X c M We al a fa) (hb : VE X c M We al' b fb) (hmk : behindInMarks .NotIn b = false := by first | exact nobehind _ (by decide) (by decide) | rfl) : VT X c M We (.Compare a [.NotIn] [b] pos) (tE (e2 (inL true) fa fb)) := vt_cmp (op_notInD (u65 z)) (by rw [z.K]; exact rs_notinL) ha hb hmk
end

/-! ### zip of two tuples -/
def tupLD : D → O (List D)
  | .tup l => .ok l
  | _ => .bad
def iZpT (f g : EF) : AF := fun ρ => (f ρ).bind fun x => (tupLD x).bind fun xs => (g ρ).bind fun y => (tupLD y).bind fun ys => .ok (pairsD xs ys)
theorem walk_zipT {K : PySem.W.Frag} {a b : Addr} {xs ys : List V} {n : Nat} (hn : n = min xs.length ys.length) : Walk (RZ.ItzT K a b) n (fun H => SqT K H a xs ∧ SqT K H b ys) (YPair (fun i => xs[i]?) (fun i => ys[i]?)) := by
  subst hn
  refine ⟨fun i _ hi q => ?_, fun _ q => ⟨xs, ys, q.1, q.2, by omega⟩, fun i H v H' _ q y => ?_⟩
  · have h1 : i < xs.length := by omega
    have h2 : i < ys.length := by omega
    exact ⟨xs, ys, xs[i], ys[i], q.1, q.2, by simp [h1], by simp [h2]⟩
  · obtain ⟨T, x, z, h1, h2, h3, h4, h5⟩ := y
    exact ⟨T, x, z, h1, h2, h3, h4 xs q.1, h5 ys q.2⟩
section
variable {X : Cx} {c : Ct} {M : Nat → Mo} {We : WX} {al k : Nat} {e e2 : Expr} {f f2 : EF}
theorem vi_zipT {p pos tpos : Pos} {elts : List Expr} {kk : Nat} (z : Cz X c We k) (h : VE X c M We al e f) (h2 : VE X c M We al e2 f2) (hg : Gl X "zip") (hm : X.mg "zip" = none) (hs : starEach [e, e2] X.env = (false, eval e X.env) :: starEach [e2] X.env := by rfl)
    (hs1 : starEach [e2] X.env = (false, eval e2 X.env) :: starEach [] X.env := by rfl) (hpl : (backTo pos (starEach [e2] X.env)).any (·.1) = false := by rfl) :
    VI X c M We al (.Tuple elts kk tpos) (.Call (.Name "zip" p) [e, e2] [] pos) (iZpT f f2) := by
  obtain ⟨te, p1, s1⟩ := h.ex
  obtain ⟨te2, p2, s2⟩ := h2.ex
  refine ⟨_, RZ.pi_zipA hg hm (pa_cons p1 (pa_cons p2 pa_nil hs1) hs) hs hpl, fun w σ H ρ R sl po => s1 w σ H ρ _ sl ((Po.bind po).imp (fun d _ q v H1 hs hi => ?_) fun _ _ q => q)⟩
  cases d with
  | tup l =>
    refine s2 w σ H1 ρ _ (sl.same hs) ((Po.bind (r := f2 ρ) q).imp (fun d2 _ q v2 H2 hs2 hi2 => ?_) fun _ _ q H2 hs2 => q H2 (hs.trans hs2))
    cases d2 with
    | tup l2 =>
      have q : ∀ (J : It) (G : Hp → Prop) (Y : Nat → Hp → V → Hp → Prop) (H' : Hp), Same H H' → Walk J (pairsD l l2).length G Y → (∀ H'', Kp (NW w al H) H' H'' → G H'') → (∀ i Hi x Hi', i < (pairsD l l2).length → Kp (NW w al H) H' Hi → Y i Hi x Hi' → Same Hi Hi' ∧ ∃ d, (pairsD l l2)[i]? = some d ∧ ∀ W' : Addr → Prop, (∀ a, NW w al H a → H' a ≠ none → W' a) → Is c W' Hi' x d) → R J H' := q
      have hi' := hi.same hs2
      have hi2' := hi2.up (NW.back hs)
      obtain ⟨a, xs, rfl, a2, a1⟩ := is_tup hi'
      obtain ⟨b, ys, rfl, b2, b1⟩ := is_tup hi2'
      refine ⟨a, b, xs, ys, rfl, .inr ⟨.of a2, .of b2, q _ (fun H => SqT X.K H a xs ∧ SqT X.K H b ys) _ H2 (hs.trans hs2) (walk_zipT (by rw [pairs_len, a1.length, b1.length])) (fun H'' hk => ⟨.of (hk _ _ (.inr trivial) a2), .of (hk _ _ (.inr trivial) b2)⟩) fun i Hi x Hi' hi hk hy => ?_⟩⟩
      obtain ⟨T, x1, y1, rfl, hT, rfl, e1, e2⟩ := hy
      obtain ⟨dx, f1, g1⟩ := a1.get e1
      obtain ⟨dy, f2, g2⟩ := b1.get e2
      have st : Same Hi (upd Hi T (.tup [x1, y1])) := same_new (Same.refl Hi) hT
      exact ⟨st, _, pairs_get f1 f2, fun W' hw => .tup upd_same (.cons ((kp_item g1 hk W' hw).same st) (.cons ((kp_item g2 hk W' hw).same st) .nil))⟩
    | _ => exact q.elim
  | _ => exact q.elim
end
end VS
set_option Elab.async false
set_option linter.all false
set_option maxRecDepth 100000
set_option maxHeartbeats 2000000
/-! VZ: try; a def that tells a word of the exception that is handled. -/
namespace VS
open PySem L2

/-! ### isinstance of what is handled -/
theorem call_isP {X : Cx} {a C : Addr} {oe : Obj} (hp : (a, oe) ∈ X.pn) (ec : ExcC X.K C) (hz : Zc (.ref C) none oe) (hf : ∃ vs, oe.data = .fields vs) : CallR X (.builtin "isinstance") (rIsE X.K C a) := by
  intro pins s σ H xs us Q I r h
  obtain ⟨cl, cv, b, rfl, hcv, ek, q⟩ := h
  obtain ⟨u1, u2, rfl, r1, r2⟩ := vals2 r
  obtain rfl : u1 = Value.ref a := r1
  obtain rfl := hcv _ r2
  obtain ⟨hget, _⟩ := I.pin (a, oe) (List.mem_append_left _ hp)
  obtain ⟨fv, hv⟩ := hf
  have at_ : PySem.W.InstAt s.heap a oe C none := by
    rcases oe with ⟨k1, k2, k3, k4⟩
    obtain ⟨z1, z2⟩ := hz
    dsimp only at z1 z2 hv
    subst z1 z2 hv
    exact ⟨hget, rfl, rfl, trivial⟩
  have kx := PySem.W.handS_kitx_exc (x := a) (ox := oe) ec.hg ec.hk ec.hs ec.hd ec.ha ec.hn ec.ht ec.hm
  exact PySem.W.kia_one kx I.kIn at_ ek (by intro z; cases z) fun t1 => ⟨.bl b, H, I.kept (t' := t1) (fun _ _ y => y), rfl, q⟩

/-! ### a def that tells a word of it -/
structure FnW (P : Program) (w : World) (K : PySem.W.Frag) (mg : Str → Option Value) (base : Heap) (k : Nat) (f : Addr) (fd : FuncData) (y : Str) (wf : Addr → Option Str) : Prop where
  run : ∀ (A : Around) (outer : List Env) (s : Shared) (H : Hp) (args : Args) (Q : VK) (p : Addr × Obj) (C : Addr) (r : Str), L2H.RoomH k A → L2H.PinOk outer H s p → Zc (.ref C) none p.2 → (∃ vs, p.2.data = .fields vs) → wf C = some r →
    Env0 P w K mg base A outer s H → BindsTo s fd args [(y, .ref p.1)] → Q (.str r) H → codeAny (model P w) A (.call (.ref f) args) (CR (L2.CX P w) outer P w H s Q E0) s
section
variable {P : Program} {w : World} {K : PySem.W.Frag} {mg : Str → Option Value} {base : Heap}
theorem fn_tells {x qual y : Str} {st : Stmt} {f : Addr} {fd : FuncData} {N : List Str} {k : Nat} {wf : Addr → Option Str} (F : Fun K x qual st f fd) (S : FnScope N [y] (defScope st))
    (hb : ∀ (cdv : Value) (A : Around) (outer : List Env) (s : Shared) (H : Hp) (p : Addr × Obj) (C : Addr) (r : Str), Zc (.ref C) none p.2 → (∃ vs, p.2.data = .fields vs) → wf C = some r →
      ∃ t, PSs (L2H.cxH (L2.CX P w) P w K mg base N qual (defScope st) f cdv A outer s H E0 p) (defBody st) t ∧ ∀ Q : VK, Q (.str r) H → t { nx := fun _ H' => Q .non H', rt := Q } (L2.start N [.ref p.1]) H) : FnW P w K mg base (k + 1) f fd y wf := by
  obtain ⟨oc, od, kV, doc, pm, an, cdv, ct, osl, rfl, lk, hcd⟩ := F.ex
  refine ⟨fun A outer s H args Q p C r hr hpin hz hf hw env0 hbd hq => ?_⟩
  have inK : K.In s.heap := env0.mod.kin.keeps fun b o e => (env0.bs b o e).1
  have noL : s.heap.NoLimit := env0.mod.nolimit.keeps fun b o e => (env0.bs b o e).1
  have kinds : ∀ z ∈ [(y, Value.ref p.1)], (defScope st).names.lookup z.1 = some .local ∨ ((defScope st).names.lookup z.1 = some .cell ∧ ((cellsFrom (s.heap.objs.size + 1) (defScope st).names []).lookup z.1).isSome = true) := fun z hz => by
    rw [List.mem_singleton] at hz
    subst hz
    exact (S.par y (by simp)).imp id fun q => ⟨q, PySem.W.cellsFrom_some _ _ _ (.inl q)⟩
  refine codeAny_call_function hr.depth (inK _ _ lk) rfl S.co S.gen rfl (PySem.W.codeRec_of inK hcd) (hbd _ _ _ _ ?_)
  refine wpAny_newFunctionEnv_cells S.kind kinds fun en hen s1 ic => ?_
  subst hen
  obtain ⟨t, ht, hd⟩ := hb cdv A outer s H p C r hz hf hw
  have J : Inv (L2H.cxH (L2.CX P w) P w K mg base N qual (defScope st) f cdv A outer s H E0 p) [] (L2.start N [.ref p.1]) H s1 := L2H.inv_startH (ps := [y]) (us := [.ref p.1]) S hpin env0 rfl (.cons rfl .nil) ic
  refine ⟨noL.keeps ic.toInCall.keep, codeAny_func (wpAny_mono (ht.run [] s1 _ H _ J (hd Q hq)) (fun fl s2 ends => ?_) fun _ _ z => z)⟩
  match fl, ends with
  | .ret u, ⟨v, σ2, H2, J2, rv, q2⟩ => exact ⟨v, H2, J2.os, J2.bare, J2.base, J2.hok, rv, q2⟩
  | .next, ⟨σ2, H2, J2, q2⟩ => exact ⟨.non, H2, J2.os, J2.bare, J2.base, J2.hok, rfl, q2⟩
  | .brk, ⟨_, _, _, q2⟩ => exact q2.elim
  | .cont, ⟨_, _, _, q2⟩ => exact q2.elim
end
/-- such a def stands -/
structure Dw (P : Program) (w : World) (K : PySem.W.Frag) (mg : Str → Option Value) (base : Heap) (k : Nat) (x : Str) (wf : Addr → Option Str) : Prop where
  ex : ∃ f fd y, FnW P w K mg base k f fd y wf ∧ Binds K fd [y] [] ∧ mg x = some (.ref f) ∧ PySem.W.keepIn K (.ref f) = true
/-- its call within a suite, by the handled exception -/
def tWord (a : Addr) (cls : Value) (d : Option Addr) (wf : Addr → Option Str) (te : TE) : TE := fun σ H Q => te σ H fun x H1 => ∃ v, [x] = [v] ∧ v = V.ref a ∧ d = none ∧ ∃ C r, cls = .ref C ∧ wf C = some r ∧ Q (.str r) H1
section
variable {X : Cx} {a : Addr} {oe : Obj} {cls : Value} {d : Option Addr} {pn : List (Addr × Obj)} {k k' : Nat} {e : Expr} {te : TE} {pos p : Pos} {wf : Addr → Option Str}
theorem pe_word {x : Str} (dw : Dw X.prog X.w X.K X.mg X.base k' x wf) (hk : k' ≤ k) (hr : Room k X.A) (hz : Zc cls d oe) (hf : ∃ vs, oe.data = .fields vs) (hg : Gl X x) (he : PE (X.suite a ((a, oe) :: pn)) e te)
    (hdb : (x == ("__debug__" : Str)) = false := by decide) (hs : starEach [e] X.env = (false, eval e X.env) :: starEach [] X.env := by rfl) (hpl : (backTo pos (starEach [] X.env)).any (·.1) = false := by rfl) :
    PE (X.suite a ((a, oe) :: pn)) (.Call (.Name x p) [e] [] pos) (tWord a cls d wf te) := by
  obtain ⟨f, fd, y, G, hb, hm, kp⟩ := dw.ex
  have rm : L2H.RoomH k' (X.A.mark (some (.ref a))) := ⟨by have := hr.dp; show X.A.depth + 3 * k' + 5 < _; omega, by have := hr.un; show X.A.units + 16 * k' + 200 < _; omega⟩
  refine ⟨fun pins s σ H Q I h => wpAny_Call_Name_kw (ld_glob I hg hm ?_ hdb)⟩
  refine PySem.W.callWith_K (h₀ := X.base) I.ok.mod.kin kp (thn ((pa_cons he pa_nil hs).run pos pins s σ H (fun vs H1 => ∃ v, vs = [v] ∧ v = V.ref a ∧ d = none ∧ ∃ C r, cls = .ref C ∧ wf C = some r ∧ Q (.str r) H1) I h) fun us s1 r0 => ?_) hs hpl
  · obtain ⟨vs, H1, I1, rs, v, rfl, rfl, rfl, C, r, rfl, hw, q⟩ := r0
    refine ⟨I1.kIn, ?_⟩
    cases rs with
    | cons r1 rr =>
      cases rr
      obtain rfl := r1
      have bt := hb s1 [.ref a] I1.kIn rfl
      have pk := I1.pin (a, oe) (List.mem_append.mpr (.inl List.mem_cons_self))
      have pin : L2H.PinOk X.stack H1 s1 (a, oe) := ⟨pk.1, pk.2.1, fun z => (List.mem_cons.mp (I1.stkSub a z)).elim pk.2.2.1 pk.2.2.2.1, pk.2.2.2.2⟩
      refine wpAny_call (codeAny_mono (G.run (X.A.mark (some (.ref a))) X.stack s1 H1 ⟨[.ref a], []⟩ Q (a, oe) C r rm pin hz hf hw I1.env0 bt q) fun res s2 hq => ?_)
      match res, hq with
      | .ok (.ret u), hq => exact I1.after hq
      | .ok .next, hq => exact hq.elim
      | .ok .brk, hq => exact hq.elim
      | .ok .cont, hq => exact hq.elim
      | .error ev, hq =>
        obtain ⟨_, _, _, _, _, _, _, _, _, _, _, _, z⟩ := hq
        exact z.elim
end

/-! ### its text -/
structure WB (X : Cx) (a : Addr) (sts : List Stmt) (n : Nat) (f : Str → Str) : Prop where
  ex : ∃ t, PSs X sts t ∧ ∀ (x : Str) (D : Ends) (H : Hp), x.length ≤ n → D.rt (.str (f x)) H → t D [some (.ref a), some (.str x)] H
section
variable {X : Cx} {a C C' : Addr} {oe : Obj} {ne nw x : Str} {b : Bool} {n m : Nat} {f : Str → Str} {rest : List Stmt} {p1 p2 p3 p4 p5 p6 p7 p8 p9 p10 : Pos}
theorem pt_isP {u : Value} {cv : V} {e2 : Expr} (hp : (a, oe) ∈ X.pn) (ec : ExcC X.K C) (hz : Zc (.ref C) none oe) (hf : ∃ vs, oe.data = .fields vs) (hg : Gl X "isinstance") (hm : X.mg "isinstance" = none) (hN : X.N[0]? = some ne) (hv : Vis X.env.scope ne) (hd : (ne == ("__debug__" : Str)) = false)
    (hcd : (ne == ("__classdict__" : Str)) = false) (h2 : PE X e2 (tC cv)) (hcv : ∀ w, RelV cv w → w = u) (hk : PySem.W.kitOne X.K (.ref C) u = some b)
    (hs : starEach [.Name ne p2, e2] X.env = (false, eval (.Name ne p2) X.env) :: starEach [e2] X.env) (hs1 : starEach [e2] X.env = (false, eval e2 X.env) :: starEach [] X.env) (hpl : (backTo p4 (starEach [e2] X.env)).any (·.1) = false) :
    ∃ tt, PT X (.Call (.Name "isinstance" p1) [.Name ne p2, e2] [] p4) tt ∧ ∀ (r : Option V) (H : Hp) (Q : Bool → Hp → Prop), Q b H → tt [some (.ref a), r] H Q :=
  ⟨_, pt_val (pe_callB (call_isP hp ec hz hf) hg hm PyProof.Rows.boot_isinstance (pa_cons (pv 0 hN hv hd hcd) (pa_cons h2 pa_nil hs1) hs) (by decide) (by decide) hs hpl), fun r H Q q => ⟨.ref a, rfl, cv, u, b, rfl, hcv, hk, b, rfl, q⟩⟩
theorem wb_if {nm wd : Str} {j : Nat} (hp : (a, oe) ∈ X.pn) (ec : ExcC X.K C) (hz : Zc (.ref C) none oe) (hf : ∃ vs, oe.data = .fields vs) (hm : X.mg "isinstance" = none) (hx : ExK X.K X.mg nm C') (hk : PySem.W.kitOne X.K (.ref C) (.ref C') = some b) (hn : n + wd.length ≤ m) (hm1 : m ≤ 1000)
    (hND : X.N.Nodup) (h : WB X a rest m f) (hg : Gl X "isinstance" := by rfl) (hgx : Gl X nm := by rfl) (hN : X.N[0]? = some ne := by rfl) (hN1 : X.N[1]? = some nw := by rfl) (hv : Vis X.env.scope ne := by exact Or.inl rfl) (hvw : Vis X.env.scope nw := by exact Or.inl rfl) (hlw : Loc X.env.scope nw := by exact Or.inl rfl)
    (hd : (ne == ("__debug__" : Str)) = false := by decide) (hcd : (ne == ("__classdict__" : Str)) = false := by decide) (hdw : (nw == ("__debug__" : Str)) = false := by decide) (hcdw : (nw == ("__classdict__" : Str)) = false := by decide) (hdn : (nm == ("__debug__" : Str)) = false := by decide)
    (hs : starEach [.Name ne p2, .Name nm p3] X.env = (false, eval (.Name ne p2) X.env) :: starEach [.Name nm p3] X.env := by rfl) (hs1 : starEach [.Name nm p3] X.env = (false, eval (.Name nm p3) X.env) :: starEach [] X.env := by rfl) (hpl : (backTo p4 (starEach [.Name nm p3] X.env)).any (·.1) = false := by rfl)
    (hsw : swapsWith (.BinOp (.Name nw p6) .Add (.Constant (.str wd) j p7) p8) (some (.Name nw p5)) p9.line X.env = pure false := by rfl) (hfn : X.fn nw = true ∨ X.env.scope.names.lookup nw = some .local := by exact Or.inr rfl) :
    WB X a (.If (.Call (.Name "isinstance" p1) [.Name ne p2, .Name nm p3] [] p4) [.Assign [.Name nw p5] (.BinOp (.Name nw p6) .Add (.Constant (.str wd) j p7) p8) p9] [] p10 :: rest) n (fun x => f (if b = true then x ++ wd else x)) := by
  obtain ⟨t, ht, hr⟩ := h.ex
  obtain ⟨tt, htt, hrt⟩ := pt_isP (p1 := p1) (p2 := p2) (p4 := p4) hp ec hz hf hg hm hN hv hd hcd (pe_glob (v := .ref C') (pos := p3) hgx hx.g rfl hdn) (fun w q => q) hk hs hs1 hpl
  refine ⟨_, pss_cons (ps_if htt (pss_one (ps_set (i := 1) hND hN1 hlw (pe_op op_add_str (pv 1 hN1 hvw hdw hcdw) pe_str) hsw hfn)) pss_nil) ht, fun x D H hl q => ?_⟩
  refine hrt _ H _ ?_
  cases b with
  | true =>
    refine iteT ⟨.str x, rfl, x, wd, rfl, rfl, ?_, ?_⟩
    · exact Nat.le_trans (Nat.le_trans (Nat.add_le_add_right hl _) (Nat.le_trans hn hm1)) (by decide)
    · refine hr (x ++ wd) D H ?_ q
      rw [PySem.Str.length_append]
      omega
  | false => exact iteF (hr x D H (by omega) q)
theorem wb_end {y : Str} {j : Nat} {p11 p12 : Pos} (hp : (a, oe) ∈ X.pn) (ec : ExcC X.K C) (hz : Zc (.ref C) none oe) (hf : ∃ vs, oe.data = .fields vs) (hm : X.mg "isinstance" = none) (hmv : X.mg "ValueError" = none) (hk : PySem.W.kitOne X.K (.ref C) (.type "ValueError") = some true) (hn : n ≤ 1000)
    (hg : Gl X "isinstance" := by rfl) (hgv : Gl X "ValueError" := by rfl) (hN : X.N[0]? = some ne := by rfl) (hN1 : X.N[1]? = some nw := by rfl) (hv : Vis X.env.scope ne := by exact Or.inl rfl) (hvw : Vis X.env.scope nw := by exact Or.inl rfl)
    (hd : (ne == ("__debug__" : Str)) = false := by decide) (hcd : (ne == ("__classdict__" : Str)) = false := by decide) (hdw : (nw == ("__debug__" : Str)) = false := by decide) (hcdw : (nw == ("__classdict__" : Str)) = false := by decide)
    (hs : starEach [.Name ne p2, .Name "ValueError" p3] X.env = (false, eval (.Name ne p2) X.env) :: starEach [.Name "ValueError" p3] X.env := by rfl) (hs1 : starEach [.Name "ValueError" p3] X.env = (false, eval (.Name "ValueError" p3) X.env) :: starEach [] X.env := by rfl)
    (hpl : (backTo p4 (starEach [.Name "ValueError" p3] X.env)).any (·.1) = false := by rfl) (hbase : attributeBase (.Name nw p5) "rstrip" X.env (eval (.Name nw p5) X.env) = eval (.Name nw p5) X.env := by rfl) (hline : (p6.endLine == p7.line) = true := by rfl) :
    WB X a [.If (.Call (.Name "isinstance" p1) [.Name ne p2, .Name "ValueError" p3] [] p4) [.Return (some (.Call (.Attribute (.Name nw p5) "rstrip" p6) [] [] p7)) p8] [] p9, .Return (some (.Constant (.str y) j p11)) p12] n Txt.rstrip := by
  obtain ⟨tt, htt, hrt⟩ := pt_isP (p1 := p1) (p2 := p2) (p4 := p4) hp ec hz hf hg hm hN hv hd hcd (pe_bltn (v := .ty "ValueError") (pos := p3) hgv hmv (by decide +kernel) rfl (by decide) (by decide)) (fun w q => q) hk hs hs1 hpl
  refine ⟨_, pss_cons (ps_if htt (pss_one (ps_ret (pe_m0 PySem.F.slot_str_rstrip PySem.F.type_str_rstrip mt_rstrip (pv 1 hN1 hvw hdw hcdw) hbase hline))) pss_nil) (pss_one (ps_ret pe_str)), fun x D H hl q => ?_⟩
  refine hrt _ H _ (iteT ⟨.str x, rfl, ⟨x, rfl⟩, x, rfl, rfl, ?_, q⟩)
  exact Nat.le_trans (Nat.le_trans hl hn) (by decide)
theorem wb_start {y : Str} {j : Nat} {r : Str} {H : Hp} (hND : X.N.Nodup) (hN : X.N = [ne, nw]) (h : WB X a rest 0 f) (hy : y.length = 0) (hfr : f y = r) (hN1 : X.N[1]? = some nw := by rfl) (hlw : Loc X.env.scope nw := by exact Or.inl rfl)
    (hsw : swapsWith (.Constant (.str y) j p1) (some (.Name nw p2)) p3.line X.env = pure false := by rfl) (hfn : X.fn nw = true ∨ X.env.scope.names.lookup nw = some .local := by exact Or.inr rfl) :
    ∃ t, PSs X (.Assign [.Name nw p2] (.Constant (.str y) j p1) p3 :: rest) t ∧ ∀ Q : VK, Q (.str r) H → t { nx := fun _ H' => Q .non H', rt := Q } (L2.start [ne, nw] [.ref a]) H := by
  obtain ⟨t, ht, hr⟩ := h.ex
  refine ⟨_, pss_cons (ps_set (i := 1) hND hN1 hlw pe_str hsw hfn) ht, fun Q q => ?_⟩
  subst hfr
  exact hr y { nx := fun _ H' => Q .non H', rt := Q } H (by omega) q
end

/-! ### list(range(n)) -/
def lrgD : D → O D
  | .int n => gd (decide (0 ≤ n) && decide (n ≤ 100000)) (.ok (.lst (rngD 0 n.toNat)))
  | _ => .bad
section
variable {X : Cx} {c : Ct} {M : Nat → Mo} {We : WX} {al k : Nat} {e : Expr} {f : EF}
theorem isA_rg {c : Ct} {W : Addr → Prop} {H : Hp} (n : Nat) : ∀ m, IsA c W H ((List.range m).map fun (i : Nat) => V.int (0 + (i : Int))) ((List.range m).map fun (i : Nat) => D.int (0 + (i : Int))) := fun m => by
  induction m with
  | zero => exact .nil
  | succ m ih =>
    rw [List.range_succ, List.map_append, List.map_append]
    exact ih.append (.cons (.int _) .nil)
theorem vo_listRg {p p2 pos pos2 : Pos} (z : Cz X c We k) (h : VE X c M We al e f) (hg : Gl X "list") (hm : X.mg "list" = none) (hgr : Gl X "range") (hmr : X.mg "range" = none) (hs : starEach [e] X.env = (false, eval e X.env) :: starEach [] X.env := by rfl)
    (hs2 : starEach [.Call (.Name "range" p2) [e] [] pos2] X.env = (false, eval (.Call (.Name "range" p2) [e] [] pos2) X.env) :: starEach [] X.env := by rfl) :
    VO X c M We (.l .fz) (.Call (.Name "list" p) [.Call (.Name "range" p2) [e] [] pos2] [] pos) (e1 lrgD f) := by
  obtain ⟨te, pe, s⟩ := h.ex
  refine ⟨_, pe_listRg z.calm hg hm (prg_1 hgr hmr pe hs) hs2, fun w σ H ρ Q sl po => s w σ H ρ _ sl ((Po.bind po).imp (fun d _ q v H1 hs1 hi => ?_) fun _ _ q => q)⟩
  cases d with
  | int n =>
    obtain ⟨hn, q⟩ := Po.gd q
    rw [Bool.and_eq_true, decide_eq_true_eq, decide_eq_true_eq] at hn
    refine ⟨n, is_int hi, .of_le (by decide) (by omega) (by decide) hn.1, fun q' hq' => ?_⟩
    have hr : IsA c (NW w 0 H) H1 (rgV 0 n) (rngD 0 n.toNat) := by
      unfold rgV rngD
      rw [Int.sub_zero]
      exact isA_rg 0 _
    have him : immA (rngD 0 n.toNat) = true := by
      have : ∀ l : List Nat, immA (l.map fun (i : Nat) => D.int (0 + (i : Int))) = true := fun l => by
        induction l with
        | nil => simp
        | cons a l ih => rw [List.map_cons, immA_cons, ih]; simp
      exact this _
    obtain ⟨o1, o2, o3, o4⟩ := own_new (w := w) hs1 hq' hr him
    exact q _ _ [q'] o1 o2 o3 o4
  | _ => exact q.elim
end

/-! ### try -/
/-- what the handler hands back, by the exception's class -/
def sTry (h : Value → Option D) (i : Nat) (g : SF) : SF := fun ρ => match g ρ with
  | .bad => .bad
  | .exc _ => .bad
  | .ok (.ex k ρ') => match h k with
    | some r => gd (r.imm && decide (i < ρ'.length)) (.ok (.rt r ρ'))
    | none => .bad
  | .ok o => .ok o
structure Su (X : Cx) (c : Ct) (c0 : Value) (i : Nat) (suite : List Stmt) (h : Value → Option D) : Prop where
  ex : ∃ ts : Addr → Value → Option Addr → TS, (∀ (a : Addr) (oe : Obj) (cls : Value) (d : Option Addr) (pn : List (Addr × Obj)), Zc cls d oe → (∃ vs, oe.data = .fields vs) → PSs (X.suite a ((a, oe) :: pn)) suite (ts a cls d)) ∧
    ∀ (k : Value) (r : D), h k = some r → PySem.W.exmOne X.K k c0 = some true ∧ ∀ (a : Addr) (σ : L2.St) (H : Hp) (D : Ends), σ[i]? = some (some (.ref a)) → (∀ v, Is c (fun _ => False) H v r → D.rt v H) → ts a k none D σ H
section
variable {X : Cx} {c : Ct} {We : WX} {k i : Nat} {Ml M M' : Nat → Mo} {g : SF} {body suite : List Stmt} {b₀ : Stmt} {x n : Str} {c0 : Value} {np pos pos' : Pos} {h : Value → Option D}
theorem takesN {X : Cx} {W : WX} (t : Takes X W) : L2N.Takes X W := fun u s' ⟨a, B, sI, pins, σ, H, cls, d, e, I, nb, up, sky, na, os, ag, w⟩ => t u s' ⟨a, B, sI, pins, σ, H, cls, d, e, I, nb, up, sky.imp (fun ⟨q1, q2, q3, oe, vs, q4, q5, q6⟩ => ⟨q1, q2, q3, oe, vs, q4, q5.zc, q6⟩) (Or.imp (fun x => ⟨x.1, x.2.1, x.2.2.1, L2H.tracedZ_imp (fun o q => q.zc) x.2.2.2⟩) (fun x => ⟨x.1, x.2.1, x.2.2.1, L2H.tracedZ_imp (fun o q => q.zc) x.2.2.2⟩)), na, os, ag, w⟩
theorem takesNo {X : Cx} : Takes X (fun _ _ _ _ => False) := fun _ _ ⟨_, _, _, _, _, _, _, _, _, _, _, _, _, _, _, _, w⟩ => w.elim
theorem Cz.tr (z : Cz X c We k) {W : WX} {pn : List (Addr × Obj)} {xe : Value → Shared → Prop} (h1 : L2N.Takes (X.tr pn xe) W) (h2 : PassesOwn (model X.prog X.w) X.A X.env xe) : Cz (X.tr pn xe) c W k := ⟨z.K, z.calm, h1, z.hr, h2⟩
/-- one reading of the body, whatever is wished of its exceptions -/
def tBody (X : Cx) (P : WX → List (Addr × Obj) → (Value → Shared → Prop) → TS → Prop) (W : WX) : TS := fun D σ H => ∀ (pn : List (Addr × Obj)) (xe : Value → Shared → Prop), Takes (X.tr pn xe) W → PassesOwn (model X.prog X.w) X.A X.env xe → ∃ t, P W pn xe t ∧ t D σ H
theorem vs_tryA {rs : Sh} (z : Cz X c We k) (i : Nat) (hb : ∀ (W : WX) (pn : List (Addr × Obj)) (xe : Value → Shared → Prop), Cz (X.tr pn xe) c W k → VSs (X.tr pn xe) c W rs Ml M M' body g) (su : Su X c c0 i (b₀ :: suite) h) (hc : Names X x c0)
    (hN : X.N.Nodup) (hi : X.N[i]? = some n := by rfl) (hln : X.env.kindOf n = some .local := by rfl) (hst : X.stack = X.env :: X.outer := by rfl) (hfr : X.env.frame = some X.env.locals := by rfl) (hrs : rs = .fz ∨ rs = .m := by first | exact Or.inl rfl | exact Or.inr rfl) :
    VSt X c We rs Ml M M' (.Try body [.ExceptHandler (some (.Name x np)) (some n) (b₀ :: suite) pos'] [] [] pos) (sTry h i g) := by
  obtain ⟨ts, hsu, hread⟩ := su.ex
  refine ⟨_, ps_try_as (tb := tBody X fun W pn xe t => PSs (X.tr pn xe) body t) hst hfr hN hi hln hc takesNo (fun W pn xe h1 h2 => ⟨fun pins s σ H D I hw => ?_⟩) hsu, fun B σ H ρ D R po pn xe h1 h2 => ?_⟩
  · obtain ⟨t, ht, hd⟩ := hw pn xe h1 h2
    exact ht.run pins s σ H D I hd
  · obtain ⟨t, ht, hr⟩ := (hb _ pn xe (z.tr (takesN h1) h2)).ex
    refine ⟨t, ht, hr B σ H ρ D R ?_⟩
    unfold sTry at po
    cases hg : g ρ with
    | bad => rw [hg] at po; exact po.elim
    | exc kx => rw [hg] at po; exact po.elim
    | ok out =>
      rw [hg] at po
      cases out with
      | ex kx ρ' =>
        dsimp only at po
        cases hk : h kx with
        | none => rw [hk] at po; exact po.elim
        | some r =>
          rw [hk] at po
          obtain ⟨hi', po⟩ := Po.gd po
          rw [Bool.and_eq_true, decide_eq_true_eq] at hi'
          obtain ⟨hm, hrd⟩ := hread kx r hk
          rintro σ' H' M2 ⟨Fs, R'⟩
          refine ⟨true, hm, fun _ a _ => hrd a _ _ _ ?_ fun v hv => ?_, fun e => by cases e⟩
          · rw [List.getElem?_set_self (by rw [R'.len]; exact hi'.2)]
          · refine po v H' ⟨M2, Fs, σ', [], R', by simp, by simp, ?_⟩
            rcases hrs with rfl | rfl
            · exact ⟨rfl, hv.up fun _ z => z.elim⟩
            · exact .inl ⟨rfl, hi'.1, hv.up fun _ z => z.elim⟩
      | nx ρ' => exact po
      | rt d ρ' => exact po
      | bk ρ' => exact po
      | ct ρ' => exact po
theorem vs_setX1 {e : Expr} {y : XF} {rs : Sh} {m : Str} {p2 : Pos} (j : Nat) (h : VX X c M We e y) (hm : M j = .v 1) (hN : X.N.Nodup) (hi : X.N[j]? = some m := by rfl) (hx : L2.Loc X.env.scope m := by first | exact .inl rfl | exact .inr rfl) (hs : swapsWith e (some (.Name m p2)) pos.line X.env = pure false := by rfl)
    (hf : X.fn m = true ∨ X.env.scope.names.lookup m = some .local := by first | exact .inl rfl | exact .inr rfl) : VSt X c We rs Ml M M (.Assign [.Name m p2] e pos) (sSetX j y) := by
  obtain ⟨te, p, s⟩ := h.ex
  refine ⟨_, ps_set (i := j) hN hi hx p hs hf, fun B σ H ρ D R po => s B σ H ρ _ R ((Po.bind (r := y ρ) po).imp (fun r _ q => ?_) fun _ _ q H' hf => q σ H' hf)⟩
  cases r with
  | ex k ρ1 => exact fun H' R' => q σ H' M R'
  | v d ρ1 =>
    rintro v H' ⟨Fs, R'⟩ hv
    obtain ⟨hl, q⟩ := Po.gd q
    exact q _ H' (R'.setV hm (by decide) (of_decide_eq_true hl) (hv.up fun _ z => z.elim) (Same.refl H'))
/-! ### handlers -/
/-- what is told of an own error -/
structure WordK (K : PySem.W.Frag) (L : Addr) (C : Addr) : Prop where
  ec : ExcC K C
  m : PySem.W.exmOne K (.ref C) (.ref L) = some true
  v : PySem.W.kitOne K (.ref C) (.type "ValueError") = some true
def hWord (wf : Addr → Option Str) : Value → Option D := fun k => match k with
  | .ref C => (wf C).map .str
  | _ => none
def hMap (f : Str → D) (wf : Addr → Option Str) : Value → Option D := fun k => match k with
  | .ref C => (wf C).map f
  | _ => none
theorem hMap_some {f : Str → D} {wf : Addr → Option Str} {k : Value} {r : D} (h : hMap f wf k = some r) : ∃ C w, k = .ref C ∧ wf C = some w ∧ r = f w := by
  unfold hMap at h
  cases k with
  | ref C =>
    cases e : wf C with
    | none => simp [e] at h
    | some w =>
      simp [e] at h
      exact ⟨C, w, rfl, e, h.symm⟩
  | _ => cases h
theorem su_word {L : Addr} {y : Str} {wf : Addr → Option Str} {k' : Nat} {p1 p2 p3 : Pos} (z : Cz X c We k) (dw : Dw X.prog X.w X.K X.mg X.base k' y wf) (hk : k' ≤ k) (hw : ∀ C w, wf C = some w → PySem.W.exmOne X.K (.ref C) (.ref L) = some true) (hg : Gl X y := by rfl)
    (hN : X.N[i]? = some n := by rfl) (hv : Vis X.env.scope n := by first | exact Or.inl rfl | exact Or.inr (Or.inl rfl) | exact Or.inr (Or.inr rfl)) (hd : (n == ("__debug__" : Str)) = false := by decide) (hcd : (n == ("__classdict__" : Str)) = false := by decide) (hdb : (y == ("__debug__" : Str)) = false := by decide)
    (hs : starEach [.Name n p1] X.env = (false, eval (.Name n p1) X.env) :: starEach [] X.env := by rfl) (hpl : (backTo p2 (starEach [] X.env)).any (·.1) = false := by rfl) :
    Su X c (.ref L) i [.Return (some (.Call (.Name y p3) [.Name n p1] [] p2)) pos] (hMap .str wf) := by
  refine ⟨_, fun a oe cls d pn hz hf => pss_one (ps_ret (pe_word dw hk z.hr hz hf hg (pv i hN hv hd hcd) hdb hs hpl)), fun kx r hr => ?_⟩
  obtain ⟨C, w, rfl, hwc, rfl⟩ := hMap_some hr
  exact ⟨hw C w hwc, fun a σ H D hσ q => ⟨.ref a, hσ, _, rfl, rfl, rfl, C, w, rfl, hwc, q _ (.str w)⟩⟩
theorem su_wordEq {L : Addr} {y lit : Str} {j : Nat} {wf : Addr → Option Str} {k' : Nat} {p1 p2 p3 p4 p5 : Pos} (z : Cz X c We k) (dw : Dw X.prog X.w X.K X.mg X.base k' y wf) (hk : k' ≤ k) (hw : ∀ C w, wf C = some w → PySem.W.exmOne X.K (.ref C) (.ref L) = some true) (hg : Gl X y := by rfl)
    (hN : X.N[i]? = some n := by rfl) (hv : Vis X.env.scope n := by first | exact Or.inl rfl | exact Or.inr (Or.inl rfl) | exact Or.inr (Or.inr rfl)) (hd : (n == ("__debug__" : Str)) = false := by decide) (hcd : (n == ("__classdict__" : Str)) = false := by decide) (hdb : (y == ("__debug__" : Str)) = false := by decide)
    (hs : starEach [.Name n p1] X.env = (false, eval (.Name n p1) X.env) :: starEach [] X.env := by rfl) (hpl : (backTo p2 (starEach [] X.env)).any (·.1) = false := by rfl) :
    Su X c (.ref L) i [.Return (some (.Compare (.Call (.Name y p3) [.Name n p1] [] p2) [.Eq] [.Constant (.str lit) j p4] p5)) pos] (hMap (fun w => .bl (decide (w = lit))) wf) := by
  refine ⟨_, fun a oe cls d pn hz hf => pss_one (ps_ret (pe_cmpR (r := rEq) op_eq (pe_word dw hk z.hr hz hf hg (pv i hN hv hd hcd) hdb hs hpl) pe_str (nomark _))), fun kx r hr => ?_⟩
  obtain ⟨C, w, rfl, hwc, rfl⟩ := hMap_some hr
  exact ⟨hw C w hwc, fun a σ H D hσ q => ⟨.ref a, hσ, _, rfl, rfl, rfl, C, w, rfl, hwc, rfl, q _ (by rw [show decide (V.str w = V.str lit) = decide (w = lit) from by simp]; exact .bl _)⟩⟩
theorem su_isV {L : Addr} {wf : Addr → Option Str} {p1 p2 p3 p4 : Pos} (hw : ∀ C w, wf C = some w → WordK X.K L C) (hm : X.mg "isinstance" = none) (hmv : X.mg "ValueError" = none) (hg : Gl X "isinstance" := by rfl) (hgv : Gl X "ValueError" := by rfl)
    (hN : X.N[i]? = some n := by rfl) (hv : Vis X.env.scope n := by first | exact Or.inl rfl | exact Or.inr (Or.inl rfl) | exact Or.inr (Or.inr rfl)) (hd : (n == ("__debug__" : Str)) = false := by decide) (hcd : (n == ("__classdict__" : Str)) = false := by decide)
    (hs : starEach [.Name n p1, .Name "ValueError" p4] X.env = (false, eval (.Name n p1) X.env) :: starEach [.Name "ValueError" p4] X.env := by rfl) (hs1 : starEach [.Name "ValueError" p4] X.env = (false, eval (.Name "ValueError" p4) X.env) :: starEach [] X.env := by rfl)
    (hpl : (backTo p2 (starEach [.Name "ValueError" p4] X.env)).any (·.1) = false := by rfl) :
    Su X c (.ref L) i [.Return (some (.Call (.Name "isinstance" p3) [.Name n p1, .Name "ValueError" p4] [] p2)) pos] (hMap (fun _ => .bl true) wf) := by
  refine ⟨fun a cls d D σ H => d = none ∧ ∃ C w, cls = .ref C ∧ wf C = some w ∧ tRet (tCB (rIsE X.K C a) (tCons (tVar i) (tCons (tC (.ty "ValueError")) tNil))) D σ H, fun a oe cls d pn hz hf => pss_one ⟨fun pins s σ H D I hh => ?_⟩, fun kx r hr => ?_⟩
  · obtain ⟨rfl, C, w, rfl, hwc, ht⟩ := hh
    have p : PS (X.suite a ((a, oe) :: pn)) (.Return (some (.Call (.Name "isinstance" p3) [.Name n p1, .Name "ValueError" p4] [] p2)) pos) _ :=
      ps_ret (pe_callB (call_isP (X := X.suite a ((a, oe) :: pn)) List.mem_cons_self (hw C w hwc).ec hz hf) hg hm PyProof.Rows.boot_isinstance (pa_cons (pv i hN hv hd hcd) (pa_cons (pe_bltn (v := .ty "ValueError") hgv hmv (by decide +kernel) rfl (by decide) (by decide)) pa_nil hs1) hs) (by decide) (by decide) hs hpl)
    exact p.run pins s σ H D I ht
  · obtain ⟨C, w, rfl, hwc, rfl⟩ := hMap_some hr
    exact ⟨(hw C w hwc).m, fun a σ H D hσ q => ⟨rfl, C, w, rfl, hwc, .ref a, hσ, .ty "ValueError", .type "ValueError", true, rfl, fun u q => q, (hw C w hwc).v, q _ (.bl true)⟩⟩
end

/-! ### the own errors, and their words -/
class Exl extends Exs where
  word : Addr → Option Str
  wNoLand : word NoLand = some ("land" : Str)
  wNoHeight : word NoHeight = some ("height" : Str)
  wNoCell : word NoCell = some ("cell" : Str)
  wNoDrain : word NoDrain = some ("drain" : Str)
  wNoWay : word NoWay = some ("way" : Str)
  wNoRain : word NoRain = some ("rain" : Str)
  wall : ∀ C w, word C = some w → w = ("land" : Str) ∨ w = ("height" : Str) ∨ w = ("cell" : Str) ∨ w = ("drain" : Str) ∨ w = ("way" : Str) ∨ w = ("rain" : Str)
def wordB (b1 b2 b3 b4 b5 b6 : Bool) : Str := Txt.rstrip (if b6 = true then (if b5 = true then (if b4 = true then (if b3 = true then (if b2 = true then (if b1 = true then ("" : Str) ++ ("land " : Str) else ("" : Str)) ++ ("height " : Str) else (if b1 = true then ("" : Str) ++ ("land " : Str) else ("" : Str))) ++ ("cell " : Str) else (if b2 = true then (if b1 = true then ("" : Str) ++ ("land " : Str) else ("" : Str)) ++ ("height " : Str) else (if b1 = true then ("" : Str) ++ ("land " : Str) else ("" : Str)))) ++ ("drain " : Str) else (if b3 = true then (if b2 = true then (if b1 = true then ("" : Str) ++ ("land " : Str) else ("" : Str)) ++ ("height " : Str) else (if b1 = true then ("" : Str) ++ ("land " : Str) else ("" : Str))) ++ ("cell " : Str) else (if b2 = true then (if b1 = true then ("" : Str) ++ ("land " : Str) else ("" : Str)) ++ ("height " : Str) else (if b1 = true then ("" : Str) ++ ("land " : Str) else ("" : Str))))) ++ ("way " : Str) else (if b4 = true then (if b3 = true then (if b2 = true then (if b1 = true then ("" : Str) ++ ("land " : Str) else ("" : Str)) ++ ("height " : Str) else (if b1 = true then ("" : Str) ++ ("land " : Str) else ("" : Str))) ++ ("cell " : Str) else (if b2 = true then (if b1 = true then ("" : Str) ++ ("land " : Str) else ("" : Str)) ++ ("height " : Str) else (if b1 = true then ("" : Str) ++ ("land " : Str) else ("" : Str)))) ++ ("drain " : Str) else (if b3 = true then (if b2 = true then (if b1 = true then ("" : Str) ++ ("land " : Str) else ("" : Str)) ++ ("height " : Str) else (if b1 = true then ("" : Str) ++ ("land " : Str) else ("" : Str))) ++ ("cell " : Str) else (if b2 = true then (if b1 = true then ("" : Str) ++ ("land " : Str) else ("" : Str)) ++ ("height " : Str) else (if b1 = true then ("" : Str) ++ ("land " : Str) else ("" : Str)))))) ++ ("rain " : Str) else (if b5 = true then (if b4 = true then (if b3 = true then (if b2 = true then (if b1 = true then ("" : Str) ++ ("land " : Str) else ("" : Str)) ++ ("height " : Str) else (if b1 = true then ("" : Str) ++ ("land " : Str) else ("" : Str))) ++ ("cell " : Str) else (if b2 = true then (if b1 = true then ("" : Str) ++ ("land " : Str) else ("" : Str)) ++ ("height " : Str) else (if b1 = true then ("" : Str) ++ ("land " : Str) else ("" : Str)))) ++ ("drain " : Str) else (if b3 = true then (if b2 = true then (if b1 = true then ("" : Str) ++ ("land " : Str) else ("" : Str)) ++ ("height " : Str) else (if b1 = true then ("" : Str) ++ ("land " : Str) else ("" : Str))) ++ ("cell " : Str) else (if b2 = true then (if b1 = true then ("" : Str) ++ ("land " : Str) else ("" : Str)) ++ ("height " : Str) else (if b1 = true then ("" : Str) ++ ("land " : Str) else ("" : Str))))) ++ ("way " : Str) else (if b4 = true then (if b3 = true then (if b2 = true then (if b1 = true then ("" : Str) ++ ("land " : Str) else ("" : Str)) ++ ("height " : Str) else (if b1 = true then ("" : Str) ++ ("land " : Str) else ("" : Str))) ++ ("cell " : Str) else (if b2 = true then (if b1 = true then ("" : Str) ++ ("land " : Str) else ("" : Str)) ++ ("height " : Str) else (if b1 = true then ("" : Str) ++ ("land " : Str) else ("" : Str)))) ++ ("drain " : Str) else (if b3 = true then (if b2 = true then (if b1 = true then ("" : Str) ++ ("land " : Str) else ("" : Str)) ++ ("height " : Str) else (if b1 = true then ("" : Str) ++ ("land " : Str) else ("" : Str))) ++ ("cell " : Str) else (if b2 = true then (if b1 = true then ("" : Str) ++ ("land " : Str) else ("" : Str)) ++ ("height " : Str) else (if b1 = true then ("" : Str) ++ ("land " : Str) else ("" : Str)))))))
structure WordX [Exl] (K : PySem.W.Frag) (C : Addr) (r : Str) : Prop where
  k : WordK K Exs.LandError C
  ex : ∃ b1 b2 b3 b4 b5 b6 : Bool, PySem.W.kitOne K (.ref C) (.ref Exs.NoLand) = some b1 ∧ PySem.W.kitOne K (.ref C) (.ref Exs.NoHeight) = some b2 ∧ PySem.W.kitOne K (.ref C) (.ref Exs.NoCell) = some b3 ∧ PySem.W.kitOne K (.ref C) (.ref Exs.NoDrain) = some b4 ∧ PySem.W.kitOne K (.ref C) (.ref Exs.NoWay) = some b5 ∧ PySem.W.kitOne K (.ref C) (.ref Exs.NoRain) = some b6 ∧ wordB b1 b2 b3 b4 b5 b6 = r
/-- what the written part says of the error C -/
structure ErrF (K : PySem.W.Frag) (L e1 e2 e3 e4 e5 e6 C : Addr) (b1 b2 b3 b4 b5 b6 : Bool) : Prop where
  hg : PySem.W.findIn K (.ref C) "__getattribute__" = some (some (.builtin "BaseException.__getattribute__"))
  hk : PySem.W.findIn K (.ref C) "__getattr__" = some none
  hs : PySem.W.subIn K (.ref C) (.type "BaseException") = some true
  hd : PySem.W.hasDictIn K C = true
  ha : PySem.W.findIn K (.ref C) "__class__" = some (some (.builtin "object.__class__"))
  hn : PySem.W.specialIn K (.builtin "object.__class__") "__get__" = some (some (.builtin "getset_descriptor.__get__"))
  ht : PySem.W.takesIn K (.builtin "object.__class__") = some true
  hm : PySem.W.mroIn K C (.type "object") = some true
  t : PySem.W.typeIn K (.ref C) = some (.type "type")
  sL : PySem.W.subIn K (.ref C) (.ref L) = some true
  sV : PySem.W.subIn K (.ref C) (.type "ValueError") = some true
  s1 : PySem.W.subIn K (.ref C) (.ref e1) = some b1
  s2 : PySem.W.subIn K (.ref C) (.ref e2) = some b2
  s3 : PySem.W.subIn K (.ref C) (.ref e3) = some b3
  s4 : PySem.W.subIn K (.ref C) (.ref e4) = some b4
  s5 : PySem.W.subIn K (.ref C) (.ref e5) = some b5
  s6 : PySem.W.subIn K (.ref C) (.ref e6) = some b6
theorem kit_sub {K : PySem.W.Frag} {C E : Addr} {b : Bool} (hd : PySem.W.hasDictIn K E = true) (t : PySem.W.typeIn K (.ref E) = some (.type "type")) (s : PySem.W.subIn K (.ref C) (.ref E) = some b) (hb : C = E → b = true) : PySem.W.kitOne K (.ref C) (.ref E) = some b := by
  unfold PySem.W.kitOne
  by_cases h : C = E
  · subst h
    rw [if_pos (by simp), hb rfl]
  · rw [if_neg (by simpa using h)]
    have hc : (PySem.W.clsIn K E).isSome = true := by
      obtain ⟨cd, h1, _⟩ := PySem.W.any_some hd
      rw [h1]; rfl
    have e : ((PySem.W.clsIn K E).isSome && PySem.W.typeIn K (.ref E) == some (.type "type")) = true := by
      rw [hc, t]; rfl
    show (if ((PySem.W.clsIn K E).isSome && PySem.W.typeIn K (.ref E) == some (.type "type")) = true then PySem.W.subIn K (.ref C) (.ref E) else none) = some b
    rw [if_pos e]
    exact s
theorem kit_ve {K : PySem.W.Frag} {C : Addr} (s : PySem.W.subIn K (.ref C) (.type "ValueError") = some true) : PySem.W.kitOne K (.ref C) (.type "ValueError") = some true := by
  have e : PySem.W.kitMeta "ValueError" = true := by decide +kernel
  show (if (Value.ref C == Value.type "ValueError") = true then some true else (if PySem.W.kitMeta "ValueError" = true then PySem.W.subIn K (.ref C) (.type "ValueError") else none)) = some true
  rw [if_neg (by simp), if_pos e]
  exact s
@[reducible] def exl (L e1 e2 e3 e4 e5 e6 : Addr) (nd : [e1, e2, e3, e4, e5, e6].Nodup) : Exl where
  LandError := L
  NoLand := e1
  NoHeight := e2
  NoCell := e3
  NoDrain := e4
  NoWay := e5
  NoRain := e6
  word := fun a => if a = e1 then some ("land" : Str) else if a = e2 then some ("height" : Str) else if a = e3 then some ("cell" : Str) else if a = e4 then some ("drain" : Str) else if a = e5 then some ("way" : Str) else if a = e6 then some ("rain" : Str) else none
  wNoLand := by
    simp only [List.nodup_cons, List.mem_cons, List.not_mem_nil, or_false, not_or] at nd
    simp [nd, Ne.symm, eq_comm]
  wNoHeight := by
    simp only [List.nodup_cons, List.mem_cons, List.not_mem_nil, or_false, not_or] at nd
    simp [nd, Ne.symm, eq_comm]
  wNoCell := by
    simp only [List.nodup_cons, List.mem_cons, List.not_mem_nil, or_false, not_or] at nd
    simp [nd, Ne.symm, eq_comm]
  wNoDrain := by
    simp only [List.nodup_cons, List.mem_cons, List.not_mem_nil, or_false, not_or] at nd
    simp [nd, Ne.symm, eq_comm]
  wNoWay := by
    simp only [List.nodup_cons, List.mem_cons, List.not_mem_nil, or_false, not_or] at nd
    simp [nd, Ne.symm, eq_comm]
  wNoRain := by
    simp only [List.nodup_cons, List.mem_cons, List.not_mem_nil, or_false, not_or] at nd
    simp [nd, Ne.symm, eq_comm]
  wall := fun C w h => by
    have h : (if C = e1 then some ("land" : Str) else if C = e2 then some ("height" : Str) else if C = e3 then some ("cell" : Str) else if C = e4 then some ("drain" : Str) else if C = e5 then some ("way" : Str) else if C = e6 then some ("rain" : Str) else none) = some w := h
    repeat' split at h
    all_goals first | (cases h; simp) | cases h
theorem exl_word {K : PySem.W.Frag} {L e1 e2 e3 e4 e5 e6 : Addr} (nd : [e1, e2, e3, e4, e5, e6].Nodup) (bL : PySem.W.subIn K (.ref L) (.type "BaseException") = some true) (tL : PySem.W.typeIn K (.ref L) = some (.type "type")) (hdL : PySem.W.hasDictIn K L = true) (f1 : ErrF K L e1 e2 e3 e4 e5 e6 e1 true false false false false false) (f2 : ErrF K L e1 e2 e3 e4 e5 e6 e2 false true false false false false) (f3 : ErrF K L e1 e2 e3 e4 e5 e6 e3 false false true false false false) (f4 : ErrF K L e1 e2 e3 e4 e5 e6 e4 false false false true false false) (f5 : ErrF K L e1 e2 e3 e4 e5 e6 e5 false false false false true false) (f6 : ErrF K L e1 e2 e3 e4 e5 e6 e6 false false false false false true) :
    letI := exl L e1 e2 e3 e4 e5 e6 nd
    ∀ C r, Exl.word C = some r → WordX K C r := by
  intro C r h
  have ne : ∀ i j : Nat, ∀ x y : Addr, [e1, e2, e3, e4, e5, e6][i]? = some x → [e1, e2, e3, e4, e5, e6][j]? = some y → i ≠ j → x ≠ y := fun i j x y hx hy hij e => hij ((List.getElem?_inj (List.getElem?_eq_some_iff.mp hx).1 nd).mp (by rw [hx, hy, e]))
  have h2 : (if C = e1 then some ("land" : Str) else if C = e2 then some ("height" : Str) else if C = e3 then some ("cell" : Str) else if C = e4 then some ("drain" : Str) else if C = e5 then some ("way" : Str) else if C = e6 then some ("rain" : Str) else none) = some r := h
  clear h
  by_cases z1 : C = e1
  · rw [if_pos z1] at h2
    obtain rfl := Option.some.inj h2
    rw [z1]
    exact @WordX.mk (exl L _ _ _ _ _ _ nd) _ _ _ ⟨⟨f1.hg, f1.hk, f1.hs, f1.hd, f1.ha, f1.hn, f1.ht, f1.hm⟩, PySem.W.exm_ref bL hdL tL f1.sL, kit_ve f1.sV⟩ ⟨_, _, _, _, _, _, kit_sub f1.hd f1.t f1.s1 (fun _ => rfl), kit_sub f2.hd f2.t f1.s2 (fun z => absurd z (ne 0 1 _ _ rfl rfl (by decide))), kit_sub f3.hd f3.t f1.s3 (fun z => absurd z (ne 0 2 _ _ rfl rfl (by decide))), kit_sub f4.hd f4.t f1.s4 (fun z => absurd z (ne 0 3 _ _ rfl rfl (by decide))), kit_sub f5.hd f5.t f1.s5 (fun z => absurd z (ne 0 4 _ _ rfl rfl (by decide))), kit_sub f6.hd f6.t f1.s6 (fun z => absurd z (ne 0 5 _ _ rfl rfl (by decide))), by decide +kernel⟩
  rw [if_neg z1] at h2
  by_cases z2 : C = e2
  · rw [if_pos z2] at h2
    obtain rfl := Option.some.inj h2
    rw [z2]
    exact @WordX.mk (exl L _ _ _ _ _ _ nd) _ _ _ ⟨⟨f2.hg, f2.hk, f2.hs, f2.hd, f2.ha, f2.hn, f2.ht, f2.hm⟩, PySem.W.exm_ref bL hdL tL f2.sL, kit_ve f2.sV⟩ ⟨_, _, _, _, _, _, kit_sub f1.hd f1.t f2.s1 (fun z => absurd z (ne 1 0 _ _ rfl rfl (by decide))), kit_sub f2.hd f2.t f2.s2 (fun _ => rfl), kit_sub f3.hd f3.t f2.s3 (fun z => absurd z (ne 1 2 _ _ rfl rfl (by decide))), kit_sub f4.hd f4.t f2.s4 (fun z => absurd z (ne 1 3 _ _ rfl rfl (by decide))), kit_sub f5.hd f5.t f2.s5 (fun z => absurd z (ne 1 4 _ _ rfl rfl (by decide))), kit_sub f6.hd f6.t f2.s6 (fun z => absurd z (ne 1 5 _ _ rfl rfl (by decide))), by decide +kernel⟩
  rw [if_neg z2] at h2
  by_cases z3 : C = e3
  · rw [if_pos z3] at h2
    obtain rfl := Option.some.inj h2
    rw [z3]
    exact @WordX.mk (exl L _ _ _ _ _ _ nd) _ _ _ ⟨⟨f3.hg, f3.hk, f3.hs, f3.hd, f3.ha, f3.hn, f3.ht, f3.hm⟩, PySem.W.exm_ref bL hdL tL f3.sL, kit_ve f3.sV⟩ ⟨_, _, _, _, _, _, kit_sub f1.hd f1.t f3.s1 (fun z => absurd z (ne 2 0 _ _ rfl rfl (by decide))), kit_sub f2.hd f2.t f3.s2 (fun z => absurd z (ne 2 1 _ _ rfl rfl (by decide))), kit_sub f3.hd f3.t f3.s3 (fun _ => rfl), kit_sub f4.hd f4.t f3.s4 (fun z => absurd z (ne 2 3 _ _ rfl rfl (by decide))), kit_sub f5.hd f5.t f3.s5 (fun z => absurd z (ne 2 4 _ _ rfl rfl (by decide))), kit_sub f6.hd f6.t f3.s6 (fun z => absurd z (ne 2 5 _ _ rfl rfl (by decide))), by decide +kernel⟩
  rw [if_neg z3] at h2
  by_cases z4 : C = e4
  · rw [if_pos z4] at h2
    obtain rfl := Option.some.inj h2
    rw [z4]
    exact @WordX.mk (exl L _ _ _ _ _ _ nd) _ _ _ ⟨⟨f4.hg, f4.hk, f4.hs, f4.hd, f4.ha, f4.hn, f4.ht, f4.hm⟩, PySem.W.exm_ref bL hdL tL f4.sL, kit_ve f4.sV⟩ ⟨_, _, _, _, _, _, kit_sub f1.hd f1.t f4.s1 (fun z => absurd z (ne 3 0 _ _ rfl rfl (by decide))), kit_sub f2.hd f2.t f4.s2 (fun z => absurd z (ne 3 1 _ _ rfl rfl (by decide))), kit_sub f3.hd f3.t f4.s3 (fun z => absurd z (ne 3 2 _ _ rfl rfl (by decide))), kit_sub f4.hd f4.t f4.s4 (fun _ => rfl), kit_sub f5.hd f5.t f4.s5 (fun z => absurd z (ne 3 4 _ _ rfl rfl (by decide))), kit_sub f6.hd f6.t f4.s6 (fun z => absurd z (ne 3 5 _ _ rfl rfl (by decide))), by decide +kernel⟩
  rw [if_neg z4] at h2
  by_cases z5 : C = e5
  · rw [if_pos z5] at h2
    obtain rfl := Option.some.inj h2
    rw [z5]
    exact @WordX.mk (exl L _ _ _ _ _ _ nd) _ _ _ ⟨⟨f5.hg, f5.hk, f5.hs, f5.hd, f5.ha, f5.hn, f5.ht, f5.hm⟩, PySem.W.exm_ref bL hdL tL f5.sL, kit_ve f5.sV⟩ ⟨_, _, _, _, _, _, kit_sub f1.hd f1.t f5.s1 (fun z => absurd z (ne 4 0 _ _ rfl rfl (by decide))), kit_sub f2.hd f2.t f5.s2 (fun z => absurd z (ne 4 1 _ _ rfl rfl (by decide))), kit_sub f3.hd f3.t f5.s3 (fun z => absurd z (ne 4 2 _ _ rfl rfl (by decide))), kit_sub f4.hd f4.t f5.s4 (fun z => absurd z (ne 4 3 _ _ rfl rfl (by decide))), kit_sub f5.hd f5.t f5.s5 (fun _ => rfl), kit_sub f6.hd f6.t f5.s6 (fun z => absurd z (ne 4 5 _ _ rfl rfl (by decide))), by decide +kernel⟩
  rw [if_neg z5] at h2
  by_cases z6 : C = e6
  · rw [if_pos z6] at h2
    obtain rfl := Option.some.inj h2
    rw [z6]
    exact @WordX.mk (exl L _ _ _ _ _ _ nd) _ _ _ ⟨⟨f6.hg, f6.hk, f6.hs, f6.hd, f6.ha, f6.hn, f6.ht, f6.hm⟩, PySem.W.exm_ref bL hdL tL f6.sL, kit_ve f6.sV⟩ ⟨_, _, _, _, _, _, kit_sub f1.hd f1.t f6.s1 (fun z => absurd z (ne 5 0 _ _ rfl rfl (by decide))), kit_sub f2.hd f2.t f6.s2 (fun z => absurd z (ne 5 1 _ _ rfl rfl (by decide))), kit_sub f3.hd f3.t f6.s3 (fun z => absurd z (ne 5 2 _ _ rfl rfl (by decide))), kit_sub f4.hd f4.t f6.s4 (fun z => absurd z (ne 5 3 _ _ rfl rfl (by decide))), kit_sub f5.hd f5.t f6.s5 (fun z => absurd z (ne 5 4 _ _ rfl rfl (by decide))), kit_sub f6.hd f6.t f6.s6 (fun _ => rfl), by decide +kernel⟩
  rw [if_neg z6] at h2
  cases h2
end VS
set_option Elab.async false
set_option linter.all false
set_option maxRecDepth 100000
set_option maxHeartbeats 2000000
/-! VJ: what is an own list or never changes; reverse, max of a list. -/
namespace VS
open PySem L2
section
variable {X : Cx} {c : Ct} {M M' Ml : Nat → Mo} {We : WX} {al k : Nat} {e : Expr} {f : EF} {g : SF} {rs : Sh} {sts : List Stmt} {pos : Pos}
theorem Own.lm {W : Addr → Prop} {H : Hp} {v : V} {d : D} {F : List Addr} (h : Own c W H (.l .fz) v d F) : Own c W H .m v d F := by
  obtain ⟨a, xs, ds, Gs, e1, e2, h1, h2, e3⟩ := h
  have q := h2.ofFz
  rw [q.2] at e3
  exact .inr ⟨a, xs, ds, e1, e2, h1, q.1, e3⟩
theorem VO.toM (h : VO X c M We (.l .fz) e f) : VO X c M We .m e f := by
  obtain ⟨te, p, s⟩ := h.ex
  exact ⟨te, p, fun w σ H ρ Q sl po => s w σ H ρ Q sl (po.imp (fun d _ q v H' F hs hn nd ho => q v H' F hs hn nd ho.lm) fun _ _ q => q)⟩
theorem VE.toM (h : VE X c M We al e f) : VO X c M We .m e (eImm f) := by
  obtain ⟨te, p, s⟩ := h.ex
  refine ⟨te, p, fun w σ H ρ Q sl po => s w σ H ρ Q sl ((Po.bind po).imp (fun d _ q v H' hs hi => ?_) fun _ _ q => q)⟩
  obtain ⟨hd, q⟩ := Po.gd q
  exact q v H' [] hs (by simp) (by simp) (.inl ⟨rfl, hd, hi.imm (fun _ _ _ x => x) hd⟩)
/-- it is a list from here on -/
def sAsL (i : Nat) (g : SF) : SF := fun ρ => (eVar i ρ).bind fun x => (lstD x).bind fun _ => g ρ
theorem vss_asL (i : Nat) (hm : M i = .o .m) (h : VSs X c We rs Ml (fset M i (.o (.l .fz))) M' sts g) : VSs X c We rs Ml M M' sts (sAsL i g) := by
  obtain ⟨t, p, s'⟩ := h.ex
  refine ⟨t, p, fun B σ H ρ D R po => ?_⟩
  obtain ⟨ds, er, po⟩ := po_lst po
  refine s' B σ H ρ D ?_ po
  obtain ⟨Fs, R⟩ := R
  refine ⟨Fs, R.nd, R.dj, R.th, R.fr, R.out, fun j s hs a ha => ?_, R.old, fun j d e => ?_, fun q hq => ?_, R.len⟩
  · by_cases hj : j = i
    · rw [hj] at ha; exact R.own i _ hm a ha
    · rw [fset_ne hj] at hs; exact R.own j s hs a ha
  · obtain ⟨v, e1, e2⟩ := R.sl j d e
    refine ⟨v, e1, ?_⟩
    by_cases hj : j = i
    · subst hj
      rw [fset_self]
      rw [hm] at e2
      rw [er] at e
      cases e
      rcases e2 with ⟨_, hd, _⟩ | ⟨a, xs, ds', h1, h2, h3, h4, h5⟩
      · rw [imm_lst] at hd; cases hd
      · obtain ⟨Gs, g1, g2⟩ := h4.toP3
        exact ⟨a, xs, ds', Gs, h1, h2, h3, g1, by rw [h5, g2]⟩
    · rw [fset_ne hj]; exact e2
  · obtain ⟨h1, h2⟩ := R.mp q hq
    refine ⟨h1, ?_⟩
    rw [fset_ne (fun e => by rw [e, hm] at h2; cases h2)]
    exact h2
theorem IsA.reverse {W : Addr → Prop} {H : Hp} : ∀ {vs : List V} {ds : List D}, IsA c W H vs ds → IsA c W H vs.reverse ds.reverse
  | _, _, .nil => .nil
  | _, _, .cons h t => by
    rw [List.reverse_cons, List.reverse_cons]
    exact t.reverse.append (.cons h .nil)
def sRev (i : Nat) : SF := fun ρ => (eVar i ρ).bind fun x => (lstD x).bind fun l => .ok (.nx (ρ.set i (some (.lst l.reverse))))
/-- x.reverse(), x its own list -/
theorem vs_rev {x : Str} {p2 apos cpos : Pos} (i : Nat) (hm : M i = .o (.l .fz)) (hN : X.N[i]? = some x := by rfl) (hv : Vis X.env.scope x := by first | exact Or.inl rfl | exact Or.inr (Or.inl rfl) | exact Or.inr (Or.inr rfl)) (hd : (x == ("__debug__" : Str)) = false := by decide)
    (hcd : (x == ("__classdict__" : Str)) = false := by decide) (hbase : attributeBase (.Name x p2) "reverse" X.env (eval (.Name x p2) X.env) = eval (.Name x p2) X.env := by rfl) (hline : (apos.endLine == cpos.line) = true := by rfl)
    (hs : swapsWith (.Call (.Attribute (.Name x p2) "reverse" apos) [] [] cpos) none pos.line X.env = pure false := by rfl) :
    VSt X c We rs Ml M M (.Expr (.Call (.Attribute (.Name x p2) "reverse" apos) [] [] cpos) pos) (sRev i) := by
  refine ⟨_, ps_expr (pe_bm0 PySem.F.plainAttrs_list PySem.F.slot_list_reverse PySem.F.type_list_reverse mt_reverse (pv i hN hv hd hcd) hbase hline) hs, fun B σ H ρ D R po => ?_⟩
  obtain ⟨Fs, R⟩ := R
  obtain ⟨ds, er, po⟩ := po_lst po
  obtain ⟨p, xs, Gs, h1, hp, h3, eF, keep, put⟩ := R.lst hm er
  have e0 := h3.ofFz.2
  have sub : ∀ a, (wd B Fs).n a → (wd B (fset Fs i [p])).n a := fun a x => ⟨fun l z => by
    by_cases hl : l = i
    · rw [hl, fset_self] at z
      exact x.1 i (by rw [eF, e0]; exact z)
    · rw [fset_ne hl] at z; exact x.1 l z, x.2⟩
  have h4 := h3.imp fun v d G hG ho => keep H (.lst xs.reverse) (wd B (fset Fs i [p])).n v d G (Same.refl H) hG (fun a x _ => sub a x) ho
  obtain ⟨Gs', g1, g2⟩ := h4.ofFz.1.reverse.toP3
  refine ⟨_, h1, .inl ⟨rfl, xs, .of hp⟩, p, xs, rfl, rfl, hp, po _ _ ⟨_, put H xs.reverse ds.reverse Gs' (Same.refl H) ?_ ?_ ?_⟩⟩
  · rw [g2]; exact g1
  · rw [g2]; simp
  · rw [g2]; simp
/-! ### max of a list of whole numbers -/
def intsD : List D → Option (List Int)
  | [] => some []
  | .int i :: ds => (intsD ds).map (i :: ·)
  | _ => none
def maxI : Int → List Int → Int
  | m, [] => m
  | m, i :: is => maxI (if m < i then i else m) is
theorem maxI_ge : ∀ (is : List Int) (m : Int), m ≤ maxI m is ∧ ∀ y ∈ is, y ≤ maxI m is
  | [], m => ⟨Int.le_refl _, by simp⟩
  | i :: is, m => by
    obtain ⟨h1, h2⟩ := maxI_ge is (if m < i then i else m)
    refine ⟨?_, fun y hy => ?_⟩
    · refine Int.le_trans ?_ h1
      split <;> omega
    · rcases List.mem_cons.mp hy with e | e
      · subst e
        refine Int.le_trans ?_ h1
        split <;> omega
      · exact h2 y e
theorem maxI_mem : ∀ (is : List Int) (m : Int), maxI m is ∈ m :: is
  | [], m => by simp [maxI]
  | i :: is, m => by
    show maxI (if m < i then i else m) is ∈ m :: i :: is
    rcases List.mem_cons.mp (maxI_mem is (if m < i then i else m)) with h | h
    · rw [h]
      split <;> simp
    · simp [h]
theorem intsD_is {W : Addr → Prop} {H : Hp} : ∀ {xs : List V} {ds : List D} {ns : List Int}, IsA c W H xs ds → intsD ds = some ns → xs = ns.map V.int
  | _, [], _, .nil, h => by cases h; rfl
  | _, d :: ds, ns, .cons h t, e => by
    cases d with
    | int i =>
      cases e2 : intsD ds with
      | none => simp [intsD, e2] at e
      | some ms =>
        simp [intsD, e2] at e
        subst e
        rw [is_int h, intsD_is t e2]; rfl
    | _ => cases e
def maxLD : D → O D
  | .lst ds => match intsD ds with
    | some (i :: is) => .ok (.int (maxI i is))
    | _ => .bad
  | _ => .bad
theorem ve_maxL {p : Pos} (z : Cz X c We k) (h : VE X c M We al e f) (hg : Gl X "max") (hm : X.mg "max" = none) (hs : starEach [e] X.env = (false, eval e X.env) :: starEach [] X.env := by rfl) (hpl : (backTo pos (starEach [] X.env)).any (·.1) = false := by rfl) :
    VE X c M We 0 (.Call (.Name "max" p) [e] [] pos) (e1 maxLD f) := by
  obtain ⟨te, pe, s⟩ := h.ex
  refine ⟨_, pe_callB (cr_max z.calm) hg hm (by decide +kernel) (pa_cons pe pa_nil hs) (by decide) (by decide) hs hpl, fun w σ H ρ Q sl po => s w σ H ρ _ sl ((Po.bind po).imp (fun d _ q v H1 hs1 hi => ?_) fun _ _ q => q)⟩
  cases d with
  | lst l =>
    obtain ⟨a, xs, rfl, h1, h2⟩ := is_lst hi
    cases e2 : intsD l with
    | none => simp only [maxLD, e2] at q; exact q.elim
    | some ns =>
      cases ns with
      | nil => simp only [maxLD, e2] at q; exact q.elim
      | cons i is =>
        simp only [maxLD, e2] at q
        refine ⟨a, i :: is, rfl, by rw [z.K, ← intsD_is h2 e2]; exact h1, by simp, fun m hm hy => ?_⟩
        have e3 : m = maxI i is := by
          obtain ⟨g1, g2⟩ := maxI_ge is i
          refine Int.le_antisymm ?_ (hy _ (maxI_mem is i))
          rcases List.mem_cons.mp hm with e | e
          · rw [e]; exact g1
          · exact g2 m e
        rw [e3]
        exact q _ H1 hs1 (.int _)
  | _ => exact q.elim
end
/-! ### list + list, list * int -/
section
open PySem.Spec PyProof.Rows
def rCatL (K : PySem.W.Frag) : R2 := fun x y H Q => ∃ l b xs zs, x = .ref l ∧ y = .ref b ∧ SqL K H l xs ∧ SqL K H b zs ∧ xs.length + zs.length ≤ sizeLine ∧ ∀ p, H p = none → Q (.ref p) (upd H p (.lst (xs ++ zs)))
theorem op_catL {X : Cx} : OpR X (binaryOp .Add) (rCatL X.K) := by
  intro pins s σ H x y v u Q I rx ry h
  obtain ⟨l, b, xs, zs, rfl, rfl, hH, hB, hz, q⟩ := h
  cases rx
  cases ry
  obtain ⟨its, r, hl, _⟩ := I.list hH
  obtain ⟨its2, r2, hb, _⟩ := I.list hB
  obtain ⟨⟨cls, dd, data, sl⟩, n, ho, hc, hdd, hd⟩ := hl
  obtain ⟨⟨cls2, dd2, data2, sl2⟩, n2, ho2, hc2, hdd2, hd2⟩ := hb
  simp only at hc hd hc2 hd2
  subst hc hd hc2 hd2
  have e1 := r.length
  have e2 := r2.length
  have ea : its.toArray ++ its2.toArray = (its ++ its2).toArray := by simp
  refine PySem.concat_meets ⟨_, ho, rfl⟩ ⟨_, ho2, rfl⟩ PySem.noFill_list_add PySem.seq_list_add PySem.F.slot_list_add PySem.F.entry_list_add (PySem.F.args_list_add_2 _ _) (PyProof.Rows.list_addW l b its.toArray its2.toArray n n2 dd dd2 sl sl2 (by rw [List.size_toArray, List.size_toArray]; omega)) ⟨ho, ho2, ?_⟩
  rw [ea]
  exact ⟨.ref _, _, I.lnew (t' := s.toks) (r.append r2) (by rw [List.length_append]; omega), rfl, q _ I.fresh⟩
end
section
variable {X : Cx} {c : Ct} {M M' Ml : Nat → Mo} {We : WX} {al al' k i : Nat} {e a b : Expr} {es : List Expr} {f fa fb : EF} {fs : AF} {g : SF} {rs : Sh} {sts : List Stmt} {pos pos' : Pos}
def catD : D → D → O D
  | .lst xs, .lst ys => gd (decide (xs.length + ys.length ≤ 100000)) (.ok (.lst (xs ++ ys)))
  | _, _ => .bad
/-- a list whose items may stand in a new one -/
structure VLs (X : Cx) (c : Ct) (M : Nat → Mo) (We : WX) (e : Expr) (f : EF) : Prop where
  ex : ∃ te, PE X e te ∧ ∀ (w : Wd) (σ : L2.St) (H : Hp) (ρ : Rho) (Q : VK), Sl c M w H σ ρ →
    Po (f ρ) (fun d => ∀ v H', Same H H' → (∀ l, d = .lst l → ∃ a xs, v = .ref a ∧ SqL c.K H' a xs ∧ IsA c (NW w 0 H) H' xs l ∧ ∀ H'', Same H' H'' → SqL c.K H'' a xs) → Q v H') (fun k => ∀ H', Same H H' → We k none σ H') → te σ H Q
theorem VE.toLs (h : VE X c M We 0 e f) : VLs X c M We e f := by
  obtain ⟨te, p, s⟩ := h.ex
  refine ⟨te, p, fun w σ H ρ Q sl po => s w σ H ρ Q sl (po.imp (fun d _ q v H' hs hi => q v H' hs fun l e => ?_) fun _ _ q => q)⟩
  subst e
  obtain ⟨a, xs0, rfl, _, _⟩ := is_lst hi
  obtain ⟨xs, h1, h2, h3⟩ := sq_list (xs := xs0) hi
  exact ⟨a, xs, rfl, h2, h1, fun H'' hs2 => h3 H'' fun a o _ e => hs2 a o e⟩
def eImmL (f : EF) : EF := fun ρ => (f ρ).bind fun d => (lstD d).bind fun l => gd (VS.immA l) (.ok (.lst l))
theorem VE.toLsI (h : VE X c M We al e f) : VLs X c M We e (eImmL f) := by
  obtain ⟨te, p, s⟩ := h.ex
  refine ⟨te, p, fun w σ H ρ Q sl po => s w σ H ρ Q sl ((Po.bind po).imp (fun d _ q v H' hs hi => ?_) fun _ _ q => q)⟩
  cases d with
  | lst l =>
    obtain ⟨him, q⟩ := Po.gd (b := VS.immA l) (x := O.ok (D.lst l)) q
    refine q v H' hs fun l' e => ?_
    cases e
    obtain ⟨a, xs0, rfl, _, _⟩ := is_lst hi
    obtain ⟨xs, h1, h2, h3⟩ := sq_list (xs := xs0) hi
    exact ⟨a, xs, rfl, h2, h1.immA him, fun H'' hs2 => h3 H'' fun a o _ e => hs2 a o e⟩
  | _ => exact q.elim
theorem vo_cat (z : Cz X c We k) (ha : VLs X c M We a fa) (hb : VLs X c M We b fb) : VO X c M We (.l .fz) (.BinOp a .Add b pos) (e2 catD fa fb) := by
  obtain ⟨ta, pa, sa⟩ := ha.ex
  obtain ⟨tb, pb, sb⟩ := hb.ex
  refine ⟨_, pe_op op_catL pa pb, fun w σ H ρ Q sl po => sa w σ H ρ _ sl ((Po.bind po).imp (fun d _ q v H1 hs1 hi1 => ?_) fun _ _ q => q)⟩
  refine sb w σ H1 ρ _ (sl.same hs1) ((Po.bind q).imp (fun d2 _ q v2 H2 hs2 hi2 => ?_) fun _ _ q H2 hs2 => q H2 (hs1.trans hs2))
  cases d with
  | lst l =>
    cases d2 with
    | lst l2 =>
      obtain ⟨hz, q⟩ := Po.gd q
      obtain ⟨p1, xs, rfl, h1, h2, h1'⟩ := hi1 l rfl
      obtain ⟨p2, ys, rfl, h3, h4, _⟩ := hi2 l2 rfl
      have h2 := h2.same hs2
      have h4' : IsA c (NW w 0 H) H2 ys l2 := h4.up (NW.back hs1)
      refine ⟨p1, p2, xs, ys, rfl, rfl, by rw [z.K]; exact h1' H2 hs2, by rw [z.K]; exact h3, Nat.le_trans (by rw [h2.length, h4.length]; exact of_decide_eq_true hz) (by decide : 100000 ≤ sizeLine), fun p hp => ?_⟩
      have hs := hs1.trans hs2
      have hi : IsA c (NW w 0 H) H2 (xs ++ ys) (l ++ l2) := h2.append h4'
      refine q _ _ [p] (same_new hs hp) (fun a ha => ?_) (by simp) ?_
      · have e : a = p := by simpa using ha
        rw [e]; exact hs.free hp
      · have hi3 : IsA c (fun a => NW w 0 H a ∧ a ∉ [p]) (upd H2 p (.lst (xs ++ ys))) (xs ++ ys) (l ++ l2) := (hi.track.up fun a x => ⟨x.1, fun z => x.2 (by have e : a = p := (by simpa using z); rw [e]; exact hp)⟩).same (same_new (Same.refl _) hp)
        obtain ⟨Gs, g1, g2⟩ := hi3.toP3
        exact ⟨p, _, _, Gs, rfl, rfl, upd_same, g1, by rw [g2]⟩
    | _ => exact q.elim
  | _ => cases d2 <;> exact q.elim
/-! ### a tuple that begins with an own list -/
def eTupL (f : EF) (fs : AF) : EF := fun ρ => (f ρ).bind fun d => (fs ρ).bind fun es => gd (VS.immA es && decide (es.length < 100000)) (.ok (.tup (d :: es)))
theorem vo_tupL {x1} (h : VO X c M We (.l .fz) e f) (t : VA X c M We al es fs) (hs : starEach (e :: es) X.env = (false, eval e X.env) :: starEach es X.env := by rfl) : VO X c M We .tl (.Tuple (e :: es) x1 pos) (eTupL f fs) := by
  obtain ⟨te, p, s⟩ := h.ex
  obtain ⟨ta, p', s'⟩ := t.ex
  refine ⟨_, pe_tup (pa_cons p p' hs), fun w σ H ρ Q sl po => ?_⟩
  refine s w σ H ρ _ sl ((Po.bind po).imp (fun d _ q v H1 F hs1 hn nd ho => ?_) fun _ _ q => q)
  obtain ⟨a, xs, ds, Gs, rfl, rfl, ha, h3, eF⟩ := ho
  obtain ⟨h4, h5⟩ := h3.ofFz
  rw [h5] at eF
  subst eF
  refine s' w σ H1 ρ _ (sl.same hs1) ((Po.bind q).imp (fun es' _ q vs H2 hs2 hi2 => ?_) fun _ _ q H2 hs2 => q H2 (hs1.trans hs2))
  obtain ⟨hd, q⟩ := Po.gd q
  rw [Bool.and_eq_true, decide_eq_true_eq] at hd
  have hs12 := hs1.trans hs2
  refine ⟨sz_ok (by rw [List.length_cons, hi2.length]; omega), fun t ht => ?_⟩
  have hna : H a = none := hn a (by simp)
  have h2t : ∀ o, H2 a = some o → a ≠ t := fun o e z => by rw [z, ht] at e; cases e
  refine q _ _ [a] (same_new hs12 ht) (fun x hx => by rw [List.mem_singleton.mp hx]; exact hna) (by simp) ⟨t, a, xs, ds, vs, es', rfl, rfl, upd_same, ?_, ?_, ?_, rfl⟩
  · rw [upd_ne (h2t _ (hs2 _ _ ha))]; exact hs2 _ _ ha
  · exact (h4.same hs2).same (same_new (Same.refl _) ht)
  · exact (hi2.immA hd.1).same (same_new (Same.refl _) ht)
/-- its list -/
theorem vo_tl0 {j : Nat} {p2 : Pos} (h : VO X c M We .tl e f) (hs : PlainIx (.Constant (.int 0) j p2) := by exact fun _ _ => rfl) : VO X c M We (.l .fz) (.Subscript e (.Constant (.int 0) j p2) pos) (e2 ixD f (eC (.int 0))) := by
  obtain ⟨te, p, s⟩ := h.ex
  refine ⟨_, pe_ix ix_tup p pe_int hs, fun w σ H ρ Q sl po => s w σ H ρ _ sl ((Po.bind po).imp (fun d _ q v H1 F hs1 hn nd ho => ?_) fun _ _ q => q)⟩
  obtain ⟨t, a, xs, ds, vs, es, rfl, rfl, h0, h1, h2, h3, rfl⟩ := ho
  have hat : atI (V.ref a :: vs) 0 = some (V.ref a) := by unfold L2.atI L2.ixN; simp
  refine ⟨t, _, 0, .ref a, rfl, rfl, .of h0, hat, ?_⟩
  have q : Po (ixD (.tup (.lst ds :: es)) (.int 0)) _ _ := q
  have hx : ixD (.tup (.lst ds :: es)) (.int 0) = .ok (.lst ds) := by
    show ofO (atI (D.lst ds :: es) 0) = _
    unfold L2.atI L2.ixN
    simp
  rw [hx] at q
  obtain ⟨Gs, g1, g2⟩ := h2.toP3
  exact q _ H1 [a] hs1 hn nd ⟨a, xs, ds, Gs, rfl, rfl, h1, g1, by rw [g2]⟩
def gTl (i : Nat) : Rho → O (List D) := fun ρ => (eVar i ρ).bind fun d => match d with
  | .tup (.lst l :: es) => gd (VS.immA l && VS.immA es) (.ok l)
  | _ => .bad
def pTl (i : Nat) : Rho → List D → Option D := fun ρ l => match eVar i ρ with
  | .ok (.tup (_ :: es)) => some (.tup (.lst l :: es))
  | _ => none
theorem vl_tl {n : Str} {j : Nat} {p2 : Pos} (i : Nat) (hm : M i = .o .tl) (hN : X.N[i]? = some n := by rfl) (hv : Vis X.env.scope n := by first | exact Or.inl rfl | exact Or.inr (Or.inl rfl) | exact Or.inr (Or.inr rfl)) (hd : (n == ("__debug__" : Str)) = false := by decide)
    (hcd : (n == ("__classdict__" : Str)) = false := by decide) (hs : PlainIx (.Constant (.int 0) j p2) := by exact fun _ _ => rfl) : VLoc X c M We i (.Subscript (.Name n pos) (.Constant (.int 0) j p2) pos') (gTl i) (pTl i) := by
  refine ⟨_, pe_ix ix_tup (pv i hN hv hd hcd) pe_int hs, fun B Fs σ H ρ Q R po => ?_⟩
  obtain ⟨d, er, po⟩ := po_var (i := i) (ρ := ρ) (f := fun d => match d with
    | .tup (.lst l :: es) => gd (VS.immA l && VS.immA es) (.ok l)
    | _ => .bad) po
  obtain ⟨v, Wm, e1, ho, nd, hW, hth, put⟩ := R.mut (.inl hm) er
  obtain ⟨t, a, xs, ds, vs, es, rfl, rfl, h0, h1, h2, h3, eF⟩ := ho
  obtain ⟨hi, po⟩ := Po.gd po
  rw [Bool.and_eq_true] at hi
  have hat : atI (V.ref a :: vs) 0 = some (V.ref a) := by unfold L2.atI L2.ixN; simp
  refine ⟨_, e1, t, _, 0, .ref a, rfl, rfl, .of h0, hat, po a xs H (Same.refl H) h1 (h2.immA hi.1) fun H1 xs' l' d' hs hi' ed => ?_⟩
  have ev : eVar i ρ = .ok (.tup (.lst ds :: es)) := by unfold eVar; rw [er]
  have ed : some (D.tup (.lst l' :: es)) = some d' := by
    have := ed
    unfold pTl at this
    rw [ev] at this
    exact this
  cases ed
  have ha1 := hs _ _ h1
  have ht1 := hs _ _ h0
  have hta : t ≠ a := fun z => by rw [z, h1] at h0; cases h0
  refine put _ _ [a] (fun b o hb eb => ?_) (fun b eb => ?_) (by simp) (fun b hb => .inl (by rw [eF]; exact hb)) ⟨t, a, xs', l', vs, es, rfl, rfl, ?_, upd_same, ?_, ?_, rfl⟩
  · rw [upd_ne (fun z => hb (by rw [eF, z]; simp))]; exact hs b o eb
  · by_cases h : b = a
    · rw [h, upd_same] at eb; cases eb
    · rw [upd_ne h] at eb; exact hs.free eb
  · rw [upd_ne hta]; exact ht1
  · exact hi'.stay (upd_sta (xs' := xs') ha1)
  · exact ((h3.immA (W' := fun _ => False) hi.2).same hs).stay (upd_sta (xs' := xs') ha1)
/-! ### for x in a list that a slot owns: if t: return e -/
def sForI (fi : AF) (h : D → Rho → O Rho) (g : SF) : SF := fun ρ => (fi ρ).bind fun ds => gd (VS.immA ds) (sFor.go h g ds ρ)
theorem immA_at : ∀ {ds : List D} {i : Nat} {d : D}, VS.immA ds = true → ds[i]? = some d → d.imm = true
  | [], i, d, _, e => by simp at e
  | x :: xs, 0, d, h, e => by
    simp at e; subst e
    rw [immA_cons, Bool.and_eq_true] at h
    exact h.1
  | x :: xs, i + 1, d, h, e => by
    rw [immA_cons, Bool.and_eq_true] at h
    exact immA_at (i := i) h.2 (by simpa using e)
theorem vs_forT {tg it cnd ee : Expr} {h : D → Rho → O Rho} {t : TF} {fe : EF} {fi : AF} {p1 p2 : Pos} (z : Cz X c We k) (hi : VI X c M We al tg it fi) (hg : VG X c M 0 tg h) (hc : VT X c M We cnd t) (hr : VO X c M We rs ee fe) (hfs : ∀ x, foldedSetIterable it X.env x = pure x := by intro _; rfl) :
    VSt X c We rs Ml M M (.For tg it [.If cnd [.Return (some ee) p1] [] p2] [] pos) (sForI fi h (sIf t (sRet fe) sNx)) := by
  obtain ⟨wi, p, s⟩ := hi.ex
  obtain ⟨gg, pg, sg⟩ := hg.ex
  obtain ⟨tt, pt, stt⟩ := hc.ex
  obtain ⟨te, pe, se⟩ := hr.ex
  refine ⟨_, ps_for z.po z.calm p pg (pss_one (ps_if pt (pss_one (ps_ret pe)) pss_nil)) hfs, fun B σ H ρ D R po => ?_⟩
  obtain ⟨Fs, R⟩ := R
  refine s _ σ H ρ _ R.slots ((Po.exc_up R (Po.bind po)).imp (fun ds _ q J G Y H' hs wk hG hy => ?_) fun _ _ q => q)
  obtain ⟨him, q⟩ := Po.gd q
  have kp : ∀ {W : Addr → Prop} {Hi : Hp}, Same H' Hi → Kp W H' Hi := fun hsi a o _ e => hsi a o e
  refine for_it wk (fun i σ Hi => Same H' Hi ∧ ∃ ρi, Rel c M B Hi σ ρi ∧ PoS c Ml M B rs We (sFor.go h (sIf t (sRet fe) sNx) (ds.drop i) ρi) D) ⟨Same.refl _, ρ, ⟨Fs, R.same hs⟩, by rw [List.drop_zero]; exact q⟩ (fun i σi Hi _ ⟨hsi, _⟩ => hG Hi (kp hsi)) ?_ ?_
  · rintro i x σi Hi Hi' hlt ⟨hsi, ρi, ⟨Fi, Ri⟩, qi⟩ hY
    obtain ⟨st, d, ed, isd⟩ := hy i Hi x Hi' hlt (kp hsi) hY
    have ed2 : ds.drop i = d :: ds.drop (i + 1) := by
      obtain ⟨h1, h2⟩ := List.getElem?_eq_some_iff.mp ed
      rw [List.drop_eq_getElem_cons h1, h2]
    rw [ed2] at qi
    have Ri' := Ri.same st
    have qi := Po.bind qi
    refine sg B Fi Hi' σi ρi x d _ Ri' ((isd (fun _ => True) fun _ _ _ => trivial).imm (fun _ _ _ y => y) (immA_at him ed)) (qi.imp (fun ρ1 _ q1 σ2 R2 => ?_) fun _ _ _ => trivial)
    obtain ⟨F2, R2⟩ := R2
    have q1 := Po.bind q1
    have q1 : Po ((t ρ1).bind fun b => if b = true then sRet fe ρ1 else sNx ρ1) _ _ := q1
    refine stt _ σ2 Hi' ρ1 _ R2.slots ((Po.exc_up R2 (Po.bind q1)).imp (fun b _ q2 H2 hs2 => ?_) fun _ _ q => q)
    cases b with
    | false => exact iteF ⟨hsi.trans (st.trans hs2), ρ1, ⟨F2, R2.same hs2⟩, q2⟩
    | true =>
      have q2 : Po ((fe ρ1).bind fun d => O.ok (Out.rt d ρ1)) _ _ := q2
      have R3 := R2.same hs2
      refine iteT (se _ σ2 H2 ρ1 _ R3.slots ((Po.exc_up R3 (Po.bind q2)).imp (fun d2 _ q3 v H3 F hs3 hn nd ho => ?_) fun _ _ q => q))
      refine q3 v H3 ⟨M, F2, σ2, F, R3.same hs3, nd, fun a ha => ⟨R3.old a (hn a ha), R3.newNot (hn a ha)⟩, ho.mono (fun a x => ?_) fun a o _ e => e⟩
      rcases x.1 with y | y
      · exact ⟨y.2, y.1, x.2⟩
      · exact ⟨R3.old a y, R3.newNot y, x.2⟩
  · rintro σi Hi ⟨hsi, ρi, Ri, qi⟩
    rw [List.drop_length] at qi
    exact qi σi Hi Ri
end
end VS
set_option Elab.async false
set_option linter.all false
set_option maxRecDepth 100000
set_option maxHeartbeats 2000000
/-! VP: list.remove of data. -/
namespace VS
open PySem L2
section
open PySem.Spec PyProof.Rows PySem.SeqAt
def rRemD (K : PySem.W.Frag) : V → List V → Hp → VK → Prop := fun x vs H Q => ∃ (l : Addr) (xs : List V) (y : V) (ds : List PyData) (d : PyData) (j : Nat), x = .ref l ∧ vs = [y] ∧ H l = some (.lst xs) ∧ DpAll K H xs ds ∧ Dp K H y d ∧ PyData.plainAll ds = true ∧ d.plain = true ∧ d.depth ≤ 60 ∧ dataPlace ds d = some j ∧ Q .non (upd H l (.lst (xs.eraseIdx j)))
theorem mt_removeD {X : Cx} (hu : X.A.units + 64 < cLine) : MtM X "list.remove" (rRemD X.K) := by
  intro pins s σ H x vs v us Q I rx rv h
  obtain ⟨l, xs, y, ds, d, j, rfl, rfl, hH, hds, hd, h1, h2, h3, hp, q⟩ := h
  cases rx
  obtain ⟨u, rfl, ru⟩ := rv.one
  obtain ⟨z, its, n, r, hl, e⟩ := I.lstM hH
  obtain ⟨as, r1⟩ := Dp.readsAll I ds xs its hds r
  obtain ⟨bs, r2⟩ := Dp.reads I d y u hd ru
  have hlen := len_at (vs := its.toArray) (by simpa using r1)
  have hj : j < ds.length := (List.findIdx?_eq_some_iff_getElem.mp hp).1
  refine remove_list_data (vs := its.toArray) ⟨_, e, rfl, n, rfl⟩ (by simpa using r1) r2 h1 h2 ?_ hp (by rw [List.size_toArray]; omega) ?_
  · have : min (PyData.depthAll ds) d.depth ≤ 60 := Nat.le_trans (Nat.min_le_right _ _) h3
    omega
  · refine ⟨.non, _, I.lset (its' := its.eraseIdx j) hH e ?_ (r.eraseIdx j) ?_, rfl, q⟩
    · show its.toArray.eraseIdxIfInBounds j = (its.eraseIdx j).toArray
      rw [List.eraseIdxIfInBounds_toArray]
    · have := List.length_eraseIdx_le xs j
      omega
end
section
variable {X : Cx} {c : Ct} {M M' Ml : Nat → Mo} {We : WX} {al al' k i : Nat} {e o : Expr} {f : EF} {g : Rho → O (List D)} {p : Rho → List D → Option D} {rs : Sh} {pos apos cpos : Pos}
def sRemL (i : Nat) (g : Rho → O (List D)) (p : Rho → List D → Option D) (fv : EF) : SF := fun ρ => (g ρ).bind fun l => (fv ρ).bind fun d => gd (d.imm && PyData.canLayAll0 (toPyA l) && (toPy d).canLay0 && decide ((toPy d).depth ≤ 60)) ((ofO (PySem.SeqAt.dataPlace (toPyA l) (toPy d))).bind fun j => (ofO (p ρ (l.eraseIdx j))).bind fun d' => .ok (.nx (ρ.set i (some d'))))
theorem IsA.eraseIdx {W : Addr → Prop} {H : Hp} : ∀ {vs : List V} {ds : List D} (j : Nat), IsA c W H vs ds → IsA c W H (vs.eraseIdx j) (ds.eraseIdx j)
  | _, _, _, .nil => .nil
  | _, _, 0, .cons _ t => t
  | _, _, j + 1, .cons h t => .cons h (IsA.eraseIdx j t)
theorem vs_removeL (z : Cz X c We k) (hl : VLoc X c M We i o g p) (hv : VE X c M We al e f) (hbase : attributeBase o "remove" X.env (eval o X.env) = eval o X.env := by rfl)
    (hfew : ((backTo cpos (starEach (e :: []) X.env)).all (fun x => !x.1) && (backToKw cpos (keywordEach [] X.env)).all (fun x => x.1.isSome) && decide ((e :: []).length + ([] : List Keyword).length + (if ([] : List Keyword).isEmpty then 0 else 1) < 30)) = true := by rfl)
    (hline : (apos.endLine == cpos.line) = true := by rfl) (he : starEach (e :: []) X.env = (false, eval e X.env) :: starEach [] X.env := by rfl) (hpl : (backTo cpos (starEach [] X.env)).any (·.1) = false := by rfl)
    (hs : swapsWith (.Call (.Attribute o "remove" apos) [e] [] cpos) none pos.line X.env = pure false := by rfl) :
    VSt X c We rs Ml M M (.Expr (.Call (.Attribute o "remove" apos) [e] [] cpos) pos) (sRemL i g p f) := by
  obtain ⟨tl, pl, sl⟩ := hl.ex
  obtain ⟨te, pe, se⟩ := hv.ex
  refine ⟨_, ps_expr (pe_bm PySem.F.plainAttrs_list PySem.F.slot_list_remove PySem.F.type_list_remove (mt_removeD z.hr.units) pl (pa_cons pe pa_nil he) hbase hfew hline he hpl) hs, fun B σ H ρ D R po => ?_⟩
  obtain ⟨Fs, R⟩ := R
  refine sl B Fs σ H ρ _ R ((Po.exc_up R (Po.bind po)).imp (fun l _ q a xs H1 hs1 ea hxs upd' => ?_) fun _ _ q => q)
  have R1 := R.same hs1
  refine ⟨.inl ⟨rfl, xs, .of ea⟩, se _ σ H1 ρ _ R1.slots ((Po.exc_up R1 (Po.bind q)).imp (fun d _ q v H2 hs2 hi => ?_) fun _ _ q => q)⟩
  obtain ⟨hd, q⟩ := Po.gd q
  rw [Bool.and_eq_true, Bool.and_eq_true, Bool.and_eq_true, decide_eq_true_eq] at hd
  obtain ⟨⟨⟨h1, h2⟩, h3⟩, h4⟩ := hd
  obtain ⟨j, hj, q⟩ := Po.ofO (Po.bind (r := ofO (PySem.SeqAt.dataPlace (toPyA l) (toPy d))) q)
  obtain ⟨d', hp, q⟩ := Po.ofO (Po.bind (r := ofO (p ρ (l.eraseIdx j))) q)
  have hxs2 := hxs.same hs2
  exact ⟨a, xs, v, toPyA l, toPy d, j, rfl, rfl, hs2 _ _ ea, by rw [z.K]; exact hxs2.dp h2, by rw [z.K]; exact hi.dp h3, PySem.PyData.plainAll_of_canLay0 _ h2, PySem.PyData.plain_of_canLay0 _ h3, h4, hj, q σ _ (upd' H2 _ _ d' hs2 (hxs2.eraseIdx j) hp)⟩
end
end VS
set_option Elab.async false
set_option linter.all false
set_option maxRecDepth 100000
set_option maxHeartbeats 2000000
/-! VX: except X: return; rows cleared in a loop. -/
namespace VS
open PySem L2
section
variable {X : Cx} {c : Ct} {We : WX} {k i j : Nat} {rs : Sh} {Ml M M' : Nat → Mo} {g : SF} {body : List Stmt} {x y n : Str} {c0 : Value} {np pos pos' rp : Pos}
/-- .. except A: return -/
def sTryO (A : Addr) (g : SF) : SF := fun ρ => match g ρ with
  | .bad => .bad
  | .exc _ => .bad
  | .ok (.ex k ρ') => match k with
    | .ref C => if C = A then .ok (.rt .non ρ') else .bad
    | _ => .bad
  | .ok o => .ok o
theorem vs_tryO {A : Addr} (z : Cz X c We k) (hb : ∀ (W : WX) (pn : List (Addr × Obj)) (xe : Value → Shared → Prop), Cz (X.tr pn xe) c W k → VSs (X.tr pn xe) c W .fz Ml M M' body g) (hx : PySem.W.exmOne X.K (.ref A) c0 = some true) (hc : Names X x c0)
    (hst : X.stack = X.env :: X.outer := by rfl) (hfr : X.env.frame = some X.env.locals := by rfl) :
    VSt X c We .fz Ml M M' (.Try body [.ExceptHandler (some (.Name x np)) none [.Return none rp] pos'] [] [] pos) (sTryO A g) := by
  refine ⟨_, ps_try_only (tb := tBody X fun W pn xe t => PSs (X.tr pn xe) body t) (ts := fun _ _ _ => tRetN) hst hfr hc takesNo (fun W pn xe h1 h2 => ⟨fun pins s σ H D I hw => ?_⟩) (fun a oe cls d pn hz hf => pss_one ps_retN), fun B σ H ρ D R po pn xe h1 h2 => ?_⟩
  · obtain ⟨t, ht, hd⟩ := hw pn xe h1 h2
    exact ht.run pins s σ H D I hd
  · obtain ⟨t, ht, hr⟩ := (hb _ pn xe (z.tr (takesN h1) h2)).ex
    refine ⟨t, ht, hr B σ H ρ D R ?_⟩
    unfold sTryO at po
    cases hg : g ρ with
    | bad => rw [hg] at po; exact po.elim
    | exc kx => rw [hg] at po; exact po.elim
    | ok out =>
      rw [hg] at po
      cases out with
      | ex kx ρ' =>
        cases kx with
        | ref C =>
          dsimp only at po
          by_cases hCA : C = A
          · rw [if_pos hCA] at po
            subst hCA
            rintro σ' H' M2 ⟨Fs, R'⟩
            exact ⟨true, hx, fun _ a _ => po .non H' ⟨M2, Fs, σ', [], R', by simp, by simp, rfl, .non⟩, fun e => by cases e⟩
          · rw [if_neg hCA] at po; exact po.elim
        | _ => exact po.elim
      | nx ρ' => exact po
      | rt d ρ' => exact po
      | bk ρ' => exact po
      | ct ρ' => exact po
/-- for x in y: x.clear(), y its own list of lists; both names are given up -/
def sForClr (i j : Nat) : SF := fun ρ => (eVar i ρ).bind fun d => (lstD d).bind fun _ => gd (decide (j < ρ.length) && decide (i ≠ j)) (.ok (.nx ((ρ.set j none).set i none)))
theorem P3.rows {c : Ct} {W : Addr → Prop} {H : Hp} : ∀ {vs : List V} {ds : List D} {Gs : List (List Addr)}, P3 (Own c W H (.l .fz)) vs ds Gs → ∀ v ∈ vs, ∃ r ys, v = .ref r ∧ r ∈ Gs.flatten ∧ H r = some (.lst ys)
  | _, _, _, .nil, v, h => by simp at h
  | _, _, _, .cons (F := F) (Fs := Fs) h t, v, hv => by
    rcases List.mem_cons.mp hv with e | e
    · obtain ⟨a, xs, ds, Gs', e1, e2, h1, h2, h3⟩ := h
      subst e
      exact ⟨a, xs, e1, by rw [List.flatten_cons, h3]; simp, h1⟩
    · obtain ⟨r, ys, q1, q2, q3⟩ := t.rows v e
      exact ⟨r, ys, q1, by rw [List.flatten_cons]; exact List.mem_append.mpr (.inr q2), q3⟩
theorem vs_forClr {p1 p2 p3 apos cpos p4 : Pos} (i j : Nat) (z : Cz X c We k) (hmi : M i = .o (.l (.l .fz))) {al : Nat} (hmj : M j = .v al) (hN : X.N.Nodup) (hi : X.N[i]? = some y := by rfl) (hj : X.N[j]? = some x := by rfl)
    (hv : Vis X.env.scope y := by first | exact Or.inl rfl | exact Or.inr (Or.inl rfl) | exact Or.inr (Or.inr rfl)) (hd : (y == ("__debug__" : Str)) = false := by decide) (hcd : (y == ("__classdict__" : Str)) = false := by decide)
    (hvx : Vis X.env.scope x := by first | exact Or.inl rfl | exact Or.inr (Or.inl rfl) | exact Or.inr (Or.inr rfl)) (hdx : (x == ("__debug__" : Str)) = false := by decide) (hcdx : (x == ("__classdict__" : Str)) = false := by decide)
    (hx : Loc X.env.scope x := by first | exact .inl rfl | exact .inr rfl) (hf : X.fn x = true ∨ X.env.scope.names.lookup x = some .local := by first | exact .inl rfl | exact .inr rfl)
    (hbase : attributeBase (.Name x p3) "clear" X.env (eval (.Name x p3) X.env) = eval (.Name x p3) X.env := by rfl) (hline : (apos.endLine == cpos.line) = true := by rfl)
    (hs : swapsWith (.Call (.Attribute (.Name x p3) "clear" apos) [] [] cpos) none p4.line X.env = pure false := by rfl) (hfs : ∀ v, foldedSetIterable (.Name y p2) X.env v = pure v := by intro _; rfl) :
    VSt X c We rs Ml M M (.For (.Name x p1) (.Name y p2) [.Expr (.Call (.Attribute (.Name x p3) "clear" apos) [] [] cpos) p4] [] pos) (sForClr i j) := by
  refine ⟨_, ps_for z.po z.calm (pi_list (pv i hi hv hd hcd)) (pg_name (i := j) hN hj hx hf) (pss_one (ps_expr (pe_bm0 PySem.F.plainAttrs_list PySem.F.slot_list_clear PySem.F.type_list_clear mt_clear (pv j hj hvx hdx hcdx) hbase hline) hs)) hfs, fun B σ H ρ D R po => ?_⟩
  obtain ⟨Fs, R⟩ := R
  obtain ⟨ds, er, po⟩ := po_lst po
  obtain ⟨hb, po⟩ := Po.gd po
  rw [Bool.and_eq_true, decide_eq_true_eq, decide_eq_true_eq] at hb
  obtain ⟨hj', hij⟩ := hb
  obtain ⟨q, xs, Gs, h1, hq, h3, eF, keep, put⟩ := R.lst hmi er
  have po : ∀ σ' H', Rel c M B H' σ' ((ρ.set j none).set i none) → D.nx σ' H' := po
  have hrow := h3.rows
  have hjs : j < σ.length := by rw [R.len]; exact hj'
  refine ⟨.ref q, h1, q, rfl, ⟨xs, .inl (.of hq)⟩, ?_⟩
  have hqn : q ∉ Gs.flatten := by
    have := R.nd i
    rw [eF] at this
    exact (List.nodup_cons.mp this).1
  refine for_it (walk_list (K := X.K) (a := q) (xs := xs)) (fun _ σ' H' => σ'.length = σ.length ∧ (∀ l, l ≠ j → σ'[l]? = σ[l]?) ∧ (∀ a o, a ∉ Gs.flatten → H a = some o → H' a = some o) ∧ (∀ a, H' a = none → H a = none) ∧ ∀ a ∈ Gs.flatten, ∃ ys, H' a = some (.lst ys)) ⟨rfl, fun _ _ => rfl, fun _ _ _ e => e, fun _ e => e, fun a ha => ?_⟩ (fun n σ' H' _ hP => .inl (.of (hP.2.2.1 q _ hqn hq))) ?_ ?_
  · obtain ⟨G, hG, hG'⟩ := List.mem_flatten.mp ha
    obtain ⟨v, d, ho⟩ := h3.mem hG
    obtain ⟨a', ys, ds', Gs', e1, e2, g1, g2, g3⟩ := ho
    obtain ⟨_, g4⟩ := g2.ofFz
    rw [g3, g4] at hG'
    have : a = a' := by simpa using hG'
    exact ⟨ys, by rw [this]; exact g1⟩
  · rintro n x σ' H1 H1' hn ⟨i1, i2, i3, i4, i5⟩ hY
    obtain ⟨rfl, hx⟩ := hY
    obtain ⟨r, ys0, rfl, hr, _⟩ := hrow x (List.mem_of_getElem? hx)
    obtain ⟨ys, hys⟩ := i5 r hr
    show _
    refine ⟨.ref r, by rw [List.getElem?_set_self (by rw [i1]; exact hjs)], .inl ⟨rfl, ys, .of hys⟩, r, ys, rfl, rfl, hys, ?_⟩
    refine ⟨by rw [List.length_set]; exact i1, fun l hl => by rw [List.getElem?_set_ne (Ne.symm hl)]; exact i2 l hl, fun a o ha e => ?_, fun a e => ?_, fun a ha => ?_⟩
    · have hne : a ≠ r := fun z => ha (by rw [z]; exact hr)
      rw [upd_ne hne]; exact i3 a o ha e
    · by_cases hne : a = r
      · rw [hne, upd_same] at e; cases e
      · rw [upd_ne hne] at e; exact i4 a e
    · by_cases hne : a = r
      · exact ⟨[], by rw [hne, upd_same]⟩
      · rw [upd_ne hne]; exact i5 a ha
  · rintro σ' H' ⟨i1, i2, i3, i4, i5⟩
    refine po σ' H' ⟨_, RelF.put (i := i) (F' := []) (H' := H') (σ' := σ') (RelF.put (i := j) (F' := []) (H' := H) (σ' := σ') (ρ' := ρ.set j none) R (fun _ _ _ e => e) (fun _ e => e) (by simp) (by simp) (by simp) i2 (fun l hl => List.getElem?_set_ne (Ne.symm hl)) (by rw [i1, R.len, List.length_set]) (fun p hp e => ?_) (fun s hs => by rw [hmj] at hs; cases hs) (fun d e => by rw [List.getElem?_set_self hj'] at e; cases e)) (fun a o ha e => i3 a o (fun z => ha ?_) e) i4 (by simp) (by simp) (by simp) (fun _ _ => rfl) (fun l hl => List.getElem?_set_ne (Ne.symm hl)) (by rw [i1, R.len, List.length_set, List.length_set]) (fun p hp e => ?_) (fun s hs a ha => ?_) fun d e => ?_⟩
    · have hs := (R.mp p hp).2
      rw [e, hmj] at hs; cases hs
    · rw [fset_ne hij, eF]; exact List.mem_cons_of_mem _ z
    · have hs := (R.mp p hp).2
      rw [e, hmi] at hs; cases hs
    · rw [fset_ne hij] at ha; exact R.own i s hs a ha
    · by_cases hil : i < (ρ.set j none).length
      · rw [List.getElem?_set_self hil] at e; cases e
      · rw [List.getElem?_eq_none (by rw [List.length_set]; omega)] at e; cases e
end
end VS
set_option Elab.async false
set_option linter.all false
set_option maxRecDepth 100000
set_option maxHeartbeats 2000000
/-! VW: two clauses of a try; abs; a list times an int; slices of what is new; defs that take what they are handed. -/
namespace VS
open PySem L2
section
open PySem.Spec PyProof.Rows
variable {X : Cx} {x x2 n : Str} {c c2 : Value} {i : Nat} {body suite suite2 : List Stmt} {b₀ b2 : Stmt} {np np2 pos pos' pos2 : Pos} {tb : WX → TS} {ts ts2 : Addr → Value → Option Addr → TS} {Wout : WX}
/-- two clauses that name what they handle (turned from how the library shows one such clause) -/
theorem ps_try_as2 (hs : X.stack = X.env :: X.outer) (hf : X.env.frame = some X.env.locals) (hN : X.N.Nodup) (hi : X.N[i]? = some n) (hln : X.env.kindOf n = some .local) (hc : Names X x c) (hc2 : Names X x2 c2) (tk : Takes X Wout)
    (hb : ∀ (W : WX) (pn : List (Addr × Obj)) (xe : Value → Shared → Prop), Takes (X.tr pn xe) W → PassesOwn (model X.prog X.w) X.A X.env xe → PSs (X.tr pn xe) body (tb W))
    (hsu : ∀ (a : Addr) (oe : Obj) (cls : Value) (d : Option Addr) (pn : List (Addr × Obj)), Zc cls d oe → (∃ vs, oe.data = .fields vs) → PSs (X.suite a ((a, oe) :: pn)) (b₀ :: suite) (ts a cls d))
    (hsu2 : ∀ (a : Addr) (oe : Obj) (cls : Value) (d : Option Addr) (pn : List (Addr × Obj)), Zc cls d oe → (∃ vs, oe.data = .fields vs) → PSs (X.suite a ((a, oe) :: pn)) (b2 :: suite2) (ts2 a cls d)) :
    PS X (.Try body [.ExceptHandler (some (.Name x np)) (some n) (b₀ :: suite) pos', .ExceptHandler (some (.Name x2 np2)) (some n) (b2 :: suite2) pos2] [] [] pos) (fun D σ H => tb (wAs X.K c i ts (wAs X.K c2 i ts2 Wout D) D) D σ H) := by
  refine ⟨fun pins s σ H D I h => ?_⟩
  have ok := I.ok
  have hfr : X.A.frames = some (X.env :: X.outer) := by rw [ok.frames, hs]
  have hloc : Loc X.env.scope n := .inl hln
  refine wpAny_Try_except ?_
  refine wpAny_mono ((hb (wAs X.K c i ts (wAs X.K c2 i ts2 Wout D) D) (X.pn ++ pins) (fun e s₁ => wpAny (model X.prog X.w) X.A (noteFrame e X.env) (fun _ s₂ => wpAny (model X.prog X.w) X.A (setFlight e none) (fun _ s₃ =>
    wpAny (model X.prog X.w) X.A (handleBy e X.env [.ExceptHandler (some (.Name x np)) (some n) (b₀ :: suite) pos', .ExceptHandler (some (.Name x2 np2)) (some n) (b2 :: suite2) pos2]) (SP X pins D) X.xe s₃) X.xe s₂) X.xe s₁) (fun u s' xx => ?_) PassesOwn.looking).run [] s σ H D (I.toTry _) h) (fun f s1 hsp => ?_) (fun e s1 he => he)
  · obtain ⟨a, B, sI, pins', σ', H', cls, d, rfl, J', nb, up, sky, na, os, ag, w⟩ := xx
    have J : Inv X pins σ' H' sI := J'.ofTry ok
    have sky' : Sky B (X.env :: X.outer) a (Zc cls d) X.env.locals s'.heap := by rw [← hs]; exact sky
    show wpAny (model X.prog X.w) X.A (noteFrame (.ref a) X.env) _ _ _
    refine Sky.land Zc.steady hfr hf sky' fun h3 fl3 up3 => ?_
    have J3 : Inv X pins σ' H' { s' with heap := h3 } := J.landed nb fl3.1 (up.trans up3) os ag
    obtain ⟨oe3, vs3, he3, hz3, hd3⟩ := fl3.there
    have nfr : a ∉ frs (X.env :: X.outer) := fun hm => by
      obtain ⟨_, o', e', hnf⟩ := fl3.2.2.1.mem hm
      rw [he3] at e'; cases e'
      exact hnf _ hd3
    have nL : a ≠ X.env.locals := fun z => nfr (List.mem_filterMap.mpr ⟨X.env, List.mem_cons_self, by rw [hf, z]⟩)
    have nF : a ∉ X.fs := fun hm => by
      obtain ⟨e, he, q⟩ := List.mem_filterMap.mp hm
      exact nfr (List.mem_filterMap.mpr ⟨e, List.mem_cons_of_mem _ he, q⟩)
    have S3 := J3.suite he3 hd3 na nL nF
    have LT : PySem.W.Looks (model X.prog X.w) h3 (typeOf (.ref a)) cls := fun A Q E s k q => wpAny_typeOf_ref (k _ _ he3) (by rw [hz3.1]; exact q)
    -- one clause, whatever comes behind it
    have one : ∀ {x : Str} {c : Value} {ts : Addr → Value → Option Addr → TS} {b₀ : Stmt} {suite : List Stmt} {np pos' : Pos} {hds : List ExceptHandler} {W' : WX}, Names X x c →
        (∀ (a : Addr) (oe : Obj) (cls : Value) (d : Option Addr) (pn : List (Addr × Obj)), Zc cls d oe → (∃ vs, oe.data = .fields vs) → PSs (X.suite a ((a, oe) :: pn)) (b₀ :: suite) (ts a cls d)) →
        wAs X.K c i ts W' D cls d σ' H' → (W' cls d σ' H' → wpAny (model X.prog X.w) X.A (handleBy (.ref a) X.env hds) (SP X pins D) X.xe { s' with heap := h3 }) →
        wpAny (model X.prog X.w) X.A (handleBy (.ref a) X.env (.ExceptHandler (some (.Name x np)) (some n) (b₀ :: suite) pos' :: hds)) (SP X pins D) X.xe { s' with heap := h3 } := by
      intro x c ts b₀ suite np pos' hds W' hc hsu hw hrest
      obtain ⟨b, hb1, hyes, hno⟩ := hw
      refine wpAny_handleBy_cons (codeAny_handlers_test ?_) (by intro q; cases q)
      have LM := PySem.W.exm_one (M := model X.prog X.w) (J3.kIn) LT hb1
      have test : ∀ {Q : Value → Shared → Prop} {E : Value → Shared → Prop}, Q c { s' with heap := h3 } → wpAny (model X.prog X.w) (X.A.mark (some (.ref a))) (eval (.Name x np) X.env) Q E { s' with heap := h3 } := fun {Q E} q => by
        obtain ⟨hg, hdbg, hm | ⟨hm, hv, hnn⟩⟩ := hc
        · exact ld_glob (X := X.suite a ((a, oe3) :: (X.pn ++ pins))) S3 hg hm q hdbg
        · exact ld_blt (X := X.suite a ((a, oe3) :: (X.pn ++ pins))) S3 hg hm hv q hnn hdbg
      refine test (LM.here ?_)
      cases b with
      | false =>
        show wpAny _ X.A (handleBy (.ref a) X.env hds) _ _ _
        exact hrest (hno rfl)
      | true =>
        refine codeAny_handlers_suite_as ?_
        refine HandSPX.lands_againZ fl3 fun h4 fl4 up4 => ?_
        have J4 : Inv X pins σ' H' { s' with heap := h4 } := J.landed nb fl4.1 ((up.trans up3).trans up4) os ag
        obtain ⟨oe4, vs4, he4, hz4, hd4⟩ := fl4.there
        have S4 := J4.suite he4 hd4 na nL nF
        refine store_ok (X := X.suite a ((a, oe4) :: (X.pn ++ pins))) (v := .ref a) S4 hN hi hloc rfl (fun s5 S5 => ?_) (.inr hln)
        refine wpAny_mono ((hsu a oe4 cls d (X.pn ++ pins) hz4 ⟨_, hd4⟩).run [] s5 _ H' _ S5 (hyes rfl a na)) (fun f s6 hsp => ?_) (fun _ _ z => False.elim z)
        have end_ : ∀ {σ6 : L2.St} {H6 : Hp} {Q : Shared → Prop}, Inv (X.suite a ((a, oe4) :: (X.pn ++ pins))) [] σ6 H6 s6 → (∀ s7, Inv X pins (σ6.set i none) H6 s7 → Q s7) →
            wpAny (model X.prog X.w) X.A (do bindName X.env n .none; unbindBehindTheSuite X.env n pos') (fun _ s7 => Q s7) X.xe s6 := fun {σ6 H6 Q} S6 hq => gone_ok (S6.unsuite ok) hN hi hln hq
        cases f with
        | next =>
          obtain ⟨σ6, H6, S6, q6⟩ := hsp
          exact end_ S6 fun s7 J7 => ⟨_, _, J7, q6⟩
        | brk =>
          obtain ⟨σ6, H6, S6, q6⟩ := hsp
          exact end_ S6 fun s7 J7 => ⟨_, _, J7, q6⟩
        | cont =>
          obtain ⟨σ6, H6, S6, q6⟩ := hsp
          exact end_ S6 fun s7 J7 => ⟨_, _, J7, q6⟩
        | ret u =>
          obtain ⟨v6, σ6, H6, S6, r6, q6⟩ := hsp
          exact end_ S6 fun s7 J7 => ⟨_, _, _, J7, r6, q6⟩
    refine one hc hsu w fun w2 => one hc2 hsu2 w2 fun w3 => ?_
    refine wpAny_handleBy_nil ?_
    obtain ⟨k1, k2, k3, oe, vs, T, oT, ts', he, hz, hd, h1, hr⟩ := id fl3
    unfold PySem.passOn
    refine wpAny_bind (wpAny_field he hd h1 ?_)
    rw [if_neg (show ¬ ((Value.ref T == Value.none) = true) from by simp)]
    have fin : wpAny (model X.prog X.w) X.A (setFlight (.ref a) X.env.frame) (fun _ s4 => wpAny (model X.prog X.w) X.A (throw (.ref a) : Sem Flow) (SP X pins D) X.xe s4) X.xe { s' with heap := h3 } := by
      rw [hf]
      refine HandSPX.setFlight_upZ fl3 fun h4 hh4 up4 => wpAny_throw (tk _ _ ?_)
      exact ⟨a, B, sI, pins, σ', H', cls, d, rfl, J, nb, (up.trans up3).trans up4, .inr (.inr (by rw [hs]; exact hh4)), na, os, ag, w3⟩
    first
      | exact wpAny_bind (wpAny_pure (wpAny_bind fin))
      | exact wpAny_bind fin
  · cases f with
    | next =>
      obtain ⟨σ', H', J', q⟩ := hsp
      exact wpAny_execs_nil ⟨σ', H', J'.ofTry ok, q⟩
    | brk =>
      obtain ⟨σ', H', J', q⟩ := hsp
      exact ⟨σ', H', J'.ofTry ok, q⟩
    | cont =>
      obtain ⟨σ', H', J', q⟩ := hsp
      exact ⟨σ', H', J'.ofTry ok, q⟩
    | ret u =>
      obtain ⟨v, σ', H', J', r, q⟩ := hsp
      exact ⟨v, σ', H', J'.ofTry ok, r, q⟩
end
def sTry2 (h1 h2 : Value → Option D) (i : Nat) (g : SF) : SF := fun ρ => match g ρ with
  | .bad => .bad
  | .exc _ => .bad
  | .ok (.ex k ρ') => match h1 k with
    | some r => gd (r.imm && decide (i < ρ'.length)) (.ok (.rt r ρ'))
    | none => match h2 k with
      | some r => gd (r.imm && decide (i < ρ'.length)) (.ok (.rt r ρ'))
      | none => .bad
  | .ok o => .ok o
section
variable {X : Cx} {c : Ct} {We : WX} {k i : Nat} {Ml M M' : Nat → Mo} {g : SF} {body suite suite2 : List Stmt} {b₀ b2 : Stmt} {x x2 n : Str} {c0 c2 : Value} {np np2 pos pos' pos2 : Pos} {wa wb : Value → Option D}
theorem vs_try2 (z : Cz X c We k) (i : Nat) (hb : ∀ (W : WX) (pn : List (Addr × Obj)) (xe : Value → Shared → Prop), Cz (X.tr pn xe) c W k → VSs (X.tr pn xe) c W .fz Ml M M' body g) (su : Su X c c0 i (b₀ :: suite) wa) (su2 : Su X c c2 i (b2 :: suite2) wb)
    (hno : ∀ kx r, wb kx = some r → PySem.W.exmOne X.K kx c0 = some false) (hc : Names X x c0) (hc2 : Names X x2 c2)
    (hN : X.N.Nodup) (hi : X.N[i]? = some n := by rfl) (hln : X.env.kindOf n = some .local := by rfl) (hst : X.stack = X.env :: X.outer := by rfl) (hfr : X.env.frame = some X.env.locals := by rfl) :
    VSt X c We .fz Ml M M' (.Try body [.ExceptHandler (some (.Name x np)) (some n) (b₀ :: suite) pos', .ExceptHandler (some (.Name x2 np2)) (some n) (b2 :: suite2) pos2] [] [] pos) (sTry2 wa wb i g) := by
  obtain ⟨ts, hsu, hread⟩ := su.ex
  obtain ⟨ts2, hsu2, hread2⟩ := su2.ex
  refine ⟨_, ps_try_as2 (tb := tBody X fun W pn xe t => PSs (X.tr pn xe) body t) hst hfr hN hi hln hc hc2 takesNo (fun W pn xe h1 h2 => ⟨fun pins s σ H D I hw => ?_⟩) hsu hsu2, fun B σ H ρ D R po pn xe h1 h2 => ?_⟩
  · obtain ⟨t, ht, hd⟩ := hw pn xe h1 h2
    exact ht.run pins s σ H D I hd
  · obtain ⟨t, ht, hr⟩ := (hb _ pn xe (z.tr (takesN h1) h2)).ex
    refine ⟨t, ht, hr B σ H ρ D R ?_⟩
    unfold sTry2 at po
    cases hg : g ρ with
    | bad => rw [hg] at po; exact po.elim
    | exc kx => rw [hg] at po; exact po.elim
    | ok out =>
      rw [hg] at po
      cases out with
      | ex kx ρ' =>
        dsimp only at po
        cases hk : wa kx with
        | some r =>
          rw [hk] at po
          obtain ⟨hi', po⟩ := Po.gd po
          rw [Bool.and_eq_true, decide_eq_true_eq] at hi'
          obtain ⟨hm, hrd⟩ := hread kx r hk
          rintro σ' H' M2 ⟨Fs, R'⟩
          refine ⟨true, hm, fun _ a _ => hrd a _ _ _ ?_ fun v hv => ?_, fun e => by cases e⟩
          · rw [List.getElem?_set_self (by rw [R'.len]; exact hi'.2)]
          · exact po v H' ⟨M2, Fs, σ', [], R', by simp, by simp, rfl, hv.up fun _ z => z.elim⟩
        | none =>
          rw [hk] at po
          dsimp only at po
          cases hk2 : wb kx with
          | none => rw [hk2] at po; exact po.elim
          | some r =>
            rw [hk2] at po
            obtain ⟨hi', po⟩ := Po.gd po
            rw [Bool.and_eq_true, decide_eq_true_eq] at hi'
            obtain ⟨hm, hrd⟩ := hread2 kx r hk2
            rintro σ' H' M2 ⟨Fs, R'⟩
            refine ⟨false, hno kx r hk2, (fun e => by cases e), fun _ => ⟨true, hm, fun _ a _ => hrd a _ _ _ ?_ fun v hv => ?_, fun e => by cases e⟩⟩
            · rw [List.getElem?_set_self (by rw [R'.len]; exact hi'.2)]
            · exact po v H' ⟨M2, Fs, σ', [], R', by simp, by simp, rfl, hv.up fun _ z => z.elim⟩
      | nx ρ' => exact po
      | rt d ρ' => exact po
      | bk ρ' => exact po
      | ct ρ' => exact po
end
theorem Dw.less {P : Program} {w : World} {K : PySem.W.Frag} {mg : Str → Option Value} {base : Heap} {k : Nat} {x : Str} {wf wf' : Addr → Option Str} (d : Dw P w K mg base k x wf) (h : ∀ C r, wf' C = some r → wf C = some r) : Dw P w K mg base k x wf' := by
  obtain ⟨f, fd, y, G, hb, hm, kp⟩ := d.ex
  exact ⟨f, fd, y, ⟨fun A outer s H args Q p C r h1 h2 h3 h4 h5 => G.run A outer s H args Q p C r h1 h2 h3 h4 (h C r h5)⟩, hb, hm, kp⟩
def onlyW [Exl] (A : Addr) : Addr → Option Str := fun C => if C = A then Exl.word C else none
theorem onlyW_le [Exl] {A : Addr} : ∀ C r, onlyW A C = some r → Exl.word C = some r := fun C r h => by
  unfold onlyW at h
  split at h
  · exact h
  · cases h
theorem onlyW_eq [Exl] {A C : Addr} {r : Str} (h : onlyW A C = some r) : C = A := by
  unfold onlyW at h
  split at h
  · assumption
  · cases h
theorem onlyW_ex [Exl] {K : PySem.W.Frag} {A : Addr} {b : Bool} {L : Value} (hx : PySem.W.exmOne K (.ref A) L = some b) : ∀ C r, onlyW A C = some r → PySem.W.exmOne K (.ref C) L = some b := fun C r h => by
  rw [onlyW_eq h]; exact hx
theorem onlyW_exK [Exl] {K : PySem.W.Frag} {A : Addr} {b : Bool} {L : Value} {f : Str → D} (hx : PySem.W.exmOne K (.ref A) L = some b) : ∀ kx r, hMap f (onlyW A) kx = some r → PySem.W.exmOne K kx L = some b := fun kx r h => by
  obtain ⟨C, w, rfl, hw, _⟩ := hMap_some h
  exact onlyW_ex hx C w hw
/-! ### abs, a list times an int, slices -/
def repD : D → D → O D
  | .lst xs, .int k => gd (VS.immA xs && decide (xs.length * k.toNat ≤ 100000) && decide (-(2 ^ 63) ≤ k) && decide (k < 2 ^ 63)) (.ok (.lst (List.replicate k.toNat xs).flatten))
  | _, _ => .bad
def eSl0 (fa : EF) (pl ph : Rho → O (Option Int)) : EF := fun ρ => (fa ρ).bind fun d => (lstD d).bind fun l => (pl ρ).bind fun lo => (ph ρ).bind fun hi => .ok (.lst (cutD l lo hi))
section
variable {X : Cx} {c : Ct} {M : Nat → Mo} {We : WX} {al al' k : Nat} {e a b : Expr} {f fa fb : EF} {pos p2 : Pos} {lo hi : Option Expr} {pl ph : Rho → O (Option Int)}
theorem ve_abs {p : Pos} (h : VE X c M We al e f) (hg : Gl X "abs") (hm : X.mg "abs" = none) (hs : starEach [e] X.env = (false, eval e X.env) :: starEach [] X.env := by rfl) (hpl : (backTo pos (starEach [] X.env)).any (·.1) = false := by rfl) :
    VE X c M We 0 (.Call (.Name "abs" p) [e] [] pos) (e1 absD f) := by
  obtain ⟨te, pe, s⟩ := h.ex
  refine ⟨_, pe_callB call_abs hg hm (by decide +kernel) (pa_cons pe pa_nil hs) (by decide) (by decide) hs hpl, fun w σ H ρ Q sl po => s w σ H ρ _ sl ((Po.bind po).imp (fun d _ q v H1 hs1 hi => ?_) fun _ _ q => q)⟩
  cases d with
  | int i =>
    refine ⟨i, by rw [is_int hi], ?_⟩
    exact q _ H1 hs1 (.int _)
  | _ => exact q.elim
theorem IsA.rep {W : Addr → Prop} {H : Hp} {xs : List V} {ds : List D} (h : IsA c W H xs ds) : ∀ n, IsA c W H (List.replicate n xs).flatten (List.replicate n ds).flatten
  | 0 => .nil
  | n + 1 => by
    rw [List.replicate_succ, List.replicate_succ, List.flatten_cons, List.flatten_cons]
    exact h.append (IsA.rep h n)
theorem immA_append : ∀ {xs ys : List D}, immA xs = true → immA ys = true → immA (xs ++ ys) = true
  | [], _, _, h => h
  | x :: xs, ys, h1, h2 => by
    rw [immA_cons, Bool.and_eq_true] at h1
    rw [List.cons_append, immA_cons, h1.1, immA_append h1.2 h2]
    rfl
theorem immA_rep {ds : List D} (h : immA ds = true) : ∀ n, immA (List.replicate n ds).flatten = true
  | 0 => by simp
  | n + 1 => by
    rw [List.replicate_succ, List.flatten_cons]
    exact immA_append h (immA_rep h n)
theorem vo_rep (ha : VO X c M We (.l .fz) a fa) (hb : VE X c M We al b fb) : VO X c M We (.l .fz) (.BinOp a .Mult b pos) (e2 repD fa fb) := by
  obtain ⟨ta, pa, sa⟩ := ha.ex
  obtain ⟨tb, pb, sb⟩ := hb.ex
  refine ⟨_, pe_op op_rep pa pb, fun w σ H ρ Q sl po => sa w σ H ρ _ sl ((Po.bind po).imp (fun d _ q v H1 F hs1 hn nd ho => ?_) fun _ _ q => q)⟩
  refine sb w σ H1 ρ _ (sl.same hs1) ((Po.bind q).imp (fun d2 _ q v2 H2 hs2 hi2 => ?_) fun _ _ q H2 hs2 => q H2 (hs1.trans hs2))
  obtain ⟨p, xs, ds, Gs, rfl, rfl, hp, h3, eF⟩ := ho
  obtain ⟨h4, _⟩ := h3.ofFz
  cases d2 with
  | int j =>
    obtain ⟨hg, q⟩ := Po.gd q
    rw [Bool.and_eq_true, Bool.and_eq_true, Bool.and_eq_true, decide_eq_true_eq, decide_eq_true_eq, decide_eq_true_eq] at hg
    obtain ⟨⟨⟨g1, g2⟩, g3⟩, g4⟩ := hg
    refine ⟨p, j, xs, rfl, is_int hi2, hs2 _ _ hp, g3, g4, by rw [h4.length]; exact Nat.le_trans g2 (by decide), fun q' hq' => ?_⟩
    obtain ⟨o1, o2, o3, o4⟩ := own_new (w := w) (hs1.trans hs2) hq' ((h4.same hs2).rep j.toNat) (immA_rep g1 _)
    exact q _ _ [q'] o1 o2 o3 o4
  | _ => exact q.elim
theorem vo_slice0 (z : Cz X c We k) (ha : VE X c M We 0 a fa) (hl : VPo X c M We lo pl) (hh : VPo X c M We hi ph) : VO X c M We (.l .fz) (.Subscript a (.Slice lo hi none p2) pos) (eSl0 fa pl ph) := by
  obtain ⟨ta, pa, sa⟩ := ha.ex
  obtain ⟨tl, pl', sl'⟩ := hl.ex
  obtain ⟨th, ph', sh⟩ := hh.ex
  refine ⟨_, pe_slice sl_list pa pl' ph', fun w σ H ρ Q sl po => sa w σ H ρ _ sl ((Po.bind po).imp (fun d _ q v H1 hs1 hi1 => ?_) fun _ _ q => q)⟩
  cases d with
  | lst l =>
    replace q : Po ((pl ρ).bind fun lo => (ph ρ).bind fun hi => (O.ok (D.lst (cutD l lo hi)))) _ _ := q
    refine sl' w σ H1 ρ _ (sl.same hs1) ((Po.bind q).imp (fun o1 _ q H2 hs2 => ?_) fun _ _ q H' hs => q H' (hs1.trans hs))
    refine sh w σ H2 ρ _ ((sl.same hs1).same hs2) ((Po.bind q).imp (fun o2 _ q H3 hs3 => ?_) fun _ _ q H' hs => q H' ((hs1.trans hs2).trans hs))
    have hs13 := hs2.trans hs3
    have hs := hs1.trans hs13
    obtain ⟨p, xs, rfl, h1, h2⟩ := is_lst (hi1.same hs13)
    refine ⟨p, xs, rfl, by rw [z.K]; exact h1, fun q' hq' => ?_⟩
    have hcut : IsA c (NW w 0 H) H3 (cutV xs o1 o2) (cutD l o1 o2) := by
      unfold cutV cutD
      rw [h2.length]
      exact (h2.drop _).take _
    refine q _ _ [q'] (same_new hs hq') (fun a ha => ?_) (by simp) ?_
    · have e : a = q' := by simpa using ha
      rw [e]; exact hs.free hq'
    · have hi3 : IsA c (fun a => NW w 0 H a ∧ a ∉ [q']) (upd H3 q' (.lst (cutV xs o1 o2))) (cutV xs o1 o2) (cutD l o1 o2) := (hcut.track.up fun a x => ⟨x.1, fun z => x.2 (by have e : a = q' := (by simpa using z); rw [e]; exact hq')⟩).same (same_new (Same.refl _) hq')
      obtain ⟨Gs, g1, g2⟩ := hi3.toP3
      exact ⟨q', _, _, Gs, rfl, rfl, upd_same, g1, by rw [g2]⟩
  | _ => exact q.elim
end
/-! ### defs that take what they are handed -/
def spC (c : Ct) (s : Sh) (F : List D → O D) : Sp := fun vs H Q _ => ∃ v0 vr d0 dr G, vs = v0 :: vr ∧ Own c (fun _ => False) H s v0 d0 G ∧ G.Nodup ∧ IsA c (fun a => a ∉ G) H vr dr ∧
  Po (F (d0 :: dr)) (fun d => ∀ v H', (∀ a o, a ∉ G → H a = some o → H' a = some o) → Is c (fun a => a ∈ G ∨ H a = none) H' v d → Q v H') (fun _ => False)
section
variable {P : Program} {w : World} {K : PySem.W.Frag} {mg : Str → Option Value} {base : Heap} {c : Ct}
theorem fn_cons {x qual : Str} {st : Stmt} {f : Addr} {fd : FuncData} {N ps : List Str} {k : Nat} {s : Sh} {g : SF} {M M' : Nat → Mo} (F : Fun K x qual st f fd) (S : FnScope N ps (defScope st)) (hK : K = c.K) (h0 : M 0 = .o s) (hM : ∀ i, 0 < i → i < ps.length → M i = .v 1)
    (hb : ∀ (cdv : Value) (A : Around) (outer : List Env) (s : Shared) (H : Hp) (E : XK), Cz (cxOf (L2N.CX P w) P w K mg base N qual (defScope st) f cdv A outer s H E) c (fun cls d _ H => E cls d H) k →
      VSs (cxOf (L2N.CX P w) P w K mg base N qual (defScope st) f cdv A outer s H E) c (fun cls d _ H => E cls d H) .fz M M M' (defBody st) g) :
    FnOk P w K mg base (L2N.CX P w) (k + 1) f fd ps (spC c s (runF N.length ps.length .fz g)) := by
  refine okG F S (fun vs H Q E h => ?_) (fun cdv A outer s H vs Q E hr h => ?_)
  · obtain ⟨v0, vr, d0, dr, G, rfl, h1, h2, h3, h4⟩ := h
    obtain ⟨hl, _⟩ := Po.gd h4
    rw [Bool.and_eq_true, decide_eq_true_eq] at hl
    have := hl.1
    rw [List.length_cons] at this ⊢
    rw [h3.length, this]
  · have z : Cz (cxOf (L2N.CX P w) P w K mg base N qual (defScope st) f cdv A outer s H E) c (fun cls d _ H => E cls d H) k := ⟨hK, rfl, L2N.takes_of rfl rfl rfl rfl, hr, passes_of rfl⟩
    obtain ⟨t, p, so⟩ := (hb cdv A outer s H E z).ex
    refine ⟨t, p, ?_⟩
    obtain ⟨v0, vr, d0, dr, G, rfl, h1, h2, h3, h4⟩ := h
    obtain ⟨hl, h4⟩ := Po.gd h4
    rw [Bool.and_eq_true, decide_eq_true_eq, decide_eq_true_eq] at hl
    have h4 := Po.bind h4
    let B : Bs := ⟨fun a => if a ∈ G then none else H a, [(H, fun a => a ∈ G)], []⟩
    let Fs : Nat → List Addr := fun i => if i = 0 then G else []
    have fs0 : ∀ i a, a ∈ Fs i → i = 0 ∧ a ∈ G := fun i a ha => by
      by_cases hi : i = 0
      · subst hi; exact ⟨rfl, ha⟩
      · have : a ∈ (if i = 0 then G else []) := ha
        rw [if_neg hi] at this; simp at this
    have R0 : RelF c M B Fs H (L2.start N (v0 :: vr)) (startD N.length (d0 :: dr)) := by
      refine ⟨fun i => ?_, fun i j a ha hb => by rw [(fs0 i a ha).1, (fs0 j a hb).1], fun i a ha => h1.there a (fs0 i a ha).2, fun p hp a o e _ => ?_, fun p hp i a ha => ?_, fun i s hs a ha => if_pos (fs0 i a ha).2, fun a e => ?_, fun i d e => ?_, (fun q hq => by cases hq), by simp [L2.start, startD, h3.length]⟩
      · show (if i = 0 then G else []).Nodup
        split
        · exact h2
        · simp
      · have : p = (H, fun a => a ∈ G) := by simpa [B] using hp
        rw [this] at e; exact e
      · have : p = (H, fun a => a ∈ G) := by simpa [B] using hp
        rw [this]; exact .inr (fs0 i a ha).2
      · show (if a ∈ G then none else H a) = none
        split
        · rfl
        · exact e
      · cases i with
        | zero =>
          have e : some d0 = some d := by simpa [startD] using e
          cases e
          refine ⟨v0, by simp [L2.start], ?_⟩
          rw [h0]
          exact h1.mono (fun _ z => z.elim) fun a o _ e => e
        | succ i =>
          have e1 : dr[i]? = some d := by
            unfold startD at e
            rw [List.map_cons, List.cons_append, List.getElem?_cons_succ] at e
            by_cases hi : i < dr.length
            · rw [List.getElem?_append_left (by simpa using hi), List.getElem?_map, List.getElem?_eq_getElem hi] at e
              rw [List.getElem?_eq_getElem hi]
              cases e; rfl
            · rw [List.getElem?_append_right (by simpa using hi), List.getElem?_replicate] at e
              split at e <;> cases e
          obtain ⟨v, e2, e3⟩ := h3.getD e1
          have hv : i < vr.length := (List.getElem?_eq_some_iff.mp e2).1
          have hd : i < dr.length := (List.getElem?_eq_some_iff.mp e1).1
          refine ⟨v, ?_, ?_⟩
          · unfold L2.start
            rw [List.map_cons, List.cons_append, List.getElem?_cons_succ, List.getElem?_append_left (by simpa using hv), List.getElem?_map, e2]
            rfl
          · rw [hM (i + 1) (by omega) (by have := hl.1; rw [List.length_cons] at this; omega)]
            exact ⟨by decide, if_neg (by omega), e3.up fun a ha j z => ha (fs0 j a z).2⟩
    refine so B _ H (startD N.length (d0 :: dr)) _ ⟨Fs, R0⟩ (h4.imp (fun out _ q => ?_) fun kx _ q σ' H' hf => q.elim)
    have keep : ∀ {M2 : Nat → Mo} {Fs2 : Nat → List Addr} {σ2 : L2.St} {ρ2 : Rho} {H' : Hp}, RelF c M2 B Fs2 H' σ2 ρ2 → ∀ a o, a ∉ G → H a = some o → H' a = some o := fun {M2 Fs2 σ2 ρ2 H'} R a o hn e =>
      R.fr (H, fun a => a ∈ G) (by simp [B]) a o e hn
    cases out with
    | nx ρ' =>
      intro σ' H' R
      obtain ⟨hrs, q⟩ := Po.gd q
      obtain ⟨Fs2, R⟩ := R
      exact q .non H' (keep R) .non
    | rt d ρ' =>
      rintro v H' ⟨M2, Fs2, σ2, Fp, R, n1, n2, n3⟩
      refine q v H' (keep R) (n3.2.up fun a x => ?_)
      have hx : (if a ∈ G then none else H a) = none := x.1
      by_cases ha : a ∈ G
      · exact .inl ha
      · rw [if_neg ha] at hx; exact .inr hx
    | bk ρ' => exact q.elim
    | ct ρ' => exact q.elim
    | ex k ρ' => exact q.elim
end
/-- y = f(y, ..): y's own objects go to f; what comes back is read only -/
def sCons (i : Nat) (s : Sh) (fs : AF) (F : List D → O D) : SF := fun ρ => (eOwn s i ρ).bind fun d0 => (fs ρ).bind fun dr => (noX (F (d0 :: dr))).bind fun d => gd (decide (i < ρ.length)) (.ok (.nx (ρ.set i (some d))))
section
variable {X : Cx} {c : Ct} {M Ml : Nat → Mo} {We : WX} {al k k' : Nat} {rs : Sh} {es : List Expr} {fs : AF} {pos pos' p p1 p2 : Pos}
theorem vs_setC {n y : Str} {F : List D → O D} (i : Nat) (s : Sh) (z : Cz X c We k) (dc : Dc X.prog X.w X.K X.mg X.base k' n (spC c s F)) (hk : k' ≤ k) (hm : M i = .o s) (t : VA X c M We al es fs) (hal : al ≤ 1) (hN : X.N.Nodup) (hi : X.N[i]? = some y := by rfl)
    (hv : Vis X.env.scope y := by first | exact Or.inl rfl | exact Or.inr (Or.inl rfl) | exact Or.inr (Or.inr rfl)) (hd : (y == ("__debug__" : Str)) = false := by decide) (hcd : (y == ("__classdict__" : Str)) = false := by decide) (hg : Gl X n := by rfl) (hdb : (n == ("__debug__" : Str)) = false := by decide)
    (hst : starEach (.Name y p2 :: es) X.env = (false, eval (.Name y p2) X.env) :: starEach es X.env := by rfl) (hpl : (backTo pos (starEach es X.env)).any (·.1) = false := by rfl)
    (hx : L2.Loc X.env.scope y := by first | exact .inl rfl | exact .inr rfl) (hs : swapsWith (.Call (.Name n p) (.Name y p2 :: es) [] pos) (some (.Name y p1)) pos'.line X.env = pure false := by rfl) (hf : X.fn y = true ∨ X.env.scope.names.lookup y = some .local := by first | exact .inl rfl | exact .inr rfl) :
    VSt X c We rs Ml M (fset M i (.v 0)) (.Assign [.Name y p1] (.Call (.Name n p) (.Name y p2 :: es) [] pos) pos') (sCons i s fs F) := by
  obtain ⟨f, fd, ps, G, hb, hmg, kp⟩ := dc.ex
  obtain ⟨ta, pt, st⟩ := t.ex
  refine ⟨_, ps_set (i := i) hN hi hx (pe_callS (G.mono hk) z.hr hg hmg kp hb (fun σ => L2N.passAt z.tk σ) (pa_cons (pv i hi hv hd hcd) pt hst) hdb hst hpl) hs hf, fun B σ H ρ D R po => ?_⟩
  obtain ⟨Fs, R⟩ := R
  obtain ⟨d0, hr, po⟩ := po_var (i := i) (ρ := ρ) (f := fun d => gd (immIn s d) (.ok d)) (Po.bind (r := eOwn s i ρ) po)
  obtain ⟨him, po⟩ := Po.gd po
  obtain ⟨v0, h1, h2⟩ := R.sl i d0 hr
  rw [hm] at h2
  have h2 : Own c (wd B Fs).n H s v0 d0 (Fs i) := h2
  refine ⟨v0, h1, ?_⟩
  refine st _ σ H ρ _ R.slots ((Po.exc_up R (Po.bind (r := fs ρ) po)).imp (fun dr _ q vs H1 hs1 hi1 => ?_) fun _ _ q => q)
  have R1 := R.same hs1
  have hown : Own c (fun _ => False) H1 s v0 d0 (Fs i) := (h2.immIn him).mono (fun _ z => z) fun a o _ e => hs1 a o e
  refine ⟨v0, vs, d0, dr, Fs i, rfl, hown, R.nd i, hi1.up fun a x => ?_, (Po.noX (E' := fun _ => False) (Po.bind (r := noX (F (d0 :: dr))) q)).imp (fun d _ q v H2 hfr hv2 => ?_) fun _ _ q => q⟩
  · rcases x with x | x
    · have h := (wd B Fs).up hal a x
      exact h i
    · exact R.newNot x i
  · obtain ⟨hl, q⟩ := Po.gd q
    have hl := of_decide_eq_true hl
    have ownB : ∀ a ∈ Fs i, B.H0 a = none := R.own i s hm
    have R2 : RelF c M B (fset Fs i []) H2 σ (ρ.set i none) := by
      refine R1.putW (F' := []) hfr (fun a e => ?_) (by simp) (by simp) (by simp) (fun j hj => rfl) (fun j hj => List.getElem?_set_ne (Ne.symm hj)) (by simp [R.len]) (fun q hq e => ?_) (fun s' hs' => R.own i s' hs') fun d e => ?_
      · by_cases ha : a ∈ Fs i
        · exact ownB a ha
        · refine R1.old a ?_
          cases e1 : H1 a with
          | none => rfl
          | some o => rw [hfr a o ha e1] at e; cases e
      · have hs := (R.mp q hq).2
        rw [e, hm] at hs; cases hs
      · rw [List.getElem?_set_self hl] at e; cases e
    have R3 := R2.remode (i := i) (.v 0) (fun s' hs' => by rw [hm] at hs'; cases hs')
    have R4 := R3.setV (i := i) (fset_self _ _ _) (by decide) (by simpa using hl) (v := v) (d := d) (hv2.up fun a x => ?_) (Same.refl H2)
    · rw [List.set_set, List.set_set] at R4
      exact q _ H2 R4
    · refine .inl ⟨fun l z => ?_, ?_⟩
      · by_cases hl' : l = i
        · rw [hl', fset_self] at z; simp at z
        · rw [fset_ne hl', fset_ne hl'] at z
          rcases x with x | x
          · exact hl' (R.dj l i a z x)
          · exact R1.newNot x l z
      · rcases x with x | x
        · exact ownB a x
        · exact R1.old a x
end
end VS
set_option Elab.async false
set_option linter.all false
set_option maxRecDepth 100000
set_option maxHeartbeats 2000000
/-! VI: texts; what is never reached; isinstance of a land. -/
namespace VS
open PySem L2
def strID : D → O D
  | .int i => gd (decide (i.natAbs < 2 ^ 64)) (.ok (.str (toString i)))
  | _ => .bad
def strsD : List D → Option (List Str)
  | [] => some []
  | .str s :: ds => match strsD ds with
    | some ss => some (s :: ss)
    | none => none
  | _ :: _ => none
def joinD : D → D → O D
  | .str a, .lst l => match strsD l with
    | some ys => gd (decide ((ys.map (·.length)).sum + ys.length * a.length ≤ 100000)) (.ok (.str (Txt.join a ys)))
    | none => .bad
  | _, _ => .bad
def splitD : D → D → O D
  | .str a, .str b => gd ((!(b.length == 0)) && decide (a.length ≤ 100000)) (.ok (.lst ((Txt.split a b).map .str)))
  | _, _ => .bad
def endD : D → D → O D
  | .str a, .str b => .ok (.bl (Txt.endswith a b))
  | _, _ => .bad
def eSlS (fa : EF) (pl ph : Rho → O (Option Int)) : EF := fun ρ => (fa ρ).bind fun d => match d with
  | .str z => (pl ρ).bind fun lo => (ph ρ).bind fun hi => gd (decide (z.length ≤ 100000)) (.ok (.str (cutS z lo hi)))
  | _ => .bad
def inS (neg : Bool) (x y : D) : O D := match x, y with
  | .str s, .str z => match s.cps.toList with
    | [ch] => .ok (.bl (neg != decide (ch ∈ z.cps.toList)))
    | _ => .bad
  | _, _ => .bad
def intSD : D → O D
  | .str a => match PySem.intText? a with
    | some n => gd (decide (a.length ≤ 640)) (.ok (.int n))
    | none => .bad
  | _ => .bad
def isLandD : D → O D
  | .land _ => .ok (.bl true)
  | _ => .bad
theorem one_sign {s : Str} {ch : Nat} (h : s.cps.toList = [ch]) : s = ⟨#[ch]⟩ := Str.ext' (Array.toList_inj.mp h)
theorem strsD_is {c : Ct} {W : Addr → Prop} {H : Hp} : ∀ {xs : List V} {ds : List D} {ss : List Str}, IsA c W H xs ds → strsD ds = some ss → xs = ss.map V.str
  | _, [], _, .nil, h => by cases h; rfl
  | _, d :: ds, ss, .cons h t, e => by
    cases d with
    | str s =>
      cases e2 : strsD ds with
      | none => simp [strsD, e2] at e
      | some ms =>
        simp [strsD, e2] at e
        subst e
        rw [is_str h, strsD_is t e2]; rfl
    | _ => cases e
theorem isA_strs {c : Ct} {W : Addr → Prop} {H : Hp} : ∀ ss : List Str, IsA c W H (ss.map V.str) (ss.map D.str)
  | [] => .nil
  | s :: ss => .cons (.str s) (isA_strs ss)
theorem immA_strs : ∀ ss : List Str, immA (ss.map D.str) = true
  | [] => by simp
  | s :: ss => by rw [List.map_cons, immA_cons, immA_strs ss]; rfl
theorem rs_inS {c : Ct} : RS c (fun x y H Q => ∃ (ch : Nat) (z : Str), x = .str ⟨#[ch]⟩ ∧ y = .str z ∧ Q (.bl (decide (ch ∈ z.cps.toList))) H) (inS false) := by
  intro W W' x y dx dy H Q E hx hy po
  cases dx with
  | str s =>
    cases dy with
    | str z =>
      simp only [inS] at po
      cases hs : s.cps.toList with
      | nil => rw [hs] at po; exact po.elim
      | cons ch r =>
        cases r with
        | cons _ _ => rw [hs] at po; exact po.elim
        | nil =>
          rw [hs] at po
          refine ⟨ch, z, by rw [is_str hx, one_sign hs], is_str hy, po _ H (Same.refl H) fun Wz => ?_⟩
          rw [Bool.false_bne]; exact .bl _
    | _ => exact po.elim
  | _ => exact po.elim
theorem rs_notinS {c : Ct} : RS c (fun x y H Q => ∃ (ch : Nat) (z : Str), x = .str ⟨#[ch]⟩ ∧ y = .str z ∧ Q (.bl (!decide (ch ∈ z.cps.toList))) H) (inS true) := by
  intro W W' x y dx dy H Q E hx hy po
  cases dx with
  | str s =>
    cases dy with
    | str z =>
      simp only [inS] at po
      cases hs : s.cps.toList with
      | nil => rw [hs] at po; exact po.elim
      | cons ch r =>
        cases r with
        | cons _ _ => rw [hs] at po; exact po.elim
        | nil =>
          rw [hs] at po
          refine ⟨ch, z, by rw [is_str hx, one_sign hs], is_str hy, po _ H (Same.refl H) fun Wz => ?_⟩
          rw [Bool.true_bne]; exact .bl _
    | _ => exact po.elim
  | _ => exact po.elim
section
variable {X : Cx} {c : Ct} {M Ml M' : Nat → Mo} {We : WX} {al al' k : Nat} {e a b : Expr} {f fa fb : EF} {pos apos p2 : Pos} {lo hi : Option Expr} {pl ph : Rho → O (Option Int)} {rs : Sh} {g : SF}
theorem ve_strI {p : Pos} (h : VE X c M We al e f) (hg : Gl X "str") (hm : X.mg "str" = none) (hs : starEach [e] X.env = (false, eval e X.env) :: starEach [] X.env := by rfl) (hpl : (backTo pos (starEach [] X.env)).any (·.1) = false := by rfl) :
    VE X c M We 0 (.Call (.Name "str" p) [e] [] pos) (e1 strID f) := by
  obtain ⟨te, pe, s⟩ := h.ex
  refine ⟨_, pe_callTy call_str_int hg hm (by decide +kernel) (pa_cons pe pa_nil hs) (by decide) (by decide) hs hpl, fun w σ H ρ Q sl po => s w σ H ρ _ sl ((Po.bind po).imp (fun d _ q v H1 hs1 hi => ?_) fun _ _ q => q)⟩
  cases d with
  | int i =>
    obtain ⟨hb, q⟩ := Po.gd q
    refine ⟨i, by rw [is_int hi], ?_, q _ H1 hs1 (.str _)⟩
    have hb := of_decide_eq_true hb
    by_cases h0 : i.natAbs = 0
    · rw [h0]; decide
    · exact Nat.lt_trans ((Nat.log2_lt h0).mpr hb) (by decide)
  | _ => exact q.elim
theorem ve_join {x : Str} {j : Nat} (z : Cz X c We k) (hb : VE X c M We al b fb) (hs : starEach [b] X.env = [(false, eval b X.env)] := by rfl) (hbase : attributeBase (.Constant (.str x) j p2) "join" X.env (eval (.Constant (.str x) j p2) X.env) = eval (.Constant (.str x) j p2) X.env := by rfl) (hline : (apos.endLine == pos.line) = true := by rfl) :
    VE X c M We 0 (.Call (.Attribute (.Constant (.str x) j p2) "join" apos) [b] [] pos) (e1 (joinD (.str x)) fb) := by
  obtain ⟨tb, pb, sb⟩ := hb.ex
  refine ⟨_, pe_join pe_str pb hs hbase hline, fun w σ H ρ Q sl po => ?_⟩
  refine ⟨⟨x, rfl⟩, sb w σ H ρ _ sl ((Po.bind po).imp (fun d2 _ q v2 H2 hs2 hi2 => ?_) fun _ _ q => q)⟩
  cases d2 with
  | lst l =>
    cases hy : strsD l with
    | none => simp only [joinD, hy] at q; exact q.elim
    | some ys =>
      simp only [joinD, hy] at q
      obtain ⟨hz, q⟩ := Po.gd q
      obtain ⟨p, xs0, rfl, _, _⟩ := is_lst hi2
      obtain ⟨xs, h1, h2, _⟩ := sq_list (xs := xs0) hi2
      have e := strsD_is h1 hy
      subst e
      exact ⟨x, p, ys, rfl, rfl, .inl (by rw [z.K]; exact h2), Nat.le_trans (of_decide_eq_true hz) (by decide), q _ H2 hs2 (.str _)⟩
  | _ => exact q.elim
theorem vo_split {x : Str} {j : Nat} (ha : VE X c M We al a fa) (hs : starEach [.Constant (.str x) j p2] X.env = [(false, eval (.Constant (.str x) j p2) X.env)] := by rfl) (hbase : attributeBase a "split" X.env (eval a X.env) = eval a X.env := by rfl) (hline : (apos.endLine == pos.line) = true := by rfl) :
    VO X c M We (.l .fz) (.Call (.Attribute a "split" apos) [.Constant (.str x) j p2] [] pos) (e1 (fun d => splitD d (.str x)) fa) := by
  obtain ⟨ta, pa, sa⟩ := ha.ex
  refine ⟨_, pe_split pa pe_str hs hbase hline, fun w σ H ρ Q sl po => sa w σ H ρ _ sl ((Po.bind po).imp (fun d _ q v H1 hs1 hi1 => ?_) fun _ _ q => q)⟩
  cases d with
  | str s =>
    obtain ⟨hz, q⟩ := Po.gd q
    rw [Bool.and_eq_true, decide_eq_true_eq] at hz
    refine ⟨⟨s, is_str hi1⟩, s, x, is_str hi1, rfl, by simpa using hz.1, Nat.le_trans (Nat.add_le_add_right hz.2 2) (by decide), fun p hp => ?_⟩
    obtain ⟨o1, o2, o3, o4⟩ := own_new (w := w) hs1 hp (isA_strs (c := c) (W := fun _ => False) (H := H1) (Txt.split s x)) (immA_strs _)
    exact q _ _ [p] o1 o2 o3 o4
  | _ => exact q.elim
theorem ve_ends {x : Str} {j : Nat} (ha : VE X c M We al a fa) (hs : starEach [.Constant (.str x) j p2] X.env = [(false, eval (.Constant (.str x) j p2) X.env)] := by rfl) (hbase : attributeBase a "endswith" X.env (eval a X.env) = eval a X.env := by rfl) (hline : (apos.endLine == pos.line) = true := by rfl) :
    VE X c M We 0 (.Call (.Attribute a "endswith" apos) [.Constant (.str x) j p2] [] pos) (e1 (fun d => endD d (.str x)) fa) := by
  obtain ⟨ta, pa, sa⟩ := ha.ex
  refine ⟨_, pe_m1 PySem.F.slot_str_endswith PySem.F.type_str_endswith mt_endswith pa pe_str hs hbase hline, fun w σ H ρ Q sl po => sa w σ H ρ _ sl ((Po.bind po).imp (fun d _ q v H1 hs1 hi1 => ?_) fun _ _ q => q)⟩
  cases d with
  | str s => exact ⟨⟨s, is_str hi1⟩, s, x, is_str hi1, rfl, q _ H1 hs1 (.bl _)⟩
  | _ => exact q.elim
theorem ve_slS (ha : VE X c M We al a fa) (hl : VPo X c M We lo pl) (hh : VPo X c M We hi ph) : VE X c M We 0 (.Subscript a (.Slice lo hi none p2) pos) (eSlS fa pl ph) := by
  obtain ⟨ta, pa, sa⟩ := ha.ex
  obtain ⟨tl, pl', sl'⟩ := hl.ex
  obtain ⟨th, ph', sh⟩ := hh.ex
  refine ⟨_, pe_slice sl_str pa pl' ph', fun w σ H ρ Q sl po => sa w σ H ρ _ sl ((Po.bind po).imp (fun d _ q v H1 hs1 hi1 => ?_) fun _ _ q => q)⟩
  cases d with
  | str x =>
    replace q : Po ((pl ρ).bind fun lo => (ph ρ).bind fun hi => gd (decide (x.length ≤ 100000)) (.ok (D.str (cutS x lo hi)))) _ _ := q
    refine sl' w σ H1 ρ _ (sl.same hs1) ((Po.bind q).imp (fun o1 _ q H2 hs2 => ?_) fun _ _ q H' hs => q H' (hs1.trans hs))
    refine sh w σ H2 ρ _ ((sl.same hs1).same hs2) ((Po.bind q).imp (fun o2 _ q H3 hs3 => ?_) fun _ _ q H' hs => q H' ((hs1.trans hs2).trans hs))
    obtain ⟨hz, q⟩ := Po.gd q
    exact ⟨x, is_str hi1, Nat.le_trans (of_decide_eq_true hz) (by decide), q _ H3 ((hs1.trans hs2).trans hs3) (.str _)⟩
  | _ => exact q.elim
theorem ve_sin (ha : VE X c M We al a fa) (hb : VE X c M We al' b fb) (hmk : behindInMarks .In b = false := by first | exact nobehind _ (by decide) (by decide) | rfl) : VE X c M We 0 (.Compare a [.In] [b] pos) (e2 (inS false) fa fb) := ve_cmp op_in_sign rs_inS ha hb hmk
theorem vt_sin (ha : VE X c M We al a fa) (hb : VE X c M We al' b fb) (hmk : behindInMarks .In b = false := by first | exact nobehind _ (by decide) (by decide) | rfl) : VT X c M We (.Compare a [.In] [b] pos) (tE (e2 (inS false) fa fb)) := vt_cmp op_in_sign rs_inS ha hb hmk
theorem ve_snotin (ha : VE X c M We al a fa) (hb : VE X c M We al' b fb) (hmk : behindInMarks .NotIn b = false := by first | exact nobehind _ (by decide) (by decide) | rfl) : VE X c M We 0 (.Compare a [.NotIn] [b] pos) (e2 (inS true) fa fb) := ve_cmp op_notIn_sign rs_notinS ha hb hmk
theorem vt_snotin (ha : VE X c M We al a fa) (hb : VE X c M We al' b fb) (hmk : behindInMarks .NotIn b = false := by first | exact nobehind _ (by decide) (by decide) | rfl) : VT X c M We (.Compare a [.NotIn] [b] pos) (tE (e2 (inS true) fa fb)) := vt_cmp op_notIn_sign rs_notinS ha hb hmk
theorem ve_intS {p : Pos} (h : VE X c M We al e f) (hg : Gl X "int") (hm : X.mg "int" = none) (hs : starEach [e] X.env = (false, eval e X.env) :: starEach [] X.env := by rfl) (hpl : (backTo pos (starEach [] X.env)).any (·.1) = false := by rfl) :
    VE X c M We 0 (.Call (.Name "int" p) [e] [] pos) (e1 intSD f) := by
  obtain ⟨te, pe, s⟩ := h.ex
  refine ⟨_, pe_callTy call_int_str hg hm PyProof.Rows.boot_int (pa_cons pe pa_nil hs) (by decide) (by decide) hs hpl, fun w σ H ρ Q sl po => s w σ H ρ _ sl ((Po.bind po).imp (fun d _ q v H1 hs1 hi => ?_) fun _ _ q => q)⟩
  cases d with
  | str x =>
    cases hn : PySem.intText? x with
    | none => simp only [intSD, hn] at q; exact q.elim
    | some n =>
      simp only [intSD, hn] at q
      obtain ⟨hz, q⟩ := Po.gd q
      exact ⟨x, n, by rw [is_str hi], hn, of_decide_eq_true hz, q _ H1 hs1 (.int _)⟩
  | _ => exact q.elim
/-! ### what is never reached -/
def sBad : SF := fun _ => .bad
theorem vs_bad {st : Stmt} : VSt X c We rs Ml M M' st sBad := ⟨fun _ _ _ => False, ⟨fun _ _ _ _ _ _ h => h.elim⟩, fun _ _ _ _ _ _ po => po.elim⟩
theorem vss_bad {sts : List Stmt} : VSs X c We rs Ml M M' sts sBad := ⟨fun _ _ _ => False, ⟨fun _ _ _ _ _ _ h => h.elim⟩, fun _ _ _ _ _ _ po => po.elim⟩
/-- try .. except A: (whatever: nothing is raised) -/
def sTryN (g : SF) : SF := fun ρ => match g ρ with
  | .bad => .bad
  | .exc _ => .bad
  | .ok (.ex _ _) => .bad
  | .ok o => .ok o
theorem vs_tryN {x : Str} {c0 : Value} {body suite : List Stmt} {b₀ : Stmt} {np pos' : Pos} (z : Cz X c We k) (hb : ∀ (W : WX) (pn : List (Addr × Obj)) (xe : Value → Shared → Prop), Cz (X.tr pn xe) c W k → VSs (X.tr pn xe) c W rs Ml M M' body g) (hc : Names X x c0)
    (hst : X.stack = X.env :: X.outer := by rfl) (hfr : X.env.frame = some X.env.locals := by rfl) :
    VSt X c We rs Ml M M' (.Try body [.ExceptHandler (some (.Name x np)) none (b₀ :: suite) pos'] [] [] pos) (sTryN g) := by
  refine ⟨_, ps_try_only (tb := tBody X fun W pn xe t => PSs (X.tr pn xe) body t) (ts := fun _ _ _ _ _ _ => False) hst hfr hc takesNo (fun W pn xe h1 h2 => ⟨fun pins s σ H D I hw => ?_⟩) (fun a oe cls d pn hz hf => ⟨fun _ _ _ _ _ _ h => h.elim⟩), fun B σ H ρ D R po pn xe h1 h2 => ?_⟩
  · obtain ⟨t, ht, hd⟩ := hw pn xe h1 h2
    exact ht.run pins s σ H D I hd
  · obtain ⟨t, ht, hr⟩ := (hb _ pn xe (z.tr (takesN h1) h2)).ex
    refine ⟨t, ht, hr B σ H ρ D R ?_⟩
    unfold sTryN at po
    cases hg : g ρ with
    | bad => rw [hg] at po; exact po.elim
    | exc kx => rw [hg] at po; exact po.elim
    | ok out =>
      rw [hg] at po
      cases out with
      | ex kx ρ' => exact po.elim
      | nx ρ' => exact po
      | rt d ρ' => exact po
      | bk ρ' => exact po
      | ct ρ' => exact po
/-! ### isinstance of a land -/
structure ClsF (K : PySem.W.Frag) (C : Addr) : Prop where
  ha : PySem.W.findIn K (.ref C) "__class__" = some (some (.builtin "object.__class__"))
  hn : PySem.W.specialIn K (.builtin "object.__class__") "__get__" = some (some (.builtin "getset_descriptor.__get__"))
  ht : PySem.W.takesIn K (.builtin "object.__class__") = some true
  hm : PySem.W.mroIn K C (.type "object") = some true
theorem ve_isLand {p : Pos} {tn : Str} (lc : Cls X.K c.CL) (cf : ClsF X.K c.CL) (hL : X.mg tn = some (.ref c.CL)) (z : Cz X c We k) (h : VE X c M We al e f) (hg : Gl X "isinstance") (hm : X.mg "isinstance" = none) (hg2 : Gl X tn) (hd : (tn == ("__debug__" : Str)) = false := by decide)
    (hs : starEach [e, .Name tn p2] X.env = (false, eval e X.env) :: starEach [.Name tn p2] X.env := by rfl) (hs1 : starEach [.Name tn p2] X.env = (false, eval (.Name tn p2) X.env) :: starEach [] X.env := by rfl) (hpl : (backTo pos (starEach [.Name tn p2] X.env)).any (·.1) = false := by rfl) :
    VE X c M We 0 (.Call (.Name "isinstance" p) [e, .Name tn p2] [] pos) (e1 isLandD f) := by
  obtain ⟨te, pe, s⟩ := h.ex
  have hb : PE X (.Name tn p2) (tC (.ref c.CL)) := pe_glob (v := .ref c.CL) hg2 hL rfl hd
  refine ⟨_, pe_callB (call_isi (X := X)) hg hm PyProof.Rows.boot_isinstance (pa_cons pe (pa_cons hb pa_nil hs1) hs) (by decide) (by decide) hs hpl, fun w σ H ρ Q sl po => s w σ H ρ _ sl ((Po.bind po).imp (fun d _ q v H1 hs hi => ?_) fun _ _ q => q)⟩
  cases d with
  | land L =>
    cases hi with
    | land h1 h2 =>
      obtain ⟨dx, g, od, rs, e1, _⟩ := h1
      refine ⟨_, .ref c.CL, .ref c.CL, .ref c.CL, true, rfl, .own _, .base (.ins e1 lc cf.ha cf.hn cf.ht cf.hm), ?_, q _ H1 hs (.bl _)⟩
      unfold PySem.W.kitOne
      simp
  | _ => exact q.elim
end
end VS
set_option Elab.async false
set_option linter.all false
set_option maxRecDepth 100000
set_option maxHeartbeats 2000000
/-! VSet: set(xs) of tuples of ints, where the 64th item handed over is there already (the library's rule, that stops at 63 items handed over, turned to that), and its sorted list. -/
namespace VS
open PySem L2 PySem.Spec PyProof.Rows
section
variable {P : Program} {w : World} {A : Around} {E : Value → Shared → Prop} {s : Shared}
theorem add_there {a : Addr} {L : List (Addr × List Int)} {es : Array (Int × Value)} {ep : Nat} {t : SetTable} (R : SetTR P w s.heap a L es ep t) {x : Addr} {k : List Int} (hx : IsT P w s.heap k x) (hu : A.units < cLine) (hin : k ∈ L.map (·.2)) {Q : Bool → Shared → Prop} (hQ : Q false s) :
    wpAny (model P w) A (setAddHashed a (.ref x) (thash P w k)) Q E s := by
  obtain ⟨o, ho, hex, hd⟩ := R.ob
  unfold setAddHashed
  refine wpAny_holding ?_
  rw [show (100000 : Nat) = 99999 + 1 from rfl, setAddHashedIn_succ]
  refine wpAny_bind (wpAny_setState_of ho hd R.fits ?_)
  dsimp only
  refine wp_if_neg (by simp [byScan, Value.scannable]) ?_
  try refine wpAny_bind (wpAny_pure ?_)
  refine wpAny_bind (search_at R hx hu (fun hm => ?_) fun K hm _ _ => absurd hin hm)
  dsimp only
  exact wpAny_pure hQ
theorem set_update_more {I : Addr} {fp wr : List Addr} {G : Array GenState → Array GenState → Prop} {n : Nat} {Pv : Nat → Value → Prop} {St : Nat → Shared → Prop} {R : Result → Shared → Prop}
    (W : WalksS P w A.in1 I fp wr G n Pv St) (S : Addr) (hSf : S ∉ fp) (ks : List (Addr × List Int)) (hn : n = ks.length) (hfew : ∀ i p, ks[i]? = some p → i + 1 < 64 ∨ p.2 ∈ (ks.take i).map (·.2)) (hval : ∀ i v, Pv i v → ∃ p, ks[i]? = some p ∧ v = .ref p.1)
    (h0 : Heap) (hk : ∀ p ∈ ks, IsT P w h0 p.2 p.1) (hS0 : h0.get? S = none) (hw0 : ∀ b ∈ wr, h0.get? b = none) (hu : A.in1.units < cLine) :
    ∀ (k i : Nat) (s : Shared), n - i = k → i ≤ n → St i s → (∀ b o, h0.get? b = some o → s.heap.get? b = some o) → (∃ L es ep t, SetTR P w s.heap S L es ep t ∧ Got ks i L) →
      (∀ s' L es ep t, Moved (S :: wr) G s s' → SetTR P w s'.heap S L es ep t → Got ks n L → (∀ b o, h0.get? b = some o → s'.heap.get? b = some o) → R (.ok (.ret .none)) s') →
      codeAny (model P w) A (.builtin "set.update.loop" ⟨[.ref S, .ref I], []⟩) R s := by
  have hSw : S ∉ wr := fun h => hSf (W.sub _ h)
  have hsub : ∀ b ∈ wr, b ∈ S :: wr := fun b hb => List.mem_cons_of_mem _ hb
  have keepM : ∀ {s s' : Shared}, Moved wr G s s' → (∀ b o, h0.get? b = some o → s.heap.get? b = some o) → ∀ b o, h0.get? b = some o → s'.heap.get? b = some o := fun hm hkp b o e =>
    hm.heap b o (fun hb => by rw [hw0 b hb] at e; cases e) (hkp b o e)
  intro k
  induction k with
  | zero =>
    intro i s hk' hi hst hkp ⟨L, es, ep, t, hS, g⟩ hR
    have hin : i = n := by omega
    subst hin
    refine codeAny_builtin F.entry_set_update_loop ?_
    rw [Around.under_plainId F.plain_set_update_loop _]
    show wpAny _ A.in1 (pyNext (.ref I) >>= _) _ _ s
    refine wpAny_bind (W.done s _ _ hst fun s' hm => ?_)
    show wpAny _ A.in1 (ret Value.none) _ _ s'
    have hkp' := keepM hm hkp
    have sub : ∀ p ∈ L, p ∈ ks := fun p hp => List.mem_of_mem_take (g.sub p hp)
    exact wpAny_pure (hR s' L es ep t (hm.mono hsub) (hS.keep (fun o e => hm.heap S o hSw e) fun p hp => isT_keep (hk p (sub p hp)) hkp') g hkp')
  | succ k ih =>
    intro i s hk' hi hst hkp ⟨L, es, ep, t, hS, g⟩ hR
    have hlt : i < n := by omega
    refine codeAny_builtin F.entry_set_update_loop ?_
    rw [Around.under_plainId F.plain_set_update_loop _]
    show wpAny _ A.in1 (pyNext (.ref I) >>= _) _ _ s
    refine wpAny_bind (W.item i s _ _ hlt hst fun v s' hP hst' hm => ?_)
    obtain ⟨p, hp, rfl⟩ := hval i v hP
    have hkp' := keepM hm hkp
    have sub : ∀ p ∈ L, p ∈ ks := fun p hp => List.mem_of_mem_take (g.sub p hp)
    have hS' : SetTR P w s'.heap S L es ep t := hS.keep (fun o e => hm.heap S o hSw e) fun q hq => isT_keep (hk q (sub q hq)) hkp'
    have hx : IsT P w s'.heap p.2 p.1 := isT_keep (hk p (List.mem_of_getElem? hp)) hkp'
    show wpAny _ A.in1 (holding [Value.ref p.1] (setAdd S (.ref p.1)) >>= _) _ _ s'
    refine wpAny_bind (wpAny_holding ?_)
    unfold setAdd
    refine wpAny_holding ?_
    refine wpAny_bind (wpAny_pyHash_tuple hu hx ?_)
    have step : ∀ {Q : Bool → Shared → Prop} {E : Value → Shared → Prop}, (∀ b h' L' es' ep' t', Heap.SameBut S s'.heap h' → SetTR P w h' S L' es' ep' t' → (p.2 ∈ L.map (·.2) → L' = L) → (p.2 ∉ L.map (·.2) → L'.Perm ((p.1, p.2) :: L)) → Q b { s' with toks := s'.toks + (p.2.length + 1), heap := h' }) →
        wpAny (model P w) A.in1 (setAddHashed S (.ref p.1) (thash P w p.2)) Q E { s' with toks := s'.toks + (p.2.length + 1) } := fun {Q E} hQ => by
      rcases hfew i p hp with hf | hf
      · exact add_at (s := { s' with toks := s'.toks + (p.2.length + 1) }) hS' hx hu (by have := g.len; omega) fun b h' L' es' ep' t' hsb hS2 c1 c2 => hQ b h' L' es' ep' t' hsb hS2 c1 c2
      · obtain ⟨q, hq, e⟩ := List.mem_map.mp hf
        have hin : p.2 ∈ L.map (·.2) := e ▸ g.all q hq
        exact add_there (s := { s' with toks := s'.toks + (p.2.length + 1) }) hS' hx hu hin (hQ false s'.heap L es ep t (Heap.SameBut.refl S s'.heap) hS' (fun _ => rfl) fun z => absurd hin z)
    refine step fun b h' L' es' ep' t' hsb hS2 c1 c2 => ?_
    have g' : Got ks (i + 1) L' := by
      rcases Classical.em (p.2 ∈ L.map (·.2)) with c | c
      · rw [c1 c]; exact g.same hp c
      · exact g.more hp (c2 c)
    have hkp2 : ∀ b o, h0.get? b = some o → h'.get? b = some o := fun b o e => (hsb.2 b (fun z => by rw [z, hS0] at e; cases e)).trans (hkp' b o e)
    refine wpAny_pure ⟨plainId_quiet F.plain_set_update_loop _, ih (i + 1) _ (by omega) hlt (W.frame _ s' _ _ hst' (Nat.le_add_right _ _) fun b hb o e => ?_) hkp2 ⟨L', es', ep', t', hS2, g'⟩ fun s'' L2 es2 ep2 t2 hm'' hS'' g'' hkp'' => ?_⟩
    · rw [hsb.2 b (fun h : b = S => hSf (by rw [← h]; exact hb))]; exact e
    · refine hR s'' L2 es2 ep2 t2 (Moved.trans W.gtrans ((hm.mono hsub).then_heap (Nat.le_add_right _ _) fun b o hb e => ?_) hm'') hS'' g'' hkp''
      rw [hsb.2 b (fun h : b = S => hb (by rw [h]; exact List.mem_cons_self))]; exact e

set_option maxRecDepth 100000 in
set_option maxHeartbeats 3200000 in
/-- set(xs) -/
theorem call_set_more {l : Addr} {items : Array Value} (ks : List (Addr × List Int)) {Q : Value → Shared → Prop} (hh : A.handled = none) (hl : s.heap.IsList l items) (hit : items.toList = ks.map fun p => Value.ref p.1)
    (hk : ∀ p ∈ ks, IsT P w s.heap p.2 p.1) (hfew : ∀ i p, ks[i]? = some p → i + 1 < 64 ∨ p.2 ∈ (ks.take i).map (·.2)) (hu : A.units + 3 < cLine)
    (h : ∀ (h' : Heap) (tk : Nat) L es ep t, SetTR P w h' s.heap.objs.size L es ep t → Got ks ks.length L → (∀ b o, s.heap.get? b = some o → h'.get? b = some o) → Q (.ref s.heap.objs.size) { s with heap := h', toks := tk }) :
    wpAny (model P w) A (call (.type "set") [.ref l]) Q E s := by
  have hisz : items.size = ks.length := by
    have q := congrArg List.length hit
    rw [Array.length_toList, List.length_map] at q
    exact q
  obtain ⟨c, tl, hmro⟩ := F.called_set.mro
  have hmade := F.called_set.made
  have hsub := F.called_set.sub
  refine wpAny_call (codeAny_of_tree ?_)
  show wpAny _ _ (callAny (.type "set") _) _ _ _
  refine wpAny_pure ⟨Code.quiet_builtin _ (by decide +kernel), codeAny_builtin F.entry_type_call ?_⟩
  rw [Around.under_plain (weight_type_call_type "set" [.ref l] []) rfl]
  have h1 := F.called_set.notType
  have h2 := F.called_set.canCreate
  have hct := F.typeCall_set_1 (.ref l)
  repeat (any_goals (first | assumption | wp_step))

  refine codeAny_mono (code_set_led1 (.ref l) (E := E) (Q₁ := fun obj s₁ => obj = .ref s.heap.objs.size ∧ s₁ = { s with heap := s.heap.push { cls := .type "set", dict := none, data := .set #[] 0 (.fresh 0 0 (!w.params.followText "set-order")) } }) ⟨rfl, rfl⟩) fun r s₁ hr => ?_
  cases r with
  | error e => exact hr
  | ok fl =>
    cases fl with
    | ret obj =>
      obtain ⟨rfl, rfl⟩ := hr
      have hS : (s.heap.push { cls := .type "set", dict := none, data := .set #[] 0 (.fresh 0 0 (!w.params.followText "set-order")) }).get? s.heap.objs.size = some { cls := .type "set", dict := none, data := .set #[] 0 (.fresh 0 0 (!w.params.followText "set-order")) } := Heap.get?_push_size _ rfl
      have hT : Shared.TypeIs { s with heap := s.heap.push { cls := .type "set", dict := none, data := .set #[] 0 (.fresh 0 0 (!w.params.followText "set-order")) } } (.ref s.heap.objs.size) "set" := ⟨_, hS, rfl⟩
      have hli := F.called_set.init.lookup
      have hbi := F.called_set.init.bind (.ref s.heap.objs.size)
      repeat (any_goals (first | assumption | wp_step))

      refine codeAny_mono (codeAny_call_builtin (R := wants (fun r s₂ => r = .none ∧ ∃ h' tk L es ep t, s₂ = { s with heap := h', toks := tk } ∧ SetTR P w h' s.heap.objs.size L es ep t ∧ Got ks ks.length L ∧
          (∀ b o, s.heap.get? b = some o → h'.get? b = some o)) E) F.called_set.init.plain F.entry_set_init (check_set_init_1 hT ?_)) fun r₂ s₂ hr₂ => ?_
      · obtain ⟨ol, hol, hcl, nl, hdl⟩ := hl
        obtain ⟨ocls, odict, odata, oslots⟩ := ol
        simp only at hcl hdl
        subst hcl; subst hdl
        have hol' : (s.heap.push { cls := .type "set", dict := none, data := .set #[] 0 (.fresh 0 0 (!w.params.followText "set-order")) }).get? l = some { cls := .type "list", dict := odict, data := .seq items nl, slots := oslots } := Heap.get?_push_of_some _ hol
        have hsls := F.sub_list_set
        have hslf := F.sub_list_frozenset
        have hne : (Value.type "list" == Value.type "dict") = false := by decide
        have hl1 : (s.heap.push { cls := .type "set", dict := none, data := .set #[] 0 (.fresh 0 0 (!w.params.followText "set-order")) }).IsList l items := ⟨_, hol', rfl, nl, rfl⟩
        unfold Builtin.«set.__init__» noKeywords Builtin.Frozenset.updateFrom
        generalize hPI : pyIter = PI
        wp_walk
        subst hPI

        refine wpAny_pyIter_list hl1 ?_
        refine wpAny_bind (wpAny_runValue ?_)
        have hlS : l < s.heap.objs.size := Heap.lt_size hol
        have hh3 : A.in1.in1.in1.handled = none := by simp [hh]
        have hz1 : (s.heap.push { cls := .type "set", dict := none, data := .set #[] 0 (.fresh 0 0 (!w.params.followText "set-order")) }).objs.size = s.heap.objs.size + 1 := Heap.size_push ..
        have hneI : l ≠ (s.heap.push { cls := .type "set", dict := none, data := .set #[] 0 (.fresh 0 0 (!w.params.followText "set-order")) }).objs.size := by
          rw [Heap.size_push]; exact Nat.ne_of_lt (Nat.lt_succ_of_lt hlS)
        have hSf : s.heap.objs.size ∉ [(s.heap.push { cls := .type "set", dict := none, data := .set #[] 0 (.fresh 0 0 (!w.params.followText "set-order")) }).objs.size, l] := by
          rw [Heap.size_push]; simp only [List.mem_cons, List.mem_singleton, List.not_mem_nil, or_false, not_or]
          exact ⟨Nat.ne_of_lt (Nat.lt_succ_self _), Nat.ne_of_gt hlS⟩
        have hval : ∀ (i : Nat) (v : Value), items[i]? = some v → ∃ p, ks[i]? = some p ∧ v = .ref p.1 := fun i v hv => by
          have q : items.toList[i]? = some v := by rw [Array.getElem?_toList]; exact hv
          rw [hit, List.getElem?_map] at q
          cases hq : ks[i]? with
          | none => rw [hq] at q; cases q
          | some p =>
            rw [hq] at q
            exact ⟨p, rfl, (Option.some.inj q).symm⟩
        have none_of : ∀ b, s.heap.objs.size ≤ b → s.heap.get? b = none := fun b hb => by
          cases q : s.heap.get? b with
          | none => rfl
          | some o => exact absurd (Nat.lt_of_lt_of_le (Heap.lt_size q) hb) (Nat.lt_irrefl _)
        refine set_update_more ((Walks.list hh3 _ l hneI items).toS) s.heap.objs.size
          hSf ks hisz hfew hval s.heap hk (none_of _ (Nat.le_refl _)) (fun b hb => none_of b (by
            rw [List.mem_singleton.mp hb, Heap.size_push]
            exact Nat.le_succ _)) hu (items.size - 0) 0 _ (by omega) (Nat.zero_le _)
          ⟨⟨_, Heap.get?_push_size _ rfl, rfl, rfl⟩, (hl1.push _)⟩ (fun b o e => Heap.get?_push_of_some _ (Heap.get?_push_of_some _ e)) ?hS0 ?hR
        case hS0 =>
          have hget : ((s.heap.push { cls := .type "set", dict := none, data := .set #[] 0 (.fresh 0 0 (!w.params.followText "set-order")) }).push { cls := .type "list_iterator", data := .fields #[.ref l, .int 0 0] }).get? s.heap.objs.size
              = some { cls := .type "set", dict := none, data := .set #[] 0 (.fresh 0 0 (!w.params.followText "set-order")) } := Heap.get?_push_of_some _ hS
          exact ⟨[], #[], 0, _, setTR_fresh hget, Got.zero ks⟩
        case hR =>
          intro s' L es ep t hm hS' g' hkp
          obtain ⟨h', g2, d', tk', os'⟩ := s'
          have eg : g2 = s.gens := hm.gens
          have ed : d' = s.drawn := hm.drawn
          have eo : os' = s.os := hm.os
          subst eg; subst ed; subst eo
          show wpAny _ _ _ _ _ _
          refine wpAny_pure ?_
          show wpAny _ _ (ret Value.none) _ _ _
          rw [hisz] at g'
          exact wpAny_pure ⟨rfl, h', tk', L, es, ep, t, rfl, hS', g', hkp⟩

      · cases r₂ with
        | error e => exact hr₂
        | ok fl₂ =>
          cases fl₂ with
          | ret r =>
            obtain ⟨rfl, h', tk, L, es, ep, t, rfl, hS', g', hk'⟩ := hr₂
            repeat (any_goals (first | assumption | wp_step))
            exact h _ _ _ _ _ _ hS' g' hk'
          | _ => exact hr₂.elim
    | _ => exact hr.elim

end
def rSetOfM (K : PySem.W.Frag) (P : Program) (w : World) : List V → Hp → VK → Prop := fun xs H Q => ∃ (l : Addr) (ks : List (Addr × List Int)), xs = [V.ref l] ∧ SqL K H l (ks.map fun p => V.ref p.1) ∧ (∀ p ∈ ks, SqT K H p.1 (p.2.map V.int)) ∧ (∀ i p, ks[i]? = some p → i + 1 < 64 ∨ p.2 ∈ (ks.take i).map (·.2)) ∧
  ∀ a L, H a = none → (∀ p ∈ L, p ∈ ks) → (∀ p ∈ ks, p.2 ∈ L.map (·.2)) → Q (.ref a) (upd H a (SetTO P w a L))
theorem cr_setOfM {X : Cx} (hc : X.calm = true) (hu : X.A.units + 64 < cLine) : CallR X (.type "set") (rSetOfM X.K X.prog X.w) := by
  intro pins s σ H xs us Q I r h
  obtain ⟨l, ks, rfl, hl, hk, hf, q⟩ := h
  rw [Vals.ref1 r]
  obtain ⟨its, rv, pl, hz⟩ := I.list hl
  have hn : H s.heap.objs.size = none := I.hok.fresh (Nat.le_refl _)
  refine call_set_more (P := X.prog) (w := X.w) ks (I.ok.hd hc) pl.isList (by simpa using refs_of_vals rv) (fun p hp => I.isT (hk p hp)) hf (by omega) fun h' tk L es ep t R g k => ?_
  refine ⟨.ref s.heap.objs.size, upd H s.heap.objs.size (SetTO X.prog X.w s.heap.objs.size L), I.laid (t' := tk) k (Nat.le_refl _) (setTO_new R.t0), rfl, q _ L hn (fun p hp => ?_) fun p hp => ?_⟩
  · exact List.mem_of_mem_take (g.sub p hp)
  · exact g.all p (by rw [List.take_length]; exact hp)
end VS
set_option Elab.async false
set_option linter.all false
set_option maxRecDepth 100000
set_option maxHeartbeats 2000000
/-! VJs: sorted(set(xs)), xs a list of pairs of ints. -/
namespace VS
open PySem L2
/-- a list of pairs of ints -/
def prsD : List D → Option (List (Int × Int))
  | [] => some []
  | .tup [.int x, .int y] :: ds => match prsD ds with
    | some ps => some ((x, y) :: ps)
    | none => none
  | _ :: _ => none
def code2 (p : Int × Int) : Int := p.1 * 64 + p.2
/-- those of the list, each once, in order -/
def setC (ps : List (Int × Int)) : List (Int × Int) := ((List.range 4096).map fun (n : Nat) => (((n / 64 : Nat) : Int), ((n % 64 : Nat) : Int))).filter fun p => decide (p ∈ ps)
def prD (p : Int × Int) : D := .tup [.int p.1, .int p.2]
def okP (ps : List (Int × Int)) : Bool := ps.all (fun p => decide (0 ≤ p.1) && decide (p.1 < 64) && (decide (0 ≤ p.2) && decide (p.2 < 64))) && (decide (ps.length < 64) || (decide (ps.length = 64) && (match ps[63]? with
  | some p => decide (p ∈ ps.take 63)
  | none => false)))
def sortSetD : D → O D
  | .lst l => match prsD l with
    | some ps => gd (okP ps) (.ok (.lst ((setC ps).map prD)))
    | none => .bad
  | _ => .bad
theorem eq_of_lt {α : Type} (f : α → Int) : ∀ {l m : List α}, l.Pairwise (fun a b => f a < f b) → m.Pairwise (fun a b => f a < f b) → (∀ x, x ∈ l ↔ x ∈ m) → l = m
  | [], [], _, _, _ => rfl
  | [], b :: m, _, _, h => absurd ((h b).mpr (by simp)) (by simp)
  | a :: l, [], _, _, h => absurd ((h a).mp (by simp)) (by simp)
  | a :: l, b :: m, h1, h2, h => by
    obtain ⟨p1, q1⟩ := List.pairwise_cons.mp h1
    obtain ⟨p2, q2⟩ := List.pairwise_cons.mp h2
    have hab : a = b := by
      rcases List.mem_cons.mp ((h a).mp (by simp)) with e | e
      · exact e
      · rcases List.mem_cons.mp ((h b).mpr (by simp)) with e' | e'
        · exact e'.symm
        · have := p1 b e'; have := p2 a e; omega
    subst hab
    rw [eq_of_lt f q1 q2 fun x => ?_]
    constructor
    · intro hx
      rcases List.mem_cons.mp ((h x).mp (by simp [hx])) with e | e
      · rw [e] at hx; have := p1 a hx; omega
      · exact e
    · intro hx
      rcases List.mem_cons.mp ((h x).mpr (by simp [hx])) with e | e
      · rw [e] at hx; have := p2 a hx; omega
      · exact e
theorem setC_lt (ps : List (Int × Int)) : (setC ps).Pairwise fun a b => code2 a < code2 b := by
  unfold setC
  refine List.Pairwise.filter _ ?_
  rw [List.pairwise_map]
  refine List.Pairwise.imp (fun {a b} h => ?_) List.pairwise_lt_range
  show (((a / 64 : Nat) : Int)) * 64 + ((a % 64 : Nat) : Int) < ((b / 64 : Nat) : Int) * 64 + ((b % 64 : Nat) : Int)
  omega
theorem mem_setC {ps : List (Int × Int)} (h : ∀ p ∈ ps, 0 ≤ p.1 ∧ p.1 < 64 ∧ 0 ≤ p.2 ∧ p.2 < 64) (p : Int × Int) : p ∈ setC ps ↔ p ∈ ps := by
  unfold setC
  rw [List.mem_filter, decide_eq_true_eq]
  refine ⟨fun z => z.2, fun z => ⟨?_, z⟩⟩
  obtain ⟨a1, a2, a3, a4⟩ := h p z
  refine List.mem_map.mpr ⟨(p.1 * 64 + p.2).toNat, by rw [List.mem_range]; omega, ?_⟩
  obtain ⟨x, y⟩ := p
  simp only at a1 a2 a3 a4 ⊢
  rw [Prod.mk.injEq]
  omega
theorem okP_spec {ps : List (Int × Int)} (h : okP ps = true) : (∀ p ∈ ps, 0 ≤ p.1 ∧ p.1 < 64 ∧ 0 ≤ p.2 ∧ p.2 < 64) ∧ ∀ i p, ps[i]? = some p → i + 1 < 64 ∨ p ∈ ps.take i := by
  unfold okP at h
  rw [Bool.and_eq_true, List.all_eq_true] at h
  refine ⟨fun p hp => ?_, fun i p hi => ?_⟩
  · have := h.1 p hp
    simp only [Bool.and_eq_true, decide_eq_true_eq] at this
    omega
  · have hil : i < ps.length := (List.getElem?_eq_some_iff.mp hi).1
    have h2 := h.2
    rw [Bool.or_eq_true, decide_eq_true_eq, Bool.and_eq_true, decide_eq_true_eq] at h2
    rcases h2 with h2 | ⟨h2, h3⟩
    · left; omega
    · by_cases hi63 : i = 63
      · subst hi63
        rw [hi] at h3
        exact .inr (of_decide_eq_true h3)
      · left; omega
theorem prs_is {c : Ct} {W : Addr → Prop} {H : Hp} : ∀ {xs : List V} {ds : List D} {ps : List (Int × Int)}, IsA c W H xs ds → prsD ds = some ps → ∃ ks : List (Addr × List Int), xs = ks.map (fun p => V.ref p.1) ∧ ks.map (·.2) = ps.map (fun p => [p.1, p.2]) ∧ ∀ p ∈ ks, H p.1 = some (.tup (p.2.map V.int))
  | _, [], _, .nil, h => by cases h; exact ⟨[], rfl, rfl, by simp⟩
  | _, d :: ds, ps, .cons (v := v) h t, e => by
    match d, e with
    | .tup [.int x, .int y], e =>
      unfold prsD at e
      cases e2 : prsD ds with
      | none => rw [e2] at e; cases e
      | some qs =>
        rw [e2] at e
        cases e
        obtain ⟨ks, h1, h2, h3⟩ := prs_is t e2
        obtain ⟨a, ys, rfl, g1, g2⟩ := is_tup h
        cases g2 with
        | cons i1 t2 =>
          cases t2 with
          | cons i2 t3 =>
            cases t3
            rw [is_int i1, is_int i2] at g1
            refine ⟨(a, [x, y]) :: ks, by rw [h1]; rfl, by rw [List.map_cons, h2]; rfl, fun p hp => ?_⟩
            rcases List.mem_cons.mp hp with e | e
            · rw [e]; exact g1
            · exact h3 p e
section
variable {X : Cx} {c : Ct} {M : Nat → Mo} {We : WX} {k : Nat} {e : Expr} {f : EF} {pos p1 p2 q : Pos}
theorem vo_sortset (z : Cz X c We k) (h : VO X c M We (.l .fz) e f) (hg : Gl X "sorted") (hm : X.mg "sorted" = none) (hg2 : Gl X "set") (hm2 : X.mg "set" = none)
    (hs : starEach [e] X.env = (false, eval e X.env) :: starEach [] X.env := by rfl) (hpl : (backTo q (starEach [] X.env)).any (·.1) = false := by rfl)
    (hs2 : starEach [.Call (.Name "set" p2) [e] [] q] X.env = (false, eval (.Call (.Name "set" p2) [e] [] q) X.env) :: starEach [] X.env := by rfl) (hpl2 : (backTo pos (starEach [] X.env)).any (·.1) = false := by rfl) :
    VO X c M We (.l .fz) (.Call (.Name "sorted" p1) [.Call (.Name "set" p2) [e] [] q] [] pos) (e1 sortSetD f) := by
  obtain ⟨te, pe, s⟩ := h.ex
  refine ⟨_, pe_callB (cr_sortedT z.calm) hg hm (by decide +kernel) (pa_cons (pe_callTy (cr_setOfM z.calm (by have := z.hr.un; omega)) hg2 hm2 (by decide +kernel) (pa_cons pe pa_nil hs) (by decide) (by decide) hs hpl) pa_nil hs2) (by decide) (by decide) hs2 hpl2, fun w σ H ρ Q sl po => s w σ H ρ _ sl ((Po.bind po).imp (fun d _ qq v H1 F hs1 hn nd ho => ?_) fun _ _ q => q)⟩
  obtain ⟨a, xs, ds, Gs, rfl, rfl, ha, h3, eF⟩ := ho
  obtain ⟨h4, _⟩ := h3.ofFz
  cases hp : prsD ds with
  | none => simp only [sortSetD, hp] at qq; exact qq.elim
  | some ps =>
    simp only [sortSetD, hp] at qq
    obtain ⟨hok, qq⟩ := Po.gd qq
    obtain ⟨b1, b2⟩ := okP_spec hok
    obtain ⟨ks, g1, g2, g3⟩ := prs_is h4 hp
    have kmem : ∀ p ∈ ks, ∃ r ∈ ps, p.2 = [r.1, r.2] := fun p hp => by
      have : p.2 ∈ ks.map (·.2) := List.mem_map.mpr ⟨p, hp, rfl⟩
      rw [g2] at this
      obtain ⟨r, hr, e⟩ := List.mem_map.mp this
      exact ⟨r, hr, e.symm⟩
    refine ⟨a, ks, rfl, .inl (.of (by rw [ha, g1])), fun p hp => .of (g3 p hp), fun i p hi => ?_, fun a' L ha' hL hall => ?_⟩
    · have e2 : (ks.map (·.2))[i]? = some p.2 := by rw [List.getElem?_map, hi]; rfl
      rw [g2, List.getElem?_map] at e2
      cases hr : ps[i]? with
      | none => rw [hr] at e2; cases e2
      | some r =>
        rw [hr] at e2
        have er : [r.1, r.2] = p.2 := Option.some.inj e2
        rcases b2 i r hr with z | z
        · exact .inl z
        · right
          rw [List.map_take, g2, ← List.map_take, ← er]
          exact List.mem_map.mpr ⟨r, z, rfl⟩
    · have old : ∀ {b o}, H1 b = some o → (upd H1 a' (SetTO X.prog X.w a' L)) b = some o := fun {b o} e => by rw [upd_ne (ne_of_none e ha')]; exact e
      refine ⟨a', L, 2, 64, rfl, upd_same, fun p hp => .of (old (g3 p (hL p hp))), by decide, fun p hp => ?_, fun L' p' pm hnd hlt pw hp' => ?_⟩
      · obtain ⟨r, hr, e⟩ := kmem p (hL p hp)
        rw [e]
        refine ⟨rfl, fun m hm => ?_⟩
        have := b1 r hr
        simp only [List.mem_cons, List.not_mem_nil, or_false] at hm
        rcases hm with rfl | rfl <;> omega
      · -- the pairs in order
        have lmem : ∀ p ∈ L', ∃ r ∈ ps, p.2 = [r.1, r.2] := fun p hp => kmem p (hL p (pm.mem_iff.mp hp))
        obtain ⟨rs, hrs, hrm⟩ : ∃ rs : List (Int × Int), L'.map (·.2) = rs.map (fun p => [p.1, p.2]) ∧ ∀ r ∈ rs, r ∈ ps := by
          have : ∀ M : List (Addr × List Int), (∀ p ∈ M, ∃ r ∈ ps, p.2 = [r.1, r.2]) → ∃ rs : List (Int × Int), M.map (·.2) = rs.map (fun p => [p.1, p.2]) ∧ ∀ r ∈ rs, r ∈ ps := fun M => by
            induction M with
            | nil => exact fun _ => ⟨[], rfl, by simp⟩
            | cons x M ih =>
              intro hM
              obtain ⟨r, hr, e⟩ := hM x (by simp)
              obtain ⟨rs, h1, h2⟩ := ih fun p hp => hM p (by simp [hp])
              refine ⟨r :: rs, by rw [List.map_cons, List.map_cons, h1, e], fun y hy => ?_⟩
              rcases List.mem_cons.mp hy with rfl | hy
              · exact hr
              · exact h2 y hy
          exact this L' lmem
        have hcode : ∀ r : Int × Int, TS.code 64 [r.1, r.2] = code2 r := fun r => code_pair r.1 r.2
        have hpw : (rs.map fun p => [p.1, p.2]).Pairwise fun q r => TS.code 64 q ≤ TS.code 64 r := by
          rw [← hrs, List.pairwise_map]
          exact pw
        rw [List.pairwise_map] at hpw
        rw [hrs] at hnd
        have hnd' : rs.Nodup := List.Pairwise.of_map (fun p : Int × Int => [p.1, p.2]) (fun _ _ hne e => hne (by rw [e])) hnd
        have hlt' : rs.Pairwise fun a b => code2 a < code2 b := by
          have h5 := List.Pairwise.and_mem.mp (hpw.and hnd')
          refine h5.imp fun {x y} hxy => ?_
          obtain ⟨hx, hy, hle, hne⟩ := hxy
          rw [hcode, hcode] at hle
          have bx := b1 x (hrm x hx)
          have by' := b1 y (hrm y hy)
          have : code2 x ≠ code2 y := fun e => hne (by
            unfold code2 at e
            obtain ⟨x1, x2⟩ := x
            obtain ⟨y1, y2⟩ := y
            simp only at e bx by' ⊢
            rw [Prod.mk.injEq]
            omega)
          omega
        have hrs2 : rs = setC ps := by
          refine eq_of_lt code2 hlt' (setC_lt ps) fun x => ?_
          rw [mem_setC b1]
          refine ⟨hrm x, fun hx => ?_⟩
          -- each stands in the set
          have h6 : [x.1, x.2] ∈ ks.map (·.2) := by rw [g2]; exact List.mem_map.mpr ⟨x, hx, rfl⟩
          obtain ⟨p, hp, e⟩ := List.mem_map.mp h6
          have h7 : p.2 ∈ L.map (·.2) := hall p hp
          have h8 : p.2 ∈ L'.map (·.2) := (pm.map (·.2)).mem_iff.mpr h7
          rw [hrs, e] at h8
          obtain ⟨y, hy, e'⟩ := List.mem_map.mp h8
          have : y = x := by
            obtain ⟨y1, y2⟩ := y
            obtain ⟨x1, x2⟩ := x
            simp only [List.cons.injEq, and_true] at e'
            rw [e'.1, e'.2]
          exact this ▸ hy
        -- the new list
        have hs2 : Same H (upd H1 a' (SetTO X.prog X.w a' L)) := same_new hs1 ha'
        have himm : ∀ rs : List (Int × Int), VS.immA (rs.map prD) = true := fun rs => by
          induction rs with
          | nil => simp
          | cons r rs ih => rw [List.map_cons, immA_cons, ih]; simp [prD]
        have hisa : ∀ (M : List (Addr × List Int)) (rs : List (Int × Int)), M.map (·.2) = rs.map (fun p => [p.1, p.2]) → (∀ p ∈ M, p ∈ L') → IsA c (fun _ => False) (upd H1 a' (SetTO X.prog X.w a' L)) (M.map fun q => V.ref q.1) (rs.map prD) := fun M => by
          induction M with
          | nil =>
            intro rs e _
            cases rs with
            | nil => exact .nil
            | cons r rs => cases e
          | cons x M ih =>
            intro rs e hM
            cases rs with
            | nil => cases e
            | cons r rs =>
              simp only [List.map_cons, List.cons.injEq] at e
              refine .cons ?_ (ih rs e.2 fun p hp => hM p (by simp [hp]))
              have hx := g3 x (hL x (pm.mem_iff.mp (hM x (by simp))))
              rw [e.1] at hx
              exact .tup (old hx) (.cons (.int _) (.cons (.int _) .nil))
        have hA := hisa L' rs hrs fun p hp => hp
        obtain ⟨o1, o2, o3, o4⟩ := own_new (w := w) hs2 hp' hA (himm rs)
        rw [hrs2] at o4
        exact qq _ _ [p'] o1 o2 o3 o4
end
end VS
set_option Elab.async false
set_option linter.all false
set_option maxRecDepth 100000
set_option maxHeartbeats 2000000
/-! VE13: an except suite that raises another error; errors made of a text; what is set within a try. -/
namespace VS
open PySem L2
/-- a def that keeps a promise; its errors may hang on another one -/
structure DcX (P : Program) (w : World) (K : PySem.W.Frag) (mg : Str → Option Value) (base : Heap) (k : Nat) (x : Str) (sp : Sp) : Prop where
  ex : ∃ f fd ps, FnOk P w K mg base (L2.CX P w) k f fd ps sp ∧ Binds K fd ps [] ∧ mg x = some (.ref f) ∧ PySem.W.keepIn K (.ref f) = true
section
variable {X : Cx} {c : Ct} {M Ml M' : Nat → Mo} {We : WX} {al k k' i : Nat} {rs : Sh} {e : Expr} {f : EF} {g : SF} {pos pos' p p1 p2 p3 np : Pos}
theorem vo_callDX {x : Str} {F : List D → O D} {es : List Expr} {fs : AF} (z : Cz X c We k) (tx : L2.Takes X We) (dc : DcX X.prog X.w X.K X.mg X.base k' x (spP c rs F)) (hk : k' ≤ k) (t : VA X c M We 2 (e :: es) fs) (hg : Gl X x := by rfl) (hdb : (x == ("__debug__" : Str)) = false := by decide)
    (he : starEach (e :: es) X.env = (false, eval e X.env) :: starEach es X.env := by rfl) (hpl : (backTo pos (starEach es X.env)).any (·.1) = false := by rfl) :
    VO X c M We rs (.Call (.Name x p) (e :: es) [] pos) (eCall fs F) := by
  obtain ⟨f, fd, ps, G, hb, hm, kp⟩ := dc.ex
  obtain ⟨ta, pt, s⟩ := t.ex
  refine ⟨_, pe_callS (G.mono hk) z.hr hg hm kp hb (fun σ => L2.passAt tx σ) pt hdb he hpl, fun w σ H ρ Q sl po => s w σ H ρ _ sl ((Po.bind po).imp (fun ds _ q vs H1 hs hi => ?_) fun _ _ q => q)⟩
  refine ⟨ds, hi.up fun _ _ => trivial, q.imp (fun d _ q v H' Fp hs2 hn nd ho => q v H' Fp (hs.trans hs2) (fun a ha => hs.free (hn a ha)) nd (ho.mono (fun a x => ⟨.inr (hs.free x.1), x.2⟩) fun a o _ e => e)) fun kx _ q H' hs2 => q H' (hs.trans hs2)⟩
/-- raise A(e) -/
def sExc1 (kx : Value) (f : EF) : SF := fun ρ => (f ρ).bind fun _ => .exc kx
theorem vs_raise1 {x : Str} {C : Addr} (z : Cz X c We k) (tx : L2.Takes X We) (h : ExK X.K X.mg x C) (he : VE X c M We al e f) (hg : Gl X x := by rfl) (hdb : (x == ("__debug__" : Str)) = false := by decide)
    (hs : starEach [e] X.env = (false, eval e X.env) :: starEach [] X.env := by rfl) :
    VSt X c We rs Ml M M' (.Raise (some (.Call (.Name x p) [e] [] p3)) none pos) (sExc1 (.ref C) f) := by
  obtain ⟨te, pe, s⟩ := he.ex
  refine ⟨_, L2.ps_raise z.calm tx (SkE.pmk_own1 PySem.F.excBase_ValueError h.q h.g h.kp (raises_own h.b h.t) hg pe hs hdb), fun B σ H ρ D R po => ?_⟩
  obtain ⟨Fs, R⟩ := R
  exact s _ σ H ρ _ R.slots ((Po.exc_up R (Po.bind (r := f ρ) po)).imp (fun d _ q v H1 hs1 hi1 => q σ H1 fun p hp a o e hn => (R.same hs1).fr p hp a o e hn) fun _ _ q => q)
/-- x = e, what is raised leaves the state -/
theorem vs_setOK {x : Str} {s : Sh} (i : Nat) (h : VO X c M We s e f) (hm : M i = .o s) (hN : X.N.Nodup) (hi : X.N[i]? = some x := by rfl) (hx : Loc X.env.scope x := by first | exact .inl rfl | exact .inr rfl) (hs : swapsWith e (some (.Name x pos')) pos.line X.env = pure false := by rfl)
    (hf : X.fn x = true ∨ X.env.scope.names.lookup x = some .local := by first | exact .inl rfl | exact .inr rfl) : VSt X c We rs Ml M M (.Assign [.Name x pos'] e pos) (sK (sSet i f)) := by
  obtain ⟨te, p, s⟩ := h.ex
  refine ⟨_, ps_set (i := i) hN hi hx p hs hf, fun B σ H ρ D R po => ?_⟩
  obtain ⟨Fs, R⟩ := R
  refine s _ σ H ρ _ R.slots ?_
  unfold sK sSet at po
  cases hf : f ρ with
  | bad => rw [hf] at po; exact po.elim
  | exc k =>
    rw [hf] at po
    exact fun H' hs => po σ H' M ⟨Fs, R.same hs⟩
  | ok d =>
    rw [hf] at po
    cases hd : decide (i < ρ.length) with
    | false =>
      rw [O.bind_ok, hd] at po
      exact po.elim
    | true =>
      rw [O.bind_ok, hd, gd_true] at po
      exact fun v H' F hs hn nd ho => po _ H' (R.setO hm (of_decide_eq_true hd) hs hn nd ho)
/-- as vs_tryA, for bodies whose errors may hang on another one -/
theorem vs_tryAX {n x : Str} {c0 : Value} {body suite : List Stmt} {b₀ : Stmt} {h : Value → Option D} (z : Cz X c We k) (i : Nat) (hb : ∀ (W : WX) (pn : List (Addr × Obj)) (xe : Value → Shared → Prop), L2.Takes (X.tr pn xe) W → Cz (X.tr pn xe) c W k → VSs (X.tr pn xe) c W rs Ml M M' body g) (su : Su X c c0 i (b₀ :: suite) h) (hc : Names X x c0)
    (hN : X.N.Nodup) (hi : X.N[i]? = some n := by rfl) (hln : X.env.kindOf n = some .local := by rfl) (hst : X.stack = X.env :: X.outer := by rfl) (hfr : X.env.frame = some X.env.locals := by rfl) (hrs : rs = .fz ∨ rs = .m := by first | exact Or.inl rfl | exact Or.inr rfl) :
    VSt X c We rs Ml M M' (.Try body [.ExceptHandler (some (.Name x np)) (some n) (b₀ :: suite) pos'] [] [] pos) (sTry h i g) := by
  obtain ⟨ts, hsu, hread⟩ := su.ex
  refine ⟨_, ps_try_as (tb := tBody X fun W pn xe t => PSs (X.tr pn xe) body t) hst hfr hN hi hln hc takesNo (fun W pn xe h1 h2 => ⟨fun pins s σ H D I hw => ?_⟩) hsu, fun B σ H ρ D R po pn xe h1 h2 => ?_⟩
  · obtain ⟨t, ht, hd⟩ := hw pn xe h1 h2
    exact ht.run pins s σ H D I hd
  · obtain ⟨t, ht, hr⟩ := (hb _ pn xe h1 (z.tr (takesN h1) h2)).ex
    refine ⟨t, ht, hr B σ H ρ D R ?_⟩
    unfold sTry at po
    cases hg : g ρ with
    | bad => rw [hg] at po; exact po.elim
    | exc kx => rw [hg] at po; exact po.elim
    | ok out =>
      rw [hg] at po
      cases out with
      | ex kx ρ' =>
        dsimp only at po
        cases hk : h kx with
        | none => rw [hk] at po; exact po.elim
        | some r =>
          rw [hk] at po
          obtain ⟨hi', po⟩ := Po.gd po
          rw [Bool.and_eq_true, decide_eq_true_eq] at hi'
          obtain ⟨hm, hrd⟩ := hread kx r hk
          rintro σ' H' M2 ⟨Fs, R'⟩
          refine ⟨true, hm, fun _ a _ => hrd a _ _ _ ?_ fun v hv => ?_, fun e => by cases e⟩
          · rw [List.getElem?_set_self (by rw [R'.len]; exact hi'.2)]
          · refine po v H' ⟨M2, Fs, σ', [], R', by simp, by simp, ?_⟩
            rcases hrs with rfl | rfl
            · exact ⟨rfl, hv.up fun _ z => z.elim⟩
            · exact .inl ⟨rfl, hi'.1, hv.up fun _ z => z.elim⟩
      | nx ρ' => exact po
      | rt d ρ' => exact po
      | bk ρ' => exact po
      | ct ρ' => exact po
/-- if word(e) == lit: return None, then return s2 -/
theorem su_wordIf {L : Addr} {n y lit s2 : Str} {j j2 j3 : Nat} {wf : Addr → Option Str} {p4 p5 p7 p8 p9 p10 : Pos} (z : Cz X c We k) (dw : Dw X.prog X.w X.K X.mg X.base k' y wf) (hk : k' ≤ k) (hw : ∀ C w, wf C = some w → PySem.W.exmOne X.K (.ref C) (.ref L) = some true) (hg : Gl X y := by rfl)
    (hN : X.N[i]? = some n := by rfl) (hv : Vis X.env.scope n := by first | exact Or.inl rfl | exact Or.inr (Or.inl rfl) | exact Or.inr (Or.inr rfl)) (hd : (n == ("__debug__" : Str)) = false := by decide) (hcd : (n == ("__classdict__" : Str)) = false := by decide) (hdb : (y == ("__debug__" : Str)) = false := by decide)
    (hs : starEach [.Name n p1] X.env = (false, eval (.Name n p1) X.env) :: starEach [] X.env := by rfl) (hpl : (backTo p2 (starEach [] X.env)).any (·.1) = false := by rfl) :
    Su X c (.ref L) i [.If (.Compare (.Call (.Name y p3) [.Name n p1] [] p2) [.Eq] [.Constant (.str lit) j p4] p5) [.Return (some (.Constant .none j3 p7)) p8] [] p9, .Return (some (.Constant (.str s2) j2 p10)) pos] (hMap (fun w => if w = lit then .non else .str s2) wf) := by
  refine ⟨_, fun a oe cls d pn hz hf => pss_cons (ps_if (pt_cmpR (r := rEq) op_eq (pe_word dw hk z.hr hz hf hg (pv i hN hv hd hcd) hdb hs hpl) pe_str (nomark _)) (pss_one (ps_ret pe_non)) pss_nil) (pss_one (ps_ret pe_str)), fun kx r hr => ?_⟩
  obtain ⟨C, w, rfl, hwc, rfl⟩ := hMap_some hr
  refine ⟨hw C w hwc, fun a σ H D hσ q => ⟨.ref a, hσ, _, rfl, rfl, rfl, C, w, rfl, hwc, rfl, decide (w = lit), by simp, ?_⟩⟩
  by_cases e : w = lit
  · rw [decide_eq_true e]
    rw [if_pos e] at q
    exact iteT (q _ .non)
  · rw [decide_eq_false e]
    rw [if_neg e] at q
    exact iteF (q _ (.str s2))
theorem tryR_h [Exl] {K : PySem.W.Frag} (xw : ∀ C r, Exl.word C = some r → WordX K C r) : ∀ k, (fun k => (hMap .str Exl.word k).isSome) k = true → PySem.W.exmOne K k (.ref Exs.LandError) = some true := fun k h => by
  obtain ⟨r, hr⟩ := Option.isSome_iff_exists.mp h
  obtain ⟨C, w, rfl, hw, _⟩ := hMap_some hr
  exact (xw C w hw).k.m
/-- .. except A: raise B('m') -/
def sTryR (h : Value → Bool) (kx : Value) (g : SF) : SF := fun ρ => match g ρ with
  | .bad => .bad
  | .exc _ => .bad
  | .ok (.ex k _) => if h k = true then .exc kx else .bad
  | .ok o => .ok o
def tBodyN (X : Cx) (P : WX → List (Addr × Obj) → (Value → Shared → Prop) → TS → Prop) (W : WX) : TS := fun D σ H => ∀ (pn : List (Addr × Obj)) (xe : Value → Shared → Prop), L2N.Takes (X.tr pn xe) W → PassesOwn (model X.prog X.w) X.A X.env xe → ∃ t, P W pn xe t ∧ t D σ H
theorem vs_tryR {x nm m : Str} {j : Nat} {c0 : Value} {C : Addr} {body : List Stmt} {pr : Pos} {h : Value → Bool} (z : Cz X c We k) (tx : L2.Takes X We) (pa : ∀ hd : Option Value, PassesOwnAt (model X.prog X.w) (X.A.mark hd) X.A X.env X.xe)
    (hb : ∀ (W : WX) (pn : List (Addr × Obj)) (xe : Value → Shared → Prop), Cz (X.tr pn xe) c W k → VSs (X.tr pn xe) c W rs Ml M M' body g) (hh : ∀ k, h k = true → PySem.W.exmOne X.K k c0 = some true) (hc : Names X x c0) (hx : ExK X.K X.mg nm C)
    (hg : Gl X nm := by rfl) (hdb : (nm == ("__debug__" : Str)) = false := by decide) (hst : X.stack = X.env :: X.outer := by rfl) (hfr : X.env.frame = some X.env.locals := by rfl) :
    VSt X c We rs Ml M M' (.Try body [.ExceptHandler (some (.Name x np)) none [.Raise (some (.Call (.Name nm p) [.Constant (.str m) j p2] [] p3)) none pr] pos'] [] [] pos) (sTryR h (.ref C) g) := by
  refine ⟨_, L2H.ps_try_onlyX (tb := tBodyN X fun W pn xe t => PSs (X.tr pn xe) body t) (Wout := We) hst hfr hc pa tx (fun W pn xe h1 _ h2 => ⟨fun pins s σ H D I hw => ?_⟩)
    (fun a oe cls d pn hz hf tk hot => pss_one (L2H.ps_raiseH hot tk (L2N.pmk_own (X := L2H.suiteX X a ((a, oe) :: pn)) PySem.F.excBase_ValueError hx.q hx.g hx.kp (raises_own hx.b hx.t) hg hdb))), fun B σ H ρ D R po pn xe h1 h2 => ?_⟩
  · obtain ⟨t, ht, hd⟩ := hw pn xe h1 h2
    exact ht.run pins s σ H D I hd
  · obtain ⟨t, ht, hr⟩ := (hb _ pn xe (z.tr h1 h2)).ex
    refine ⟨t, ht, hr B σ H ρ D R ?_⟩
    unfold sTryR at po
    cases hg : g ρ with
    | bad => rw [hg] at po; exact po.elim
    | exc kx => rw [hg] at po; exact po.elim
    | ok out =>
      rw [hg] at po
      cases out with
      | ex kx ρ' =>
        dsimp only at po
        cases hk : h kx with
        | false =>
          rw [hk] at po
          exact po.elim
        | true =>
          rw [hk] at po
          rintro σ' H' M2 ⟨Fs, R'⟩
          exact ⟨true, hh kx hk, fun _ a _ => po σ' H' fun p hp a o e hn => R'.fr p hp a o e hn, fun e => by cases e⟩
      | nx ρ' => exact po
      | rt d ρ' => exact po
      | bk ρ' => exact po
      | ct ρ' => exact po
end
section
variable {P : Program} {w : World} {K : PySem.W.Frag} {mg : Str → Option Value} {base : Heap} {c : Ct}
/-- as fn_pure, for a def whose errors may hang on another one -/
theorem fn_pureX {x qual : Str} {st : Stmt} {f : Addr} {fd : FuncData} {N ps : List Str} {k : Nat} {rs : Sh} {g : SF} {M M' : Nat → Mo} (F : Fun K x qual st f fd) (S : FnScope N ps (defScope st)) (hK : K = c.K) (hM : ∀ i, i < ps.length → M i = .v 1)
    (hb : ∀ (cdv : Value) (A : Around) (outer : List Env) (s : Shared) (H : Hp) (E : XK), Cz (cxOf (L2.CX P w) P w K mg base N qual (defScope st) f cdv A outer s H E) c (fun cls d _ H => E cls d H) k →
      L2.Takes (cxOf (L2.CX P w) P w K mg base N qual (defScope st) f cdv A outer s H E) (fun cls d _ H => E cls d H) →
      (∀ hd : Option Value, PassesOwnAt (model P w) ((cxOf (L2.CX P w) P w K mg base N qual (defScope st) f cdv A outer s H E).A.mark hd) (cxOf (L2.CX P w) P w K mg base N qual (defScope st) f cdv A outer s H E).A (cxOf (L2.CX P w) P w K mg base N qual (defScope st) f cdv A outer s H E).env (cxOf (L2.CX P w) P w K mg base N qual (defScope st) f cdv A outer s H E).xe) →
      VSs (cxOf (L2.CX P w) P w K mg base N qual (defScope st) f cdv A outer s H E) c (fun cls d _ H => E cls d H) rs M M M' (defBody st) g) :
    FnOk P w K mg base (L2.CX P w) (k + 1) f fd ps (spP c rs (runF N.length ps.length rs g)) := by
  refine okG F S (fun vs H Q E h => ?_) (fun cdv A outer s H vs Q E hr h => ?_)
  · obtain ⟨ds, h1, h2⟩ := h
    obtain ⟨hl, _⟩ := Po.gd h2
    rw [Bool.and_eq_true, decide_eq_true_eq] at hl
    rw [h1.length, hl.1]
  · have tx : L2.Takes (cxOf (L2.CX P w) P w K mg base N qual (defScope st) f cdv A outer s H E) (fun cls d _ H => E cls d H) := L2.takes_of rfl rfl rfl rfl
    have z : Cz (cxOf (L2.CX P w) P w K mg base N qual (defScope st) f cdv A outer s H E) c (fun cls d _ H => E cls d H) k := ⟨hK, rfl, takesN tx, hr, passes_of rfl⟩
    obtain ⟨t, p, so⟩ := (hb cdv A outer s H E z tx (fun hd => L2H.passesAt_of rfl hd)).ex
    refine ⟨t, p, ?_⟩
    obtain ⟨ds, h1, h2⟩ := h
    obtain ⟨hl, h2⟩ := Po.gd h2
    rw [Bool.and_eq_true, decide_eq_true_eq, decide_eq_true_eq] at hl
    have h2 := Po.bind h2
    refine so ⟨H, [(H, fun _ => False)], []⟩ _ H (startD N.length ds) _ ⟨fun _ => [], ?_⟩ (h2.imp (fun out _ q => ?_) fun kx _ q σ' H' hf => q H' fun a o e => hf (H, fun _ => False) (by simp) a o e (fun z => z))
    · refine ⟨by simp, by simp, by simp, fun p hp a o e _ => ?_, by simp, by simp, fun a e => e, fun i d e => ?_, by simp, by simp [L2.start, startD, h1.length]⟩
      · have : p = (H, fun _ => False) := by simpa using hp
        rw [this] at e; exact e
      · obtain ⟨hi, v, e1, e2⟩ := isA_get h1 e
        have hv : i < vs.length := (List.getElem?_eq_some_iff.mp e1).1
        refine ⟨v, ?_, ?_⟩
        · unfold L2.start
          rw [List.getElem?_append_left (by simpa using hv), List.getElem?_map, e1]
          rfl
        · rw [hM i (by omega)]
          exact ⟨by decide, rfl, e2.up fun _ _ _ => by simp⟩
    · cases out with
      | nx ρ' =>
        intro σ' H' R
        obtain ⟨hrs, q⟩ := Po.gd q
        have hrs : rs = .fz := of_decide_eq_true hrs
        subst hrs
        obtain ⟨Fs, R⟩ := R
        exact q .non H' [] (fun a o e => R.fr (H, fun _ => False) (by simp) a o e (fun z => z)) (by simp) (by simp) ⟨rfl, .non⟩
      | rt d ρ' =>
        rintro v H' ⟨M2, Fs, σ2, Fp, R, n1, n2, n3⟩
        exact q v H' Fp (fun a o e => R.fr (H, fun _ => False) (by simp) a o e (fun z => z)) (fun a ha => (n2 a ha).1) n1 (n3.mono (fun a x => ⟨x.1, x.2.2⟩) fun a o _ e => e)
      | bk ρ' => exact q.elim
      | ct ρ' => exact q.elim
      | ex k ρ' =>
        rintro σ' H' M2 ⟨Fs, R⟩
        exact q H' fun a o e => R.fr (H, fun _ => False) (by simp) a o e (fun z => z)
end
end VS
set_option Elab.async false
set_option linter.all false
set_option maxRecDepth 100000
set_option maxHeartbeats 2000000
/-! VL: the meanings, unfolded step by step. -/
namespace VS
open PySem L2
section
variable {ρ : Rho} {i j : Nat} {f h fa fb fc : EF} {a b : AF} {g g' : SF} {t t' : TF} {d : D}
@[simp] theorem sNx_ap : sNx ρ = .ok (.nx ρ) := rfl
@[simp] theorem sSeq_ap : sSeq g g' ρ = (g ρ).bind fun out => match out with
  | .nx ρ => g' ρ
  | o => .ok o := rfl
@[simp] theorem sSet_ap : sSet i f ρ = (f ρ).bind fun d => gd (decide (i < ρ.length)) (.ok (.nx (ρ.set i (some d)))) := rfl
@[simp] theorem sDrop_ap : sDrop f ρ = (f ρ).bind fun _ => .ok (.nx ρ) := rfl
@[simp] theorem sRet_ap : sRet f ρ = (f ρ).bind fun d => .ok (.rt d ρ) := rfl
@[simp] theorem sRetN_ap : sRetN ρ = .ok (.rt .non ρ) := rfl
@[simp] theorem sRetV_ap : sRetV i ρ = (eVar i ρ).bind fun d => .ok (.rt d (ρ.set i none)) := rfl
@[simp] theorem sIf_ap : sIf t g g' ρ = (t ρ).bind fun b => if b = true then g ρ else g' ρ := rfl
@[simp] theorem sBk_ap : sBk ρ = .ok (.bk ρ) := rfl
@[simp] theorem sCt_ap : sCt ρ = .ok (.ct ρ) := rfl
@[simp] theorem sExc_ap (k : Value) : sExc k ρ = .exc k := rfl
@[simp] theorem sApp_ap : sApp i f ρ = (eVar i ρ).bind fun x => (lstD x).bind fun l => (f ρ).bind fun d => gd (decide (l.length < 100000)) (.ok (.nx (ρ.set i (some (.lst (l ++ [d])))))) := rfl
@[simp] theorem sAppV_ap : sAppV i j ρ = (eVar i ρ).bind fun x => (lstD x).bind fun l => (eVar j ρ).bind fun d => gd (decide (l.length < 100000) && decide (i ≠ j)) (.ok (.nx ((ρ.set j none).set i (some (.lst (l ++ [d])))))) := rfl
@[simp] theorem sClear_ap : sClear i ρ = (eVar i ρ).bind fun x => (lstD x).bind fun _ => .ok (.nx (ρ.set i (some (.lst [])))) := rfl
@[simp] theorem lstD_lst (l) : lstD (.lst l) = .ok l := rfl
theorem eVar_ap : eVar i ρ = match ρ[i]? with
  | some (some d) => .ok d
  | _ => .bad := rfl
@[simp] theorem eVar_nil : eVar i [] = .bad := rfl
@[simp] theorem eVar_zs : eVar 0 (some d :: ρ) = .ok d := rfl
@[simp] theorem eVar_s {x : Option D} : eVar (i + 1) (x :: ρ) = eVar i ρ := rfl
@[simp] theorem eC_ap : eC d ρ = .ok d := rfl
@[simp] theorem e1_ap {k : D → O D} : e1 k f ρ = (f ρ).bind k := rfl
@[simp] theorem e2_ap {k : D → D → O D} : e2 k f h ρ = (f ρ).bind fun x => (h ρ).bind fun y => k x y := rfl
@[simp] theorem eImm_ap : eImm f ρ = (f ρ).bind fun d => gd d.imm (.ok d) := rfl
@[simp] theorem aNil_ap : aNil ρ = .ok [] := rfl
@[simp] theorem aCons_ap : aCons f a ρ = (f ρ).bind fun x => (a ρ).bind fun xs => .ok (x :: xs) := rfl
@[simp] theorem eTup_ap : eTup a ρ = (a ρ).bind fun ds => gd (decide (ds.length ≤ 100000)) (.ok (.tup ds)) := rfl
@[simp] theorem eLst_ap : eLst a ρ = (a ρ).bind fun ds => gd (decide (ds.length ≤ 100000)) (.ok (.lst ds)) := rfl
@[simp] theorem tE_ap : tE f ρ = (f ρ).bind fun d => match d with
  | .bl b => .ok b
  | _ => .bad := rfl
@[simp] theorem tAndF_ap : tAndF t t' ρ = (t ρ).bind fun b => if b = true then t' ρ else .ok false := rfl
@[simp] theorem tOrF_ap : tOrF t t' ρ = (t ρ).bind fun b => if b = true then .ok true else t' ρ := rfl
@[simp] theorem tNotF_ap : tNotF t ρ = (t ρ).bind fun b => .ok (!b) := rfl
@[simp] theorem eB_ap : eB t ρ = (t ρ).bind fun b => .ok (.bl b) := rfl
@[simp] theorem tTr_ap : tTr ρ = .ok true := rfl
@[simp] theorem eChain_ap {p q : Int → Int → Bool} : eChain p q fa fb fc ρ = (fa ρ).bind fun x => (fb ρ).bind fun y => match x, y with
  | .int i, .int j => if p i j = true then (fc ρ).bind fun z => match z with
      | .int k => .ok (.bl (q j k))
      | _ => .bad
    else .ok (.bl false)
  | _, _ => .bad := rfl
@[simp] theorem iSeq_ap : iSeq f ρ = (f ρ).bind fun d => match d with
  | .lst l => .ok l
  | .tup l => .ok l
  | .str s => .ok (s.cps.toList.map fun ch => .str ⟨#[ch]⟩)
  | _ => .bad := rfl
@[simp] theorem iRg1_ap : iRg1 f ρ = (f ρ).bind fun d => match d with
  | .int n => gd (decide (-(2 ^ 62) ≤ n) && decide (n < 2 ^ 62)) (.ok (rngD 0 n.toNat))
  | _ => .bad := rfl
@[simp] theorem eCall_ap {fs : AF} {F : List D → O D} : eCall fs F ρ = (fs ρ).bind F := Eq.trans rfl rfl
@[simp] theorem iZp_ap : iZp f h ρ = (f ρ).bind fun x => (lstD x).bind fun xs => (h ρ).bind fun y => (lstD y).bind fun ys => .ok (pairsD xs ys) := rfl
@[simp] theorem iZpT_ap : iZpT f h ρ = (f ρ).bind fun x => (tupLD x).bind fun xs => (h ρ).bind fun y => (tupLD y).bind fun ys => .ok (pairsD xs ys) := rfl
@[simp] theorem tupLD_tup (l : List D) : tupLD (.tup l) = .ok l := rfl
@[simp] theorem iEn_ap : iEn f ρ = (f ρ).bind fun x => (lstD x).bind fun xs => .ok (pairsD (rngD 0 xs.length) xs) := rfl
@[simp] theorem sFor_ap {s : D → Rho → O Rho} : sFor a s g ρ = (a ρ).bind fun ds => sFor.go s g ds ρ := rfl
@[simp] theorem eLc_ap : eLc a i t f ρ = (a ρ).bind fun ds => gd (decide (i < ρ.length) && decide (ds.length ≤ 100000)) ((cGo i t f ds ρ).bind fun l => .ok (.lst l)) := rfl
@[simp] theorem gN_ap : gN i d ρ = gd (decide (i < ρ.length)) (.ok (ρ.set i (some d))) := rfl
@[simp] theorem gP_ap {x y : D} : gP i j (.tup [x, y]) ρ = gd (decide (i < ρ.length) && decide (j < ρ.length)) (.ok ((ρ.set i (some x)).set j (some y))) := rfl
end
section
variable {ρ : Rho} {i j : Nat} {f h fa fb fc fd : EF} {a b : AF} {g g' : SF} {t t' : TF} {d e : D} {x y : XF} {p : Rho → List D → Option D} {gl : Rho → O (List D)} {kd : Kd} {F : List D → O D} {R : List D → O Rz} {js : List (Option (Nat × Sh))} {xs : Rho → O (Xo × List D)} {ps : List D}
@[simp] theorem then_ok_v {k : D → Rho → O Xo} : Xo.then (.ok (.v d ρ)) k = k d ρ := rfl
@[simp] theorem then_ok_ex {v : Value} {k : D → Rho → O Xo} : Xo.then (.ok (.ex v ρ)) k = .ok (.ex v ρ) := rfl
@[simp] theorem xP_ap : xP f ρ = (f ρ).bind fun d => gd d.imm (.ok (.v d ρ)) := rfl
@[simp] theorem xCall_ap : xCall js a R ρ = (a ρ).bind fun ds => (R ds).bind fun r => match r with
  | .rt d ps => gd d.imm (.ok (.v d (putM ps js 0 ρ)))
  | .ex k ps => .ok (.ex k (putM ps js 0 ρ)) := rfl
@[simp] theorem xMe_ap : xMe kd j js a R ρ = (eOwn kd.sh j ρ).bind fun x => gd (kd.is x) ((a ρ).bind fun ds => (R (x :: ds)).bind fun r => match r with
  | .rt d ps => gd d.imm (.ok (.v d (putM ps (some (j, kd.sh) :: js) 0 ρ)))
  | .ex k ps => .ok (.ex k (putM ps (some (j, kd.sh) :: js) 0 ρ))) := rfl
@[simp] theorem eMe_ap : eMe kd f a F ρ = (f ρ).bind fun x => gd (kd.is x) ((a ρ).bind fun ds => F (x :: ds)) := rfl
@[simp] theorem eMk_ap : eMk a R ρ = (a ρ).bind fun ds => (R (.raw :: ds)).bind fun r => match r with
  | .rt .non (x :: _) => .ok x
  | .ex k _ => .exc k
  | _ => .bad := rfl
@[simp] theorem eOwn_ap {s : Sh} : eOwn s j ρ = (eVar j ρ).bind fun d => gd (immIn s d) (.ok d) := rfl
@[simp] theorem xaNil_ap : xaNil ρ = .ok (.v .non ρ, []) := rfl
@[simp] theorem xaCons_ap : xaCons x xs ρ = (x ρ).bind fun r => match r with
  | .v d ρ => (xs ρ).bind fun r => match r with
    | (.v e ρ, ds) => .ok (.v e ρ, d :: ds)
    | (.ex k ρ, ds) => .ok (.ex k ρ, ds)
  | .ex k ρ => .ok (.ex k ρ, []) := rfl
@[simp] theorem xCallP_ap : xCallP xs F ρ = (xs ρ).bind fun r => match r with
  | (.v _ ρ, ds) => (F ds).bind fun d => gd d.imm (.ok (.v d ρ))
  | (.ex k ρ, _) => .ok (.ex k ρ) := rfl
@[simp] theorem xB_ap : xB x ρ = Xo.then (x ρ) fun d ρ => match d with
  | .bl b => .ok (.v (.bl b) ρ)
  | _ => .bad := rfl
@[simp] theorem x2_ap {k : D → D → O D} : x2 k x y ρ = Xo.then (x ρ) fun d ρ => Xo.then (y ρ) fun e ρ => (k d e).bind fun r => gd r.imm (.ok (.v r ρ)) := rfl
@[simp] theorem xNot_ap : xNot x ρ = Xo.then (x ρ) fun d ρ => match d with
  | .bl b => .ok (.v (.bl !b) ρ)
  | _ => .bad := rfl
@[simp] theorem xOr_ap : xOr x y ρ = Xo.then (x ρ) fun d ρ => match d with
  | .bl true => .ok (.v (.bl true) ρ)
  | .bl false => y ρ
  | _ => .bad := rfl
@[simp] theorem xAnd_ap : xAnd x y ρ = Xo.then (x ρ) fun d ρ => match d with
  | .bl false => .ok (.v (.bl false) ρ)
  | .bl true => y ρ
  | _ => .bad := rfl
@[simp] theorem xT_ap : xT t ρ = (t ρ).bind fun b => .ok (.v (.bl b) ρ) := rfl
@[simp] theorem sX_ap {k : D → Rho → O Out} : sX x k ρ = (x ρ).bind fun r => match r with
  | .v d ρ => k d ρ
  | .ex k ρ => .ok (.ex k ρ) := rfl
@[simp] theorem sDropX_ap : sDropX x ρ = sX x (fun _ ρ => .ok (.nx ρ)) ρ := rfl
@[simp] theorem sSetX_ap : sSetX i x ρ = sX x (fun d ρ => gd (decide (i < ρ.length)) (.ok (.nx (ρ.set i (some d))))) ρ := rfl
@[simp] theorem sRetX_ap : sRetX x ρ = sX x (fun d ρ => .ok (.rt d ρ)) ρ := rfl
@[simp] theorem sIfX_ap : sIfX x g g' ρ = sX x (fun d ρ => match d with
  | .bl true => g ρ
  | .bl false => g' ρ
  | _ => .bad) ρ := rfl
@[simp] theorem sK_ap : sK g ρ = match g ρ with
  | .exc k => .ok (.ex k ρ)
  | r => r := rfl
@[simp] theorem sIfK_ap : sIfK t g g' ρ = match t ρ with
  | .exc k => .ok (.ex k ρ)
  | .bad => .bad
  | .ok b => if b = true then g ρ else g' ρ := rfl
@[simp] theorem gVar_ap : gVar i ρ = (eVar i ρ).bind fun d => (lstD d).bind fun l => gd (immA l) (.ok l) := rfl
@[simp] theorem gSub_ap : gSub i f ρ = (eVar i ρ).bind fun d => (lstD d).bind fun l => (f ρ).bind fun k => match k with
  | .int k => (ofO (atI l k)).bind fun r => (lstD r).bind fun r => gd (immA r) (.ok r)
  | _ => .bad := rfl
@[simp] theorem gGrid_ap : gGrid i f ρ = (eVar i ρ).bind fun d => (landO d).bind fun L => (f ρ).bind fun k => match k with
  | .int k => (ofO (atI L.g k)).bind fun r => .ok (r.map hD)
  | _ => .bad := rfl
@[simp] theorem gRow_ap : gRow i ρ = (eVar i ρ).bind fun d => (pileO d).bind fun l => gd (immA l) (.ok l) := rfl
@[simp] theorem sStore_ap : sStore i gl p f h ρ = (h ρ).bind fun d => gd d.imm ((gl ρ).bind fun l => (f ρ).bind fun k => match k with
  | .int k => (ofO (ixN l.length k)).bind fun j => (ofO (p ρ (l.set j d))).bind fun d' => .ok (.nx (ρ.set i (some d')))
  | _ => .bad) := rfl
@[simp] theorem sAppL_ap : sAppL i gl p h ρ = (gl ρ).bind fun l => (h ρ).bind fun d => gd (d.imm && decide (l.length < 100000)) ((ofO (p ρ (l ++ [d]))).bind fun d' => .ok (.nx (ρ.set i (some d')))) := rfl
@[simp] theorem xPop_ap : xPop i gl p ρ = (gl ρ).bind fun l => (ofO l[l.length - 1]?).bind fun d => (ofO (p ρ l.dropLast)).bind fun d' => .ok (.v d (ρ.set i (some d'))) := rfl
@[simp] theorem sAppO_ap : sAppO i f ρ = (eVar i ρ).bind fun x => (lstD x).bind fun l => (f ρ).bind fun d => gd (decide (l.length < 100000)) (.ok (.nx (ρ.set i (some (.lst (l ++ [d])))))) := rfl
@[simp] theorem sAppX_ap : sAppX i x ρ = sX x (fun d ρ => (eVar i ρ).bind fun y => (lstD y).bind fun l => gd (immA l && decide (l.length < 100000)) (.ok (.nx (ρ.set i (some (.lst (l ++ [d]))))))) ρ := rfl
@[simp] theorem sOpen_ap : sOpen i f h ρ = (h ρ).bind fun d => (blO d).bind fun b => (eVar i ρ).bind fun x => (landO x).bind fun L => (f ρ).bind fun k => (ofO (keyD k)).bind fun ks => gd (decide (L.o.length < 100000)) (.ok (.nx (ρ.set i (some (.land ⟨L.g, putL L.o ks b⟩))))) := rfl
@[simp] theorem sDput_ap : sDput i f h ρ = (h ρ).bind fun d => gd d.imm ((eVar i ρ).bind fun x => (dctO x).bind fun m => (f ρ).bind fun k => (ofO (keyD k)).bind fun ks => gd (decide (m.length < 100000)) (.ok (.nx (ρ.set i (some (.dct (putL m ks d))))))) := rfl
@[simp] theorem eGet2_ap : eGet2 fa fb fd ρ = (fa ρ).bind fun x => (dctO x).bind fun m => (fb ρ).bind fun k => (fd ρ).bind fun z => (ofO (keyD k)).bind fun ks => .ok ((lookD m ks).getD z) := rfl
@[simp] theorem eIn_ap {neg : Bool} : eIn neg fa fb ρ = (fa ρ).bind fun k => (fb ρ).bind fun d => inD neg k d := rfl
@[simp] theorem eDct0_ap : eDct0 ρ = .ok (.dct []) := rfl
@[simp] theorem landO_land (L : LandD) : landO (.land L) = .ok L := rfl
@[simp] theorem pileO_pile (l : List D) : pileO (.pile l) = .ok l := rfl
@[simp] theorem dctO_dct (l) : dctO (.dct l) = .ok l := rfl
@[simp] theorem blO_bl (b) : blO (.bl b) = .ok b := rfl
@[simp] theorem gridD_land (L : LandD) : gridD (.land L) = .ok (.lst (L.g.map rowD)) := rfl
@[simp] theorem rowsD_land (L : LandD) : rowsD (.land L) = .ok (.int L.g.length) := rfl
@[simp] theorem colsD_land (L : LandD) : colsD (.land L) = .ok (.int (L.g.headD []).length) := rfl
@[simp] theorem openD_land (L : LandD) : openD (.land L) = .ok (.dct (L.o.map fun p => (p.1, .bl p.2))) := rfl
@[simp] theorem rowPD_pile (l) : rowPD (.pile l) = .ok (.lst l) := rfl
@[simp] theorem kdl (L : LandD) : Kd.land.is (.land L) = true := rfl
@[simp] theorem kdp (l) : Kd.pile.is (.pile l) = true := rfl
@[simp] theorem kdsl : Kd.land.sh = .land := rfl
@[simp] theorem kdsp : Kd.pile.sh = .pile := rfl
@[simp] theorem imml (L : LandD) : immIn .land (.land L) = true := rfl
@[simp] theorem putM_nil {k : Nat} : putM ps [] k ρ = ρ := rfl
@[simp] theorem putM_none {k : Nat} : putM ps (none :: js) k ρ = putM ps js (k + 1) ρ := rfl
@[simp] theorem putM_some {k : Nat} {s : Sh} : putM ps (some (j, s) :: js) k ρ = putM ps js (k + 1) (match ps[k]? with
    | some d => ρ.set j (some d)
    | none => ρ) := by
  show putM ps js (k + 1) (match some (j, s), ps[k]? with
    | some (j, _), some d => ρ.set j (some d)
    | _, _ => ρ) = _
  cases ps[k]? <;> rfl
@[simp] theorem parD_nil' {k : Nat} : parD ρ [] k = .ok [] := rfl
@[simp] theorem parD_none' {k : Nat} {ms : List (Option Sh)} : parD ρ (none :: ms) k = (parD ρ ms (k + 1)).bind fun ds => .ok (.non :: ds) := rfl
@[simp] theorem parD_some' {k : Nat} {s : Sh} {ms : List (Option Sh)} : parD ρ (some s :: ms) k = (eVar k ρ).bind fun d => (parD ρ ms (k + 1)).bind fun ds => .ok (d :: ds) := rfl
end
/-! values -/
theorem laid_list {β : Type} (e : β → D) (k : Nat) (h : ∀ b, (toPy (e b)).canLay0 = true ∧ (toPy (e b)).depth ≤ k) : ∀ l : List β, PyData.canLayAll0 (toPyA (l.map e)) = true ∧ PyData.depthAll (toPyA (l.map e)) ≤ k
  | [] => by simp [toPyA, PyData.canLayAll0, PyData.depthAll]
  | b :: l => by
    obtain ⟨h1, h2⟩ := laid_list e k h l
    obtain ⟨h3, h4⟩ := h b
    simp only [List.map_cons, toPyA, PyData.canLayAll0, PyData.depthAll, h1, h3, Bool.and_true, true_and]
    omega
theorem eqv_list {β : Type} [DecidableEq β] (e : β → D) (h : ∀ a b, PyData.eqv (toPy (e a)) (toPy (e b)) = decide (a = b)) : ∀ l l' : List β, PyData.eqvAll (toPyA (l.map e)) (toPyA (l'.map e)) = decide (l = l')
  | [], [] => by simp [toPyA, PyData.eqvAll]
  | [], b :: l => by simp [toPyA, PyData.eqvAll]
  | b :: l, [] => by simp [toPyA, PyData.eqvAll]
  | a :: l, b :: l' => by
    simp only [List.map_cons, toPyA, PyData.eqvAll, h, eqv_list e h l l', List.cons.injEq]
    by_cases h1 : a = b <;> by_cases h2 : l = l' <;> simp [h1, h2]
theorem eq_list {β : Type} [DecidableEq β] (e : β → D) (h : ∀ b, (toPy (e b)).canLay0 = true ∧ (toPy (e b)).depth ≤ 60) (hv : ∀ a b, PyData.eqv (toPy (e a)) (toPy (e b)) = decide (a = b)) (neg : Bool) (l l' : List β) :
    eqD neg (.lst (l.map e)) (.lst (l'.map e)) = .ok (.bl (neg != decide (l = l'))) := by
  obtain ⟨h1, h2⟩ := laid_list e 60 h l
  obtain ⟨h3, h4⟩ := laid_list e 60 h l'
  have s1 : SeqAt.shaped (toPy (.lst (l.map e))) = true := by
    simp only [SeqAt.shaped, toPy_lst, PyData.canLay0, PyData.depth, h1, Bool.true_and, decide_eq_true_eq]
    omega
  have s2 : SeqAt.shaped (toPy (.lst (l'.map e))) = true := by
    simp only [SeqAt.shaped, toPy_lst, PyData.canLay0, PyData.depth, h3, Bool.true_and, decide_eq_true_eq]
    omega
  unfold eqD
  rw [s1, s2, toPy_lst, toPy_lst, PyData.eqv, eqv_list e hv]
  rfl
@[simp] theorem isTD_ap (T : String) (d : D) {n : String} (h : tyN d = some n) : isTD T d = .ok (.bl (isTy T n)) := by simp [isTD, h]
@[simp] theorem ty_non : tyN .non = some "NoneType" := rfl
@[simp] theorem ty_bl (b) : tyN (.bl b) = some "bool" := rfl
@[simp] theorem ty_int (b) : tyN (.int b) = some "int" := rfl
@[simp] theorem ty_str (b) : tyN (.str b) = some "str" := rfl
@[simp] theorem ty_lst (b) : tyN (.lst b) = some "list" := rfl
@[simp] theorem ty_tup (b) : tyN (.tup b) = some "tuple" := rfl
@[simp] theorem ty_dct (b) : tyN (.dct b) = some "dict" := rfl
@[simp] theorem len_lst (l) : lenD (.lst l) = .ok (.int l.length) := rfl
@[simp] theorem len_tup (l) : lenD (.tup l) = .ok (.int l.length) := rfl
@[simp] theorem len_dct (l) : lenD (.dct l) = .ok (.int l.length) := rfl
@[simp] theorem len_str (s) : lenD (.str s) = gd (decide (s.length ≤ 100000)) (.ok (.int s.length)) := rfl
theorem atI_ofNat {α : Type} (l : List α) (n : Nat) : atI l (n : Int) = l[n]? := by
  unfold atI ixN
  rw [if_pos (by omega)]
  by_cases h : n < l.length
  · rw [if_pos (by omega)]; simp
  · rw [if_neg (by omega), List.getElem?_eq_none (by omega)]; rfl
theorem atI_nn {α : Type} (l : List α) {i : Int} (h : 0 ≤ i) : atI l i = l[i.toNat]? := by
  obtain ⟨n, rfl⟩ := Int.eq_ofNat_of_zero_le h
  rw [atI_ofNat]; rfl
theorem ix_lst_nn (l : List D) {i : Int} (h : 0 ≤ i) : ixD (.lst l) (.int i) = ofO l[i.toNat]? := by
  show ofO (atI l i) = _
  rw [atI_nn l h]
@[simp] theorem ix_lst_nat (l : List D) (n : Nat) : ixD (.lst l) (.int (n : Int)) = ofO l[n]? := by
  show ofO (atI l (n : Int)) = _
  rw [atI_ofNat]
@[simp] theorem ix_tup0 (x : D) (l : List D) : ixD (.tup (x :: l)) (.int 0) = .ok x := by
  show ofO (atI (x :: l) ((0 : Nat) : Int)) = _
  rw [atI_ofNat]; rfl
@[simp] theorem ix_tup1 (x y : D) (l : List D) : ixD (.tup (x :: y :: l)) (.int 1) = .ok y := by
  show ofO (atI (x :: y :: l) ((1 : Nat) : Int)) = _
  rw [atI_ofNat]; rfl
@[simp] theorem ix_tup2 (x y z : D) (l : List D) : ixD (.tup (x :: y :: z :: l)) (.int 2) = .ok z := by
  show ofO (atI (x :: y :: z :: l) ((2 : Nat) : Int)) = _
  rw [atI_ofNat]; rfl
@[simp] theorem ix_lst0 (x : D) (l : List D) : ixD (.lst (x :: l)) (.int 0) = .ok x := by
  show ofO (atI (x :: l) ((0 : Nat) : Int)) = _
  rw [atI_ofNat]; rfl
@[simp] theorem isN_non (neg : Bool) : isND neg .non .non = .ok (.bl !neg) := rfl
@[simp] theorem isN_bl (neg b : Bool) : isND neg (.bl b) .non = .ok (.bl neg) := rfl
@[simp] theorem isN_int (neg : Bool) (b) : isND neg (.int b) .non = .ok (.bl neg) := rfl
@[simp] theorem isN_str (neg : Bool) (b) : isND neg (.str b) .non = .ok (.bl neg) := rfl
@[simp] theorem isN_lst (neg : Bool) (b) : isND neg (.lst b) .non = .ok (.bl neg) := rfl
@[simp] theorem isN_tup (neg : Bool) (b) : isND neg (.tup b) .non = .ok (.bl neg) := rfl
@[simp] theorem isN_b (neg a b : Bool) : isND neg (.bl a) (.bl b) = .ok (.bl (neg != decide (a = b))) := rfl
@[simp] theorem int_int (i) : intD (.int i) = .ok (.int i) := rfl
@[simp] theorem int_bl (b : Bool) : intD (.bl b) = .ok (.int (if b = true then 1 else 0)) := rfl
@[simp] theorem neg_int (i) : negD (.int i) = .ok (.int (-i)) := rfl
theorem shaped_int (i : Int) : SeqAt.shaped (.int i) = true := by rfl
@[simp] theorem eq_int (neg : Bool) (i j : Int) : eqD neg (.int i) (.int j) = .ok (.bl (neg != decide (i = j))) := by
  unfold eqD
  rw [toPy_int, toPy_int, shaped_int, shaped_int]
  show O.ok (D.bl (neg != (i == j))) = _
  rw [show (i == j) = decide (i = j) from by rw [Bool.eq_iff_iff]; simp]
@[simp] theorem eq_bl (neg : Bool) (i j : Bool) : eqD neg (.bl i) (.bl j) = .ok (.bl (neg != decide (i = j))) := by
  cases neg <;> cases i <;> cases j <;> rfl
/-! steps -/
theorem seq_nx {g g' : SF} {ρ ρ1 : Rho} (h : g ρ = .ok (.nx ρ1)) : sSeq g g' ρ = g' ρ1 := by rw [sSeq_ap, h]; rfl
theorem seq_to {g g' : SF} {ρ ρ1 : Rho} {r : O Out} (h : g ρ = .ok (.nx ρ1)) (h' : g' ρ1 = r) : sSeq g g' ρ = r := by rw [seq_nx h, h']
theorem seq_rt {g g' : SF} {ρ ρ1 : Rho} {d : D} (h : g ρ = .ok (.rt d ρ1)) : sSeq g g' ρ = .ok (.rt d ρ1) := by rw [sSeq_ap, h]; rfl
theorem runF_rt {n m : Nat} {rs : Sh} {g : SF} {ds : List D} {d : D} {ρ : Rho} (hm : ds.length = m) (hn : m ≤ n) (h : g (startD n ds) = .ok (.rt d ρ)) : runF n m rs g ds = .ok d := by
  unfold runF
  rw [h, hm]
  simp [hn]
/-! loops that only go on -/
theorem for_nx {α : Type} {s : D → Rho → O Rho} {g : SF} (emb : α → Rho) (step : α → D → α) : ∀ (ds : List D) (x : α), (∀ y d, d ∈ ds → ((s d (emb y)).bind g) = .ok (.nx (emb (step y d)))) → sFor.go s g ds (emb x) = .ok (.nx (emb (ds.foldl step x)))
  | [], x, _ => rfl
  | d :: ds, x, h => by
    have h1 := h x d (by simp)
    have ih := for_nx emb step ds (step x d) fun y d' hd => h y d' (by simp [hd])
    unfold sFor.go
    rw [List.foldl_cons, ← ih]
    cases hs : s d (emb x) with
    | bad => rw [hs] at h1; cases h1
    | exc k => rw [hs] at h1; cases h1
    | ok ρ1 =>
      rw [hs] at h1
      simp only [O.bind_ok] at h1 ⊢
      rw [h1]
      rfl
theorem cGo_eq {i : Nat} {t : TF} {f : EF} {ρ : Rho} (p : D → Bool) (v : D → D) : ∀ (ds : List D), (∀ d ∈ ds, t (ρ.set i (some d)) = .ok (p d)) → (∀ d ∈ ds, p d = true → f (ρ.set i (some d)) = .ok (v d)) → cGo i t f ds ρ = .ok ((ds.filter p).map v)
  | [], _, _ => rfl
  | d :: ds, ht, hf => by
    unfold cGo
    rw [ht d (by simp), cGo_eq p v ds (fun d' h => ht d' (by simp [h])) fun d' h => hf d' (by simp [h])]
    cases hp : p d with
    | true => simp [hf d (by simp) hp, hp]
    | false => simp [hp]
/-- the last one taken, or what stood there -/
def lastD {β : Type} (e : β → D) (x0 : Option D) (pre : List β) : Option D := match pre.getLast? with
  | none => x0
  | some b => some (e b)
@[simp] theorem lastD_nil {β : Type} (e : β → D) (x0 : Option D) : lastD e x0 [] = x0 := rfl
@[simp] theorem lastD_snoc {β : Type} (e : β → D) (x0 : Option D) (pre : List β) (b : β) : lastD e x0 (pre ++ [b]) = some (e b) := by simp [lastD]
/-- a loop over l: st tells the state by what is taken -/
theorem for_pre {β : Type} {s : D → Rho → O Rho} {g : SF} (e : β → D) (st : List β → Rho) : ∀ (post pre : List β), (∀ p b q, pre ++ post = p ++ b :: q → ((s (e b) (st p)).bind g) = .ok (.nx (st (p ++ [b])))) → sFor.go s g (post.map e) (st pre) = .ok (.nx (st (pre ++ post)))
  | [], pre, _ => by simp [sFor.go]
  | b :: post, pre, h => by
    have h1 := h pre b post rfl
    have ih := for_pre e st post (pre ++ [b]) fun p b' q e' => h p b' q (by rw [← e']; simp)
    rw [List.map_cons]
    unfold sFor.go
    rw [show pre ++ b :: post = pre ++ [b] ++ post from by simp, ← ih]
    cases hs : s (e b) (st pre) with
    | bad => rw [hs] at h1; cases h1
    | exc k => rw [hs] at h1; cases h1
    | ok ρ1 =>
      rw [hs] at h1
      simp only [O.bind_ok] at h1 ⊢
      rw [h1]
      rfl
theorem for_all {β : Type} {s : D → Rho → O Rho} {g : SF} (e : β → D) (st : List β → Rho) (l : List β) (h : ∀ p b q, l = p ++ b :: q → ((s (e b) (st p)).bind g) = .ok (.nx (st (p ++ [b])))) : sFor.go s g (l.map e) (st []) = .ok (.nx (st l)) :=
  for_pre e st l [] h
/-- a loop that only goes on, by what it keeps -/
theorem for_inv {s : D → Rho → O Rho} {g : SF} {I : Rho → Prop} : ∀ {ds : List D} {ρ : Rho}, (∀ d ∈ ds, ∀ ρ, I ρ → ∃ ρ', ((s d ρ).bind g) = .ok (.nx ρ') ∧ I ρ') → I ρ → ∃ ρ', sFor.go s g ds ρ = .ok (.nx ρ') ∧ I ρ'
  | [], ρ, _, h => ⟨ρ, rfl, h⟩
  | d :: ds, ρ, hs, h => by
    obtain ⟨ρ1, h1, h2⟩ := hs d (by simp) ρ h
    obtain ⟨ρ2, h3, h4⟩ := for_inv (ds := ds) (fun d hd => hs d (List.mem_cons_of_mem _ hd)) h2
    refine ⟨ρ2, ?_, h4⟩
    unfold sFor.go
    cases hx : s d ρ with
    | bad => rw [hx] at h1; cases h1
    | exc k => rw [hx] at h1; cases h1
    | ok ρ0 =>
      rw [hx] at h1
      simp only [O.bind_ok] at h1 ⊢
      rw [h1]
      exact h3
theorem for_idx {s : D → Rho → O Rho} {g : SF} {I : Nat → Rho → Prop} : ∀ {ds : List D} {n : Nat} {ρ : Rho}, (∀ m d, ds[m]? = some d → ∀ ρ, I (n + m) ρ → ∃ ρ', ((s d ρ).bind g) = .ok (.nx ρ') ∧ I (n + m + 1) ρ') → I n ρ → ∃ ρ', sFor.go s g ds ρ = .ok (.nx ρ') ∧ I (n + ds.length) ρ'
  | [], n, ρ, _, h => ⟨ρ, rfl, h⟩
  | d :: ds, n, ρ, hs, h => by
    obtain ⟨ρ1, h1, h2⟩ := hs 0 d rfl ρ h
    obtain ⟨ρ2, h3, h4⟩ := for_idx (ds := ds) (n := n + 1) (I := I) (fun m d hd ρ hI => by
      have := hs (m + 1) d (by simpa using hd) ρ (by rw [show n + (m + 1) = n + 1 + m by omega]; exact hI)
      rw [show n + (m + 1) + 1 = n + 1 + m + 1 by omega] at this
      exact this) h2
    refine ⟨ρ2, ?_, by rw [List.length_cons, show n + (ds.length + 1) = n + 1 + ds.length by omega]; exact h4⟩
    unfold sFor.go
    cases hx : s d ρ with
    | bad => rw [hx] at h1; cases h1
    | exc k => rw [hx] at h1; cases h1
    | ok ρ0 =>
      rw [hx] at h1
      simp only [O.bind_ok] at h1 ⊢
      rw [h1]
      exact h3
theorem cGo_ex {i : Nat} {f : EF} {ρ : Rho} {P : D → Prop} : ∀ {ds : List D}, (∀ d ∈ ds, ∃ x, f (ρ.set i (some d)) = .ok x ∧ P x) → ∃ xs, cGo i tTr f ds ρ = .ok xs ∧ xs.length = ds.length ∧ ∀ x ∈ xs, P x
  | [], _ => ⟨[], rfl, rfl, by simp⟩
  | d :: ds, h => by
    obtain ⟨x, h1, h2⟩ := h d (by simp)
    obtain ⟨xs, h3, h4, h5⟩ := cGo_ex (ds := ds) fun d hd => h d (List.mem_cons_of_mem _ hd)
    refine ⟨x :: xs, ?_, by simp [h4], fun y hy => ?_⟩
    · unfold cGo
      simp [h1, h3]
    · rcases List.mem_cons.mp hy with e | e
      · rw [e]; exact h2
      · exact h5 y e
theorem sFor_eq {fi : AF} {s : D → Rho → O Rho} {g : SF} {ds : List D} {ρ : Rho} {r : O Out} (h : fi ρ = .ok ds) (h2 : sFor.go s g ds ρ = r) : sFor fi s g ρ = r := by rw [sFor_ap, h]; exact h2
theorem runM_nx {n : Nat} {ms : List (Option Sh)} {g : SF} {ds ps : List D} {ρ : Rho} (hm : ds.length = ms.length) (hn : ms.length ≤ n) (h : g (startD n ds) = .ok (.nx ρ)) (hp : parD ρ ms 0 = .ok ps) : runM n ms .fz g ds = .ok (.rt .non ps) := by
  unfold runM
  rw [h, hm]
  simp [hn, hp]
theorem runM_rt {n : Nat} {ms : List (Option Sh)} {rs : Sh} {g : SF} {ds ps : List D} {d : D} {ρ : Rho} (hm : ds.length = ms.length) (hn : ms.length ≤ n) (h : g (startD n ds) = .ok (.rt d ρ)) (hp : parD ρ ms 0 = .ok ps) : runM n ms rs g ds = .ok (.rt d ps) := by
  unfold runM
  rw [h, hm]
  simp [hn, hp]
theorem runM_ex {n : Nat} {ms : List (Option Sh)} {rs : Sh} {g : SF} {ds ps : List D} {k : Value} {ρ : Rho} (hm : ds.length = ms.length) (hn : ms.length ≤ n) (h : g (startD n ds) = .ok (.ex k ρ)) (hp : parD ρ ms 0 = .ok ps) : runM n ms rs g ds = .ok (.ex k ps) := by
  unfold runM
  rw [h, hm]
  simp [hn, hp]
theorem seq_ex {g g' : SF} {ρ ρ1 : Rho} {k : Value} (h : g ρ = .ok (.ex k ρ1)) : sSeq g g' ρ = .ok (.ex k ρ1) := by rw [sSeq_ap, h]; rfl
theorem eLc_eq {fi : AF} {i : Nat} {t : TF} {f : EF} {ρ : Rho} {ds l : List D} (h1 : fi ρ = .ok ds) (h2 : i < ρ.length) (h3 : ds.length ≤ 100000) (h4 : cGo i t f ds ρ = .ok l) : eLc fi i t f ρ = .ok (.lst l) := by
  rw [eLc_ap, h1, O.bind_ok, h4, decide_eq_true h2, decide_eq_true h3]
  rfl
theorem ret_eq {f : EF} {ρ : Rho} {d : D} (h : f ρ = .ok d) : sRet f ρ = .ok (.rt d ρ) := by rw [sRet_ap, h]; rfl
theorem set_eq {i : Nat} {f : EF} {ρ : Rho} {d : D} (h : f ρ = .ok d) (hi : i < ρ.length) : sSet i f ρ = .ok (.nx (ρ.set i (some d))) := by rw [sSet_ap, h, O.bind_ok, decide_eq_true hi]; rfl
theorem cGo_map {β : Type} {i : Nat} {t : TF} {f : EF} {ρ : Rho} (e : β → D) (p : β → Bool) (v : β → D) : ∀ (l : List β), (∀ b ∈ l, t (ρ.set i (some (e b))) = .ok (p b)) → (∀ b ∈ l, p b = true → f (ρ.set i (some (e b))) = .ok (v b)) → cGo i t f (l.map e) ρ = .ok ((l.filter p).map v)
  | [], _, _ => rfl
  | d :: ds, ht, hf => by
    rw [List.map_cons]
    unfold cGo
    rw [ht d (by simp), cGo_map e p v ds (fun d' h => ht d' (by simp [h])) fun d' h => hf d' (by simp [h])]
    cases hp : p d with
    | true => simp [hf d (by simp) hp, hp]
    | false => simp [hp]
theorem rngD_map (n : Nat) : rngD 0 n = (List.range n).map fun (i : Nat) => D.int (i : Int) := by simp [rngD]
end VS
set_option Elab.async false
set_option linter.all false
set_option maxRecDepth 100000
set_option maxHeartbeats 2000000
namespace VS
open PySem L2
variable [Exl]
def g_law_cell_at : SF :=
  (sSeq (sIf (tE (e2 ltD (eVar 1) (e1 lenD (eVar 0)))) (sRet (eImm (e2 ixD (eVar 0) (eVar 1)))) sNx)
    (sRet (eC (.int 0))))
def F_law_cell_at : List D → O D := runF 2 2 .fz g_law_cell_at

def g_law_words_1 : SF :=
  (sSeq (sSet 5 (eCall (aCons (eVar 0) (aCons (e2 addD (e2 addD (eC (.int 4)) (e2 mulD (eVar 2) (eC (.int 4)))) (eVar 4)) aNil)) F_law_cell_at))
    (sSeq (sSet 6 (eLst (aCons (eC (.str "#")) (aCons (e1 strID (e2 modD (e2 divD (eVar 5) (eC (.int 6))) (eC (.int 1000000001)))) (aCons (e2 addD (e1 strID (e2 modD (e2 divD (eVar 5) (eC (.int 6))) (eC (.int 12)))) (eC (.str "*"))) aNil)))))
    (sApp 3 (e2 ixD (e2 catD (eVar 6) (eLst (aCons (eC (.str "1000000000")) (aCons (eC (.str "0")) (aCons (eC (.str "0*")) aNil))))) (e2 modD (eVar 5) (eC (.int 6)))))))
def g_law_words_2 : SF :=
  (sSeq (sSet 3 (eLst aNil))
    (sSeq (sFor (iRg1 (e2 addD (eC (.int 1)) (e2 modD (e2 divD (eCall (aCons (eVar 0) (aCons (eC (.int 0)) aNil)) F_law_cell_at) (eC (.int 4))) (eC (.int 4))))) (gN 4) g_law_words_1)
    (sAppV 1 3)))
def g_law_words : SF :=
  (sSeq (sSet 1 (eLst aNil))
    (sSeq (sFor (iRg1 (e2 addD (eC (.int 1)) (e2 modD (eCall (aCons (eVar 0) (aCons (eC (.int 0)) aNil)) F_law_cell_at) (eC (.int 4))))) (gN 2) g_law_words_2)
    (sRetV 1)))
def F_law_words : List D → O D := runF 7 1 (.l (.l .fz)) g_law_words

def g_law_text_1 : EF :=
  (e2 ixD (eVar 1) (eC (.int 0)))
def g_law_text_2 : EF :=
  (e2 ixD (eVar 6) (eC (.int 0)))
def g_law_text_3 : EF :=
  (eLc (iRg1 (e2 addD (eC (.int 30)) (e2 modD (eVar 2) (eC (.int 2))))) 5 tTr g_law_text_2)
def g_law_text_4 : EF :=
  (e1 (joinD (.str " ")) (eVar 6))
def g_law_text : SF :=
  (sSeq (sSet 1 (eCall (aCons (eVar 0) aNil) F_law_words))
    (sSeq (sSet 2 (eCall (aCons (eVar 0) (aCons (eC (.int 1)) aNil)) F_law_cell_at))
    (sSeq (sSet 3 (eCall (aCons (eVar 0) (aCons (eC (.int 2)) aNil)) F_law_cell_at))
    (sSeq (sSet 4 (eLst (aCons (eC (.str "")) (aCons (eC (.str "*")) (aCons (eC (.str "#*")) (aCons (eC (.str "**")) (aCons (eC (.str "1**")) (aCons (eC (.str "*1")) (aCons (eC (.str "01")) (aCons (eC (.str "00")) (aCons (eC (.str "-1")) aNil)))))))))))
    (sSeq (sSet 4 (e2 catD (eVar 4) (eLst (aCons (eC (.str "+1")) (aCons (eC (.str "1000000001")) (aCons (eC (.str "00000000001")) (aCons (eC (.str "a")) (aCons (eC (.str "9999999999")) (aCons (eC (.str " ")) (aCons (eC (.str "1000000002")) aNil))))))))))
    (sSeq (sIf (tE (e2 (eqD false) (e2 modD (eVar 3) (eC (.int 4))) (eC (.int 0)))) (sStore 1 (gSub 1 (e2 modD (eVar 2) (e1 lenD (eVar 1)))) (pSub 1 (e2 modD (eVar 2) (e1 lenD (eVar 1)))) (e2 modD (e2 divD (eVar 2) (eC (.int 4))) (e1 lenD (e2 ixD (eVar 1) (eC (.int 0))))) (e2 ixD (e2 catD (eVar 4) (eLst (aCons (eC (.str "# ")) (aCons (eC (.str "##")) aNil)))) (e2 modD (e2 divD (eVar 2) (eC (.int 16))) (eC (.int 18))))) sNx)
    (sSeq (sIf (tE (e2 (eqD false) (e2 modD (eVar 3) (eC (.int 4))) (eC (.int 1)))) (sSet 1 (eLc (iRg1 (e2 addD (eC (.int 30)) (e2 modD (eVar 2) (eC (.int 2))))) 5 tTr g_law_text_1)) sNx)
    (sSeq (sIf (tAndF (tE (e2 (eqD false) (e2 modD (eVar 3) (eC (.int 4))) (eC (.int 2)))) (tE (e2 (eqD false) (e2 modD (e2 divD (eVar 3) (eC (.int 4))) (eC (.int 2))) (eC (.int 0))))) (sSet 1 (eLc (iSeq (eVar 1)) 6 tTr g_law_text_3)) sNx)
    (sSeq (sSet 7 (e1 (joinD (.str "\n")) (eLc (iSeq (eVar 1)) 6 tTr g_law_text_4)))
    (sSeq (sIf (tE (e2 (eqD false) (e2 modD (eVar 3) (eC (.int 4))) (eC (.int 3)))) (sSeq (sSet 8 (eC (.str " \n#*0123456789a-.+\t_!\"$&'(),/:;<=>?@ABCDEFGHIJKLMNOPQRSTUVWXYZ[\\]^`")))
    (sSeq (sSet 8 (e2 addD (eVar 8) (eC (.str "bcdefghijklmnopqrstuvwxyz{|}~"))))
    (sSeq (sSet 9 (e2 ixD (eVar 8) (e2 modD (e2 divD (eVar 2) (eC (.int 3))) (e1 lenD (eVar 8)))))
    (sSeq (sSet 10 (e2 modD (e2 divD (eVar 2) (eC (.int 291))) (e2 addD (e1 lenD (eVar 7)) (eC (.int 1)))))
    (sSet 7 (e2 addD (e2 addD (eSlS (eVar 7) pNo (pSo (eVar 10))) (e2 ixD (eLst (aCons (eVar 9) (aCons (eC (.str "")) (aCons (eVar 9) aNil)))) (e2 modD (eVar 2) (eC (.int 3))))) (eSlS (eVar 7) (pSo (e2 addD (eVar 10) (e2 ixD (eLst (aCons (eC (.int 0)) (aCons (eC (.int 1)) (aCons (eC (.int 1)) aNil)))) (e2 modD (eVar 2) (eC (.int 3)))))) pNo))))))) sNx)
    (sRet (eVar 7))))))))))))
def F_law_text : List D → O D := runF 11 1 .fz g_law_text

def g_law_height_of_1 : SF :=
  (sIf (tE (e2 (inS true) (eVar 1) (eC (.str "0123456789")))) (sRet (e1 negD (eC (.int 1)))) sNx)
def g_law_height_of : SF :=
  (sSeq (sIf (tE (e2 (eqD false) (eVar 0) (eC (.str "#")))) (sRet (eC .non)) sNx)
    (sSeq (sIf (tAndF (tE (e2 gtD (e1 lenD (eVar 0)) (eC (.int 0)))) (tE (e2 (eqD false) (e2 ixD (eVar 0) (e1 negD (eC (.int 1)))) (eC (.str "*"))))) (sSet 0 (eSlS (eVar 0) pNo (pSo (e1 negD (eC (.int 1)))))) sNx)
    (sSeq (sIf (tOrF (tE (e2 (eqD false) (e1 lenD (eVar 0)) (eC (.int 0)))) (tOrF (tE (e2 gtD (e1 lenD (eVar 0)) (eC (.int 10)))) (tAndF (tE (e2 gtD (e1 lenD (eVar 0)) (eC (.int 1)))) (tE (e2 (eqD false) (e2 ixD (eVar 0) (eC (.int 0))) (eC (.str "0"))))))) (sRet (e1 negD (eC (.int 1)))) sNx)
    (sSeq (sFor (iSeq (eVar 0)) (gN 1) g_law_height_of_1)
    (sSeq (sIf (tE (e2 gtD (e1 intSD (eVar 0)) (eC (.int 1000000000)))) (sRet (e1 negD (eC (.int 1)))) sNx)
    (sRet (e1 intSD (eVar 0))))))))
def F_law_height_of : List D → O D := runF 2 1 .fz g_law_height_of

def g_law_land_of_1 : EF :=
  (eCall (aCons (eVar 5) aNil) F_law_height_of)
def g_law_land_of_2 : SF :=
  (sIf (tAndF (tE (e2 gtD (e1 lenD (eVar 5)) (eC (.int 1)))) (tE (e2 (eqD false) (e2 ixD (eVar 5) (e1 negD (eC (.int 1)))) (eC (.str "*"))))) (sApp 2 (eTup (aCons (e2 subD (e1 lenD (eVar 1)) (eC (.int 1))) (aCons (eVar 6) aNil)))) sNx)
def g_law_land_of_3 : SF :=
  (sSeq (sSet 4 (e1 (fun d => splitD d (.str " ")) (eVar 3)))
    (sSeq (sAppO 1 (eLc (iSeq (eVar 4)) 5 tTr g_law_land_of_1))
    (sFor (iEn (eVar 4)) (gP 6 5) g_law_land_of_2)))
def g_law_land_of_4 : SF :=
  (sIf (tOrF (tE (e2 (inL false) (e1 negD (eC (.int 1))) (eVar 7))) (tOrF (tE (e2 (eqD true) (e1 lenD (eVar 7)) (e1 lenD (e2 ixD (eVar 1) (eC (.int 0)))))) (tOrF (tE (e2 gtD (e1 lenD (eVar 7)) (eC (.int 30)))) (tE (e2 gtD (e1 lenD (eVar 1)) (eC (.int 30))))))) (sRet (eC .non)) sNx)
def g_law_land_of : SF :=
  (sSeq (sSet 1 (eLst aNil))
    (sSeq (sSet 2 (eLst aNil))
    (sSeq (sFor (iSeq (e1 (fun d => splitD d (.str "\n")) (eVar 0))) (gN 3) g_law_land_of_3)
    (sSeq (sFor (iSeq (eVar 1)) (gN 7) g_law_land_of_4)
    (sRet (eTup (aCons (eVar 1) (aCons (eVar 2) aNil))))))))
def F_law_land_of : List D → O D := runF 8 1 .fz g_law_land_of

def g_number_of_1 : SF :=
  (sIf (tE (e2 (inS true) (eVar 1) (eC (.str "0123456789")))) (sRet (eC .non)) sNx)
def g_number_of : SF :=
  (sSeq (sIf (tOrF (tE (e2 (eqD false) (eVar 0) (eC (.str "")))) (tE (e2 gtD (e1 lenD (eVar 0)) (eC (.int 10))))) (sRet (eC .non)) sNx)
    (sSeq (sFor (iSeq (eVar 0)) (gN 1) g_number_of_1)
    (sSeq (sIf (tAndF (tE (e2 (eqD false) (e2 ixD (eVar 0) (eC (.int 0))) (eC (.str "0")))) (tE (e2 gtD (e1 lenD (eVar 0)) (eC (.int 1))))) (sRet (eC .non)) sNx)
    (sRet (e1 intSD (eVar 0))))))
def F_number_of : List D → O D := runF 2 1 .fz g_number_of

def g_is_whole : SF :=
  (sRet (eB (tAndF (tE (e1 (isTD "int") (eVar 0))) (tE (eB (tNotF (tE (e1 (isTD "bool") (eVar 0)))))))))
def F_is_whole : List D → O D := runF 1 1 .fz g_is_whole

def g_is_height : SF :=
  (sSeq (sIf (tE (e2 (isND false) (eVar 0) (eC .non))) (sRet (eC (.bl true))) sNx)
    (sRet (eB (tAndF (tE (eCall (aCons (eVar 0) aNil) F_is_whole)) (tE (eChain (fun i j => decide (i ≤ j)) (fun i j => decide (i ≤ j)) (eC (.int 0)) (eVar 0) (eC (.int 1000000000))))))))
def F_is_height : List D → O D := runF 1 1 .fz g_is_height

def g_Land_init_1 : SF :=
  (sIf (tOrF (tNotF (tE (e1 (isTD "list") (eVar 2)))) (tOrF (tNotF (tE (eChain (fun i j => decide (i ≤ j)) (fun i j => decide (i ≤ j)) (eC (.int 1)) (e1 lenD (eVar 2)) (eC (.int 30))))) (tE (e2 (eqD true) (e1 lenD (eVar 2)) (e1 lenD (e2 ixD (eVar 1) (eC (.int 0)))))))) (sK (sExc (.ref Exs.NoLand))) sNx)
def g_Land_init_2 : SF :=
  (sIf (tNotF (tE (eCall (aCons (eVar 3) aNil) F_is_height))) (sK (sExc (.ref Exs.NoHeight))) sNx)
def g_Land_init_3 : SF :=
  (sFor (iSeq (eVar 2)) (gN 3) g_Land_init_2)
def g_Land_init_4 : EF :=
  (e1 listD (eVar 2))
def g_Land_init : SF :=
  (sSeq (sIf (tOrF (tNotF (tE (e1 (isTD "list") (eVar 1)))) (tNotF (tE (eChain (fun i j => decide (i ≤ j)) (fun i j => decide (i ≤ j)) (eC (.int 1)) (e1 lenD (eVar 1)) (eC (.int 30)))))) (sK (sExc (.ref Exs.NoLand))) sNx)
    (sSeq (sFor (iSeq (eVar 1)) (gN 2) g_Land_init_1)
    (sSeq (sFor (iSeq (eVar 1)) (gN 2) g_Land_init_3)
    (sLand 0 (eLc (iSeq (eVar 1)) 2 tTr g_Land_init_4) (e1 lenD (eVar 1)) (e1 lenD (e2 ixD (eVar 1) (eC (.int 0))))))))
def F_Land_init : List D → O Rz := runM 4 [some .land, none] .fz g_Land_init

def g_lies_in : SF :=
  (sSeq (sIf (tOrF (tNotF (tE (e1 (isTD "tuple") (eVar 2)))) (tE (e2 (eqD true) (e1 lenD (eVar 2)) (eC (.int 2))))) (sRet (eC (.bl false))) sNx)
    (sSeq (sIf (tOrF (tNotF (tE (eCall (aCons (e2 ixD (eVar 2) (eC (.int 0))) aNil) F_is_whole))) (tNotF (tE (eCall (aCons (e2 ixD (eVar 2) (eC (.int 1))) aNil) F_is_whole)))) (sRet (eC (.bl false))) sNx)
    (sRet (eB (tAndF (tE (eChain (fun i j => decide (i ≤ j)) (fun i j => decide (i < j)) (eC (.int 0)) (e2 ixD (eVar 2) (eC (.int 0))) (eVar 0))) (tE (eChain (fun i j => decide (i ≤ j)) (fun i j => decide (i < j)) (eC (.int 0)) (e2 ixD (eVar 2) (eC (.int 1))) (eVar 1))))))))
def F_lies_in : List D → O D := runF 3 3 .fz g_lies_in

def g_Land_need : SF :=
  (sIf (tNotF (tE (eCall (aCons (e1 rowsD (eVar 0)) (aCons (e1 colsD (eVar 0)) (aCons (eVar 1) aNil))) F_lies_in))) (sExc (.ref Exs.NoCell)) sNx)
def F_Land_need : List D → O D := runF 2 2 .fz g_Land_need

def g_Land_opened : SF :=
  (sSeq (sK (sDrop (eMe .land (eVar 0) (aCons (eVar 1) aNil) F_Land_need)))
    (sSeq (sIf (tE (e2 (isND false) (e2 ixD (e2 ixD (e1 gridD (eVar 0)) (e2 ixD (eVar 1) (eC (.int 0)))) (e2 ixD (eVar 1) (eC (.int 1)))) (eC .non))) (sK (sExc (.ref Exs.NoDrain))) sNx)
    (sOpen 0 (eVar 1) (eC (.bl true)))))
def F_Land_opened : List D → O Rz := runM 2 [some .land, none] .fz g_Land_opened

def g_with_drains_1 : SF :=
  (sDropX (xMe .land 2 [none] (aCons (eVar 3) aNil) F_Land_opened))
def g_with_drains : SF :=
  (sSeq (sTryR (fun k => (hMap .str Exl.word k).isSome) (.ref Exs.NoLand) (sK (sSet 2 (eMk (aCons (eVar 0) aNil) F_Land_init))))
    (sSeq (sFor (iSeq (eVar 1)) (gN 3) g_with_drains_1)
    (sRetV 2)))
def F_with_drains : List D → O D := runF 4 2 .land g_with_drains

def g_read_1 : SF :=
  (sSeq (sIf (tE (e2 (eqD false) (eVar 5) (eC (.str "#")))) (sSeq (sApp 4 (eC .non))
    sCt) sNx)
    (sSeq (sIf (tE (e1 (fun d => endD d (.str "*")) (eVar 5))) (sSeq (sApp 2 (eTup (aCons (e1 lenD (eVar 1)) (aCons (e1 lenD (eVar 4)) aNil))))
    (sSet 5 (eSlS (eVar 5) pNo (pSo (e1 negD (eC (.int 1))))))) sNx)
    (sSeq (sSet 6 (eCall (aCons (eVar 5) aNil) F_number_of))
    (sSeq (sIf (tE (e2 (isND false) (eVar 6) (eC .non))) (sExc1 (.ref Exs.NoLand) (e2 addD (eC (.str "no cell: ")) (eVar 5))) sNx)
    (sApp 4 (eVar 6))))))
def g_read_2 : SF :=
  (sSeq (sSet 4 (eLst aNil))
    (sSeq (sFor (iSeq (e1 (fun d => splitD d (.str " ")) (eVar 3))) (gN 5) g_read_1)
    (sAppV 1 4)))
def g_read : SF :=
  (sSeq (sIf (tNotF (tE (e1 (isTD "str") (eVar 0)))) (sExc (.ref Exs.NoLand)) sNx)
    (sSeq (sSet 1 (eLst aNil))
    (sSeq (sSet 2 (eLst aNil))
    (sSeq (sFor (iSeq (e1 (fun d => splitD d (.str "\n")) (eVar 0))) (gN 3) g_read_2)
    (sRet (eCall (aCons (eVar 1) (aCons (eVar 2) aNil)) F_with_drains))))))
def F_read : List D → O D := runF 7 1 .land g_read


def g_all_cells_1 : SF :=
  (sApp 2 (eTup (aCons (eVar 3) (aCons (eVar 4) aNil))))
def g_all_cells_2 : SF :=
  (sFor (iRg1 (eVar 1)) (gN 4) g_all_cells_1)
def g_all_cells : SF :=
  (sSeq (sSet 2 (eLst aNil))
    (sSeq (sFor (iRg1 (eVar 0)) (gN 3) g_all_cells_2)
    (sRetV 2)))
def F_all_cells : List D → O D := runF 5 2 (.l .fz) g_all_cells

def g_Land_is_drain : SF :=
  (sSeq (sDrop (eMe .land (eVar 0) (aCons (eVar 1) aNil) F_Land_need))
    (sRet (eImm (eGet2 (e1 openD (eVar 0)) (eVar 1) (eC (.bl false))))))
def F_Land_is_drain : List D → O D := runF 2 2 .fz g_Land_is_drain

def g_Land_drains_1 : TF :=
  (tE (eMe .land (eVar 0) (aCons (eVar 1) aNil) F_Land_is_drain))
def g_Land_drains_2 : EF :=
  (eVar 1)
def g_Land_drains : SF :=
  (sRet (eLc (iSeq (eCall (aCons (e1 rowsD (eVar 0)) (aCons (e1 colsD (eVar 0)) aNil)) F_all_cells)) 1 g_Land_drains_1 g_Land_drains_2))
def F_Land_drains : List D → O D := runF 2 1 (.l .fz) g_Land_drains

def g_Land_heights_1 : EF :=
  (e1 listD (eVar 1))
def g_Land_heights : SF :=
  (sRet (eLc (iSeq (e1 gridD (eVar 0))) 1 tTr g_Land_heights_1))
def F_Land_heights : List D → O D := runF 2 1 (.l (.l .fz)) g_Land_heights

def g_law_found : SF :=
  (sSeq (sTry (hMap (fun w => if w = ("land" : Str) then .non else .str "another refusal") Exl.word) 2 (sK (sSet 1 (eCall (aCons (eVar 0) aNil) F_read))))
    (sRet (eTup (aCons (eMe .land (eVar 1) aNil F_Land_heights) (aCons (eMe .land (eVar 1) aNil F_Land_drains) aNil)))))
def F_law_found : List D → O D := runF 3 1 .fz g_law_found

def g_law_is_refused : SF :=
  (sSeq (sTry (hMap (fun w => .bl (decide (w = ("land" : Str)))) Exl.word) 1 (sK (sDrop (eCall (aCons (eVar 0) aNil) F_read))))
    (sRet (eC (.bl false))))
def F_law_is_refused : List D → O D := runF 2 1 .fz g_law_is_refused

def g_law : SF :=
  (sSeq (sSet 1 (eCall (aCons (eVar 0) aNil) F_law_text))
    (sSeq (sSet 2 (eCall (aCons (eVar 1) aNil) F_law_land_of))
    (sSeq (sSet 3 (eCall (aCons (eVar 1) aNil) F_law_found))
    (sSeq (sIf (tAndF (tE (e2 (isND false) (eVar 2) (eC .non))) (tNotF (tE (eCall (aCons (eVar 1) aNil) F_law_is_refused)))) (sRet (eC (.bl false))) sNx)
    (sSeq (sIf (tNotF (tE (eCall (aCons (e2 ixD (eLst (aCons (eC .non) (aCons (eC (.int 7)) (aCons (eC (.bl true)) (aCons (eLst (aCons (eC (.str "1")) aNil)) aNil))))) (e2 modD (eCall (aCons (eVar 0) (aCons (eC (.int 3)) aNil)) F_law_cell_at) (eC (.int 4)))) aNil) F_law_is_refused))) (sRet (eC (.bl false))) sNx)
    (sRet (e2 (eqD false) (eVar 3) (eVar 2))))))))
def F_law : List D → O D := runF 4 1 .fz g_law

end VS
set_option Elab.async false
set_option linter.all false
set_option maxRecDepth 100000
set_option maxHeartbeats 2000000
namespace Pg
open PySem L2 VS
variable [Exl]
def top (i : Nat) : Stmt := PySem.Challenge.pw_basin_k13_texts_refused.main.body.getD i (.Pass ⟨0, 0, 0, 0⟩)
abbrev s_law_cell_at : Stmt := top 24
theorem sc_law_cell_at : FnScope ["_law_script", "_law_k"] ["_law_script", "_law_k"] (defScope s_law_cell_at) := ⟨rfl, rfl, rfl, by decide +kernel, rfl, by decide +kernel, by decide +kernel⟩
theorem d_law_cell_at {P : Program} {w : World} {K : PySem.W.Frag} {mg : Str → Option Value} {base : Heap} {c : Ct} (hK : K = c.K) (bn : Bn mg) (fx : Fact K mg "_law_cell_at" s_law_cell_at ["_law_script", "_law_k"]) (lk : LandK K c.CL) :
    Dc P w K mg base 1 "_law_cell_at" (spP c .fz F_law_cell_at) := by
  obtain ⟨f, fd, F, hm, hb⟩ := fx.ex
  have nd := sc_law_cell_at.nd
  refine ⟨f, fd, _, fn_pure (M := mo [.v 1, .v 1]) (M' := mo [.v 1, .v 1]) F sc_law_cell_at hK (fun i hi => by (rcases i with _ | (_ | _)) <;> first | rfl | exact absurd hi (by simp)) (fun cdv A outer s H E z => ?_), hb, hm, F.kp⟩
  exact (vss_cons (vs_if (vt_lt (ve_var 1) (ve_len z (ve_var 0) (by rfl) bn.len)) (vss_one (vs_ret (VE.toO (ve_imm (ve_ix z (ve_var 0) (ve_var 1)))))) vss_nil)
      (vss_one (vs_ret (VE.toO ve_int))))

abbrev s_law_words : Stmt := top 30
theorem sc_law_words : FnScope ["_law_script", "_law_lines", "_law_row", "_law_words_here", "_law_column", "_law_cell", "_law_some"] ["_law_script"] (defScope s_law_words) := ⟨rfl, rfl, rfl, by decide +kernel, rfl, by decide +kernel, by decide +kernel⟩
theorem d_law_words {P : Program} {w : World} {K : PySem.W.Frag} {mg : Str → Option Value} {base : Heap} {c : Ct} (hK : K = c.K) (bn : Bn mg) (fx : Fact K mg "_law_words" s_law_words ["_law_script"]) (lk : LandK K c.CL) (d_law_cell_at : Dc P w K mg base 1 "_law_cell_at" (spP c .fz F_law_cell_at)) :
    Dc P w K mg base 2 "_law_words" (spP c (.l (.l .fz)) F_law_words) := by
  obtain ⟨f, fd, F, hm, hb⟩ := fx.ex
  have nd := sc_law_words.nd
  refine ⟨f, fd, _, fn_pure (M := mo [.v 1, .o (.l (.l .fz)), .v 0, .o (.l .fz), .v 0, .v 0, .v 0]) (M' := mo [.v 1, .o (.l (.l .fz)), .v 0, .o (.l .fz), .v 0, .v 0, .v 0]) F sc_law_words hK (fun i hi => by (rcases i with _ | _) <;> first | rfl | exact absurd hi (by simp)) (fun cdv A outer s H E z => ?_), hb, hm, F.kp⟩
  exact (vss_cons (vs_setO 1 vo_lst0 rfl nd)
      (vss_cons (vs_for z (vi_range1 (ve_add ve_int (ve_mod (VO.toE .fz (vo_callD z d_law_cell_at (by decide) (va_arg (ve_var 0) (va_arg ve_int va_nil)))) ve_int)) (by rfl) bn.range) (by decide) (vg_name (al := 0) 2 rfl (by decide) (by decide) nd) (vss_cons (vs_setO 3 vo_lst0 rfl nd)
      (vss_cons (vs_for z (vi_range1 (ve_add ve_int (ve_mod (ve_div (VO.toE .fz (vo_callD z d_law_cell_at (by decide) (va_arg (ve_var 0) (va_arg ve_int va_nil)))) ve_int) ve_int)) (by rfl) bn.range) (by decide) (vg_name (al := 0) 4 rfl (by decide) (by decide) nd) (vss_cons (vs_set 5 0 (VO.toE .fz (vo_callD z d_law_cell_at (by decide) (va_arg (ve_var 0) (va_arg (ve_add (ve_add ve_int (ve_mul (ve_var 2) ve_int)) (ve_var 4)) va_nil)))) rfl (by decide) nd)
      (vss_cons (vs_set 6 0 (VO.toE _ (vo_lst (va_cons ve_str (va_cons (ve_strI (ve_mod (ve_div (ve_var 5) ve_int) ve_int) (by rfl) bn.str) (va_cons (ve_add (ve_strI (ve_mod (ve_div (ve_var 5) ve_int) ve_int) (by rfl) bn.str) ve_str) va_nil))))) rfl (by decide) nd)
      (vss_one (vs_app 3 (ve_ix z (VO.toE _ (vo_cat z (VE.toLs (ve_var 6)) (VE.toLs (VO.toE _ (vo_lst (va_cons ve_str (va_cons ve_str (va_cons ve_str va_nil)))))))) (ve_mod (ve_var 5) ve_int)) rfl)))))
      (vss_one (vs_appV 1 3 (.l .fz) rfl rfl)))))
      (vss_one (vs_retV 1 rfl))))

abbrev s_law_text : Stmt := top 31
theorem sc_law_text : FnScope ["_law_script", "_law_lines", "_law_cell", "_law_kind", "_law_some", "_law_one", "_law_words_here", "_law_text_here", "_law_signs", "_law_sign", "_law_at"] ["_law_script"] (defScope s_law_text) := ⟨rfl, rfl, rfl, by decide +kernel, rfl, by decide +kernel, by decide +kernel⟩
theorem d_law_text {P : Program} {w : World} {K : PySem.W.Frag} {mg : Str → Option Value} {base : Heap} {c : Ct} (hK : K = c.K) (bn : Bn mg) (fx : Fact K mg "_law_text" s_law_text ["_law_script"]) (lk : LandK K c.CL) (d_law_words : Dc P w K mg base 2 "_law_words" (spP c (.l (.l .fz)) F_law_words)) (d_law_cell_at : Dc P w K mg base 1 "_law_cell_at" (spP c .fz F_law_cell_at)) :
    Dc P w K mg base 3 "_law_text" (spP c .fz F_law_text) := by
  obtain ⟨f, fd, F, hm, hb⟩ := fx.ex
  have nd := sc_law_text.nd
  refine ⟨f, fd, _, fn_pure (M := mo [.v 1, .o (.l (.l .fz)), .v 0, .v 0, .v 0, .v 0, .v 0, .v 0, .v 0, .v 0, .v 0]) (M' := mo [.v 1, .o (.l (.l .fz)), .v 0, .v 0, .v 0, .v 0, .v 0, .v 0, .v 0, .v 0, .v 0]) F sc_law_text hK (fun i hi => by (rcases i with _ | _) <;> first | rfl | exact absurd hi (by simp)) (fun cdv A outer s H E z => ?_), hb, hm, F.kp⟩
  exact (vss_cons (vs_setO 1 (vo_callD z d_law_words (by decide) (va_arg (ve_var 0) va_nil)) rfl nd)
      (vss_cons (vs_set 2 0 (VO.toE .fz (vo_callD z d_law_cell_at (by decide) (va_arg (ve_var 0) (va_arg ve_int va_nil)))) rfl (by decide) nd)
      (vss_cons (vs_set 3 0 (VO.toE .fz (vo_callD z d_law_cell_at (by decide) (va_arg (ve_var 0) (va_arg ve_int va_nil)))) rfl (by decide) nd)
      (vss_cons (vs_set 4 0 (VO.toE _ (vo_lst (va_cons ve_str (va_cons ve_str (va_cons ve_str (va_cons ve_str (va_cons ve_str (va_cons ve_str (va_cons ve_str (va_cons ve_str (va_cons ve_str va_nil))))))))))) rfl (by decide) nd)
      (vss_cons (vs_set 4 0 (VO.toE _ (vo_cat z (VE.toLs (ve_var 4)) (VE.toLs (VO.toE _ (vo_lst (va_cons ve_str (va_cons ve_str (va_cons ve_str (va_cons ve_str (va_cons ve_str (va_cons ve_str (va_cons ve_str va_nil)))))))))))) rfl (by decide) nd)
      (vss_cons (vs_if (vt_eq z (ve_mod (ve_var 3) ve_int) ve_int) (vss_one (vs_store (vl_sub 1 (Or.inl rfl) (ve_mod (ve_var 2) (ve_len z (ve_var 1) (by rfl) bn.len))) (ve_mod (ve_div (ve_var 2) ve_int) (ve_len z (ve_ix z (ve_var 1) ve_int) (by rfl) bn.len)) (ve_ix z (VO.toE _ (vo_cat z (VE.toLs (ve_var 4)) (VE.toLs (VO.toE _ (vo_lst (va_cons ve_str (va_cons ve_str va_nil))))))) (ve_mod (ve_div (ve_var 2) ve_int) ve_int)))) vss_nil)
      (vss_freeze 1 rfl
      (vss_cons (vs_if (vt_eq z (ve_mod (ve_var 3) ve_int) ve_int) (vss_one (vs_set 1 0 (VO.toE _ (vo_lc 5 z nd (vi_range1 (ve_add ve_int (ve_mod (ve_var 2) ve_int)) (by rfl) bn.range) (blkOk_by (own := [("_law_one", 5)]) (N := ["_law_script", "_law_lines", "_law_cell", "_law_kind", "_law_some", "_law_one", "_law_words_here", "_law_text_here", "_law_signs", "_law_sign", "_law_at"]) (sc := defScope s_law_text) (by decide +kernel)) (fun _ _ _ _ _ => pg_name (i := 5) nd rfl (by first | exact Or.inl rfl | exact Or.inr rfl)) (fun _ _ _ _ _ => vts_nil) (fun _ _ _ _ _ => (VE.toO (ve_ix z.blk (ve_var 1) ve_int))))) rfl (by decide) nd)) vss_nil)
      (vss_cons (vs_if (VW.vt (vw_and (vt_eq z (ve_mod (ve_var 3) ve_int) ve_int) (vw_and1 (vt_eq z (ve_mod (ve_div (ve_var 3) ve_int) ve_int) ve_int)))) (vss_one (vs_set 1 0 (VO.toE _ (vo_lc 6 z nd (vi_seq z (ve_var 1)) (blkOk_by (own := [("_law_words_here", 6)]) (N := ["_law_script", "_law_lines", "_law_cell", "_law_kind", "_law_some", "_law_one", "_law_words_here", "_law_text_here", "_law_signs", "_law_sign", "_law_at"]) (sc := defScope s_law_text) (by decide +kernel)) (fun _ _ _ _ _ => pg_name (i := 6) nd rfl (by first | exact Or.inl rfl | exact Or.inr rfl)) (fun _ _ _ _ _ => vts_nil) (fun _ _ _ _ _ => (vo_lc 5 z.blk nd (vi_range1 (ve_add ve_int (ve_mod (ve_var 2) ve_int)) (by rfl) bn.range) (blkOk_by (by kernel_rfl)) (fun _ _ _ _ _ => pg_name (i := 5) nd rfl (by first | exact Or.inl rfl | exact Or.inr rfl)) (fun _ _ _ _ _ => vts_nil) (fun _ _ _ _ _ => (VE.toO (ve_ix (z.blk).blk (ve_var 6) ve_int))))))) rfl (by decide) nd)) vss_nil)
      (vss_cons (vs_set 7 0 (ve_join z (VO.toE _ (vo_lc 6 z nd (vi_seq z (ve_var 1)) (blkOk_by (own := [("_law_words_here", 6)]) (N := ["_law_script", "_law_lines", "_law_cell", "_law_kind", "_law_some", "_law_one", "_law_words_here", "_law_text_here", "_law_signs", "_law_sign", "_law_at"]) (sc := defScope s_law_text) (by decide +kernel)) (fun _ _ _ _ _ => pg_name (i := 6) nd rfl (by first | exact Or.inl rfl | exact Or.inr rfl)) (fun _ _ _ _ _ => vts_nil) (fun _ _ _ _ _ => (VE.toO (ve_join z.blk (ve_var 6))))))) rfl (by decide) nd)
      (vss_cons (vs_if (vt_eq z (ve_mod (ve_var 3) ve_int) ve_int) (vss_cons (vs_set 8 0 ve_str rfl (by decide) nd)
      (vss_cons (vs_set 8 0 (ve_add (ve_var 8) ve_str) rfl (by decide) nd)
      (vss_cons (vs_set 9 0 (ve_ix z (ve_var 8) (ve_mod (ve_div (ve_var 2) ve_int) (ve_len z (ve_var 8) (by rfl) bn.len))) rfl (by decide) nd)
      (vss_cons (vs_set 10 0 (ve_mod (ve_div (ve_var 2) ve_int) (ve_add (ve_len z (ve_var 7) (by rfl) bn.len) ve_int)) rfl (by decide) nd)
      (vss_one (vs_set 7 0 (ve_add (ve_add (ve_slS (ve_var 7) vpo_no (vpo_so (ve_var 10))) (ve_ix z (VO.toE _ (vo_lst (va_cons (ve_var 9) (va_cons ve_str (va_cons (ve_var 9) va_nil))))) (ve_mod (ve_var 2) ve_int))) (ve_slS (ve_var 7) (vpo_so (ve_add (ve_var 10) (ve_ix z (VO.toE _ (vo_lst (va_cons ve_int (va_cons ve_int (va_cons ve_int va_nil))))) (ve_mod (ve_var 2) ve_int)))) vpo_no)) rfl (by decide) nd)))))) vss_nil)
      (vss_one (vs_ret (VE.toO (ve_var 7)))))))))))))))

abbrev s_law_height_of : Stmt := top 25
theorem sc_law_height_of : FnScope ["_law_word", "_law_sign"] ["_law_word"] (defScope s_law_height_of) := ⟨rfl, rfl, rfl, by decide +kernel, rfl, by decide +kernel, by decide +kernel⟩
theorem d_law_height_of {P : Program} {w : World} {K : PySem.W.Frag} {mg : Str → Option Value} {base : Heap} {c : Ct} (hK : K = c.K) (bn : Bn mg) (fx : Fact K mg "_law_height_of" s_law_height_of ["_law_word"]) (lk : LandK K c.CL) :
    Dc P w K mg base 1 "_law_height_of" (spP c .fz F_law_height_of) := by
  obtain ⟨f, fd, F, hm, hb⟩ := fx.ex
  have nd := sc_law_height_of.nd
  refine ⟨f, fd, _, fn_pure (M := mo [.v 1, .v 1]) (M' := mo [.v 1, .v 1]) F sc_law_height_of hK (fun i hi => by (rcases i with _ | _) <;> first | rfl | exact absurd hi (by simp)) (fun cdv A outer s H E z => ?_), hb, hm, F.kp⟩
  exact (vss_cons (vs_if (vt_eq z (ve_var 0) ve_str) (vss_one (vs_ret (VE.toO ve_non))) vss_nil)
      (vss_cons (vs_if (VW.vt (vw_and (vt_gt (ve_len z (ve_var 0) (by rfl) bn.len) ve_int) (vw_and1 (vt_eq z (ve_ix z (ve_var 0) (ve_neg ve_int)) ve_str)))) (vss_one (vs_set 0 1 (VE.up (al' := 1) (ve_slS (ve_var 0) vpo_no (vpo_so (ve_neg ve_int))) (by decide)) rfl (by decide) nd)) vss_nil)
      (vss_cons (vs_if (VW.vt (vw_or (vt_eq z (ve_len z (ve_var 0) (by rfl) bn.len) ve_int) (vw_or (vt_gt (ve_len z (ve_var 0) (by rfl) bn.len) ve_int) (vw_or1 (VW.vt (vw_and (vt_gt (ve_len z (ve_var 0) (by rfl) bn.len) ve_int) (vw_and1 (vt_eq z (ve_ix z (ve_var 0) ve_int) ve_str)))))))) (vss_one (vs_ret (VE.toO (ve_neg ve_int)))) vss_nil)
      (vss_cons (vs_for z (vi_seq z (ve_var 0)) (by decide) (vg_name (al := 1) 1 rfl (by decide) (by decide) nd) (vss_one (vs_if (vt_snotin (ve_var 1) ve_str) (vss_one (vs_ret (VE.toO (ve_neg ve_int)))) vss_nil)))
      (vss_cons (vs_if (vt_gt (ve_intS (ve_var 0) (by rfl) bn.int) ve_int) (vss_one (vs_ret (VE.toO (ve_neg ve_int)))) vss_nil)
      (vss_one (vs_ret (VE.toO (ve_intS (ve_var 0) (by rfl) bn.int)))))))))

abbrev s_law_land_of : Stmt := top 26
theorem sc_law_land_of : FnScope ["_law_text_here", "_law_rows", "_law_drains", "_law_line", "_law_words_here", "_law_word", "_law_k", "_law_row"] ["_law_text_here"] (defScope s_law_land_of) := ⟨rfl, rfl, rfl, by decide +kernel, rfl, by decide +kernel, by decide +kernel⟩
theorem d_law_land_of {P : Program} {w : World} {K : PySem.W.Frag} {mg : Str → Option Value} {base : Heap} {c : Ct} (hK : K = c.K) (bn : Bn mg) (fx : Fact K mg "_law_land_of" s_law_land_of ["_law_text_here"]) (lk : LandK K c.CL) (d_law_height_of : Dc P w K mg base 1 "_law_height_of" (spP c .fz F_law_height_of)) :
    Dc P w K mg base 2 "_law_land_of" (spP c .fz F_law_land_of) := by
  obtain ⟨f, fd, F, hm, hb⟩ := fx.ex
  have nd := sc_law_land_of.nd
  refine ⟨f, fd, _, fn_pure (M := mo [.v 1, .o (.l (.l .fz)), .o (.l .fz), .v 0, .v 0, .v 0, .v 0, .v 0]) (M' := mo [.v 1, .o (.l (.l .fz)), .o (.l .fz), .v 0, .v 0, .v 0, .v 0, .v 0]) F sc_law_land_of hK (fun i hi => by (rcases i with _ | _) <;> first | rfl | exact absurd hi (by simp)) (fun cdv A outer s H E z => ?_), hb, hm, F.kp⟩
  exact (vss_cons (vs_setO 1 vo_lst0 rfl nd)
      (vss_cons (vs_setO 2 vo_lst0 rfl nd)
      (vss_cons (vs_for z (vi_seq z (VO.toE _ (vo_split (ve_var 0)))) (by decide) (vg_name (al := 0) 3 rfl (by decide) (by decide) nd) (vss_cons (vs_set 4 0 (VO.toE _ (vo_split (ve_var 3))) rfl (by decide) nd)
      (vss_cons (vs_appO 1 (vo_lc 5 z nd (vi_seq z (ve_var 4)) (blkOk_by (own := [("_law_word", 5)]) (N := ["_law_text_here", "_law_rows", "_law_drains", "_law_line", "_law_words_here", "_law_word", "_law_k", "_law_row"]) (sc := defScope s_law_land_of) (by decide +kernel)) (fun _ _ _ _ _ => pg_name (i := 5) nd rfl (by first | exact Or.inl rfl | exact Or.inr rfl)) (fun _ _ _ _ _ => vts_nil) (fun _ _ _ _ _ => (VE.toO (VO.toE .fz (vo_callD z.blk d_law_height_of (by decide) (va_arg (ve_var 5) va_nil)))))) rfl)
      (vss_one (vs_for z (vi_enum z (ve_var 4) (by rfl) bn.enumerate) (by decide) (vg_pair (al := 0) 6 5 z rfl rfl (by decide) (by decide) (by decide) (by decide) nd) (vss_one (vs_if (VW.vt (vw_and (vt_gt (ve_len z (ve_var 5) (by rfl) bn.len) ve_int) (vw_and1 (vt_eq z (ve_ix z (ve_var 5) (ve_neg ve_int)) ve_str)))) (vss_one (vs_app 2 (ve_tup (va_cons (ve_sub (ve_len z (ve_var 1) (by rfl) bn.len) ve_int) (va_cons (ve_var 6) va_nil))) rfl)) vss_nil)))))))
      (vss_freeze 1 rfl
      (vss_freeze 2 rfl
      (vss_cons (vs_for z (vi_seq z (ve_var 1)) (by decide) (vg_name (al := 0) 7 rfl (by decide) (by decide) nd) (vss_one (vs_if (VW.vt (vw_or (vt_lin z (ve_neg ve_int) (ve_var 7)) (vw_or (vt_ne z (ve_len z (ve_var 7) (by rfl) bn.len) (ve_len z (ve_ix z (ve_var 1) ve_int) (by rfl) bn.len)) (vw_or (vt_gt (ve_len z (ve_var 7) (by rfl) bn.len) ve_int) (vw_or1 (vt_gt (ve_len z (ve_var 1) (by rfl) bn.len) ve_int)))))) (vss_one (vs_ret (VE.toO ve_non))) vss_nil)))
      (vss_one (vs_ret (VE.toO (ve_tup (va_cons (ve_var 1) (va_cons (ve_var 2) va_nil))))))))))))

abbrev s_number_of : Stmt := top 20
theorem sc_number_of : FnScope ["word", "sign"] ["word"] (defScope s_number_of) := ⟨rfl, rfl, rfl, by decide +kernel, rfl, by decide +kernel, by decide +kernel⟩
theorem d_number_of {P : Program} {w : World} {K : PySem.W.Frag} {mg : Str → Option Value} {base : Heap} {c : Ct} (hK : K = c.K) (bn : Bn mg) (fx : Fact K mg "number_of" s_number_of ["word"]) (lk : LandK K c.CL) {t_MOST_FIGURES : Tok} (c_MOST_FIGURES : mg "MOST_FIGURES" = some (.int 10 t_MOST_FIGURES)) :
    Dc P w K mg base 1 "number_of" (spP c .fz F_number_of) := by
  obtain ⟨f, fd, F, hm, hb⟩ := fx.ex
  have nd := sc_number_of.nd
  refine ⟨f, fd, _, fn_pure (M := mo [.v 1, .v 1]) (M' := mo [.v 1, .v 1]) F sc_number_of hK (fun i hi => by (rcases i with _ | _) <;> first | rfl | exact absurd hi (by simp)) (fun cdv A outer s H E z => ?_), hb, hm, F.kp⟩
  exact (vss_cons (vs_if (VW.vt (vw_or (vt_eq z (ve_var 0) ve_str) (vw_or1 (vt_gt (ve_len z (ve_var 0) (by rfl) bn.len) (ve_glob (by rfl) c_MOST_FIGURES))))) (vss_one (vs_ret (VE.toO ve_non))) vss_nil)
      (vss_cons (vs_for z (vi_seq z (ve_var 0)) (by decide) (vg_name (al := 1) 1 rfl (by decide) (by decide) nd) (vss_one (vs_if (vt_snotin (ve_var 1) ve_str) (vss_one (vs_ret (VE.toO ve_non))) vss_nil)))
      (vss_cons (vs_if (VW.vt (vw_and (vt_eq z (ve_ix z (ve_var 0) ve_int) ve_str) (vw_and1 (vt_gt (ve_len z (ve_var 0) (by rfl) bn.len) ve_int)))) (vss_one (vs_ret (VE.toO ve_non))) vss_nil)
      (vss_one (vs_ret (VE.toO (ve_intS (ve_var 0) (by rfl) bn.int)))))))

abbrev s_is_whole : Stmt := top 11
theorem sc_is_whole : FnScope ["thing"] ["thing"] (defScope s_is_whole) := ⟨rfl, rfl, rfl, by decide +kernel, rfl, by decide +kernel, by decide +kernel⟩
theorem d_is_whole {P : Program} {w : World} {K : PySem.W.Frag} {mg : Str → Option Value} {base : Heap} {c : Ct} (hK : K = c.K) (bn : Bn mg) (fx : Fact K mg "is_whole" s_is_whole ["thing"]) (lk : LandK K c.CL) :
    Dc P w K mg base 1 "is_whole" (spP c .fz F_is_whole) := by
  obtain ⟨f, fd, F, hm, hb⟩ := fx.ex
  have nd := sc_is_whole.nd
  refine ⟨f, fd, _, fn_pure (M := mo [.v 1]) (M' := mo [.v 1]) F sc_is_whole hK (fun i hi => by (rcases i with _ | _) <;> first | rfl | exact absurd hi (by simp)) (fun cdv A outer s H E z => ?_), hb, hm, F.kp⟩
  exact (vss_one (vs_ret (VE.toO (ve_and (ve_isT (T := "int") z (ve_var 0) (by rfl) bn.isinstance (by rfl) bn.int (by decide +kernel) (by decide) (by decide) (by decide +kernel)) (ve_one (ve_not (ve_isT (T := "bool") z (ve_var 0) (by rfl) bn.isinstance (by rfl) bn.bool (by decide +kernel) (by decide) (by decide) (by decide +kernel))))))))

abbrev s_is_height : Stmt := top 16
theorem sc_is_height : FnScope ["thing"] ["thing"] (defScope s_is_height) := ⟨rfl, rfl, rfl, by decide +kernel, rfl, by decide +kernel, by decide +kernel⟩
theorem d_is_height {P : Program} {w : World} {K : PySem.W.Frag} {mg : Str → Option Value} {base : Heap} {c : Ct} (hK : K = c.K) (bn : Bn mg) (fx : Fact K mg "is_height" s_is_height ["thing"]) (lk : LandK K c.CL) (d_is_whole : Dc P w K mg base 1 "is_whole" (spP c .fz F_is_whole)) {t_MOST_HEIGHT : Tok} (c_MOST_HEIGHT : mg "MOST_HEIGHT" = some (.int 1000000000 t_MOST_HEIGHT)) :
    Dc P w K mg base 2 "is_height" (spP c .fz F_is_height) := by
  obtain ⟨f, fd, F, hm, hb⟩ := fx.ex
  have nd := sc_is_height.nd
  refine ⟨f, fd, _, fn_pure (M := mo [.v 1]) (M' := mo [.v 1]) F sc_is_height hK (fun i hi => by (rcases i with _ | _) <;> first | rfl | exact absurd hi (by simp)) (fun cdv A outer s H E z => ?_), hb, hm, F.kp⟩
  exact (vss_cons (vs_if (vt_is (ve_var 0) ve_non) (vss_one (vs_ret (VE.toO ve_bl))) vss_nil)
      (vss_one (vs_ret (VE.toO (ve_and (VO.toE .fz (vo_callD z d_is_whole (by decide) (va_arg (ve_var 0) va_nil))) (ve_one (ve_leLe ve_int (ve_var 0) (ve_glob (by rfl) c_MOST_HEIGHT))))))))

abbrev s_Land_init : Stmt := inClass (top 17) 0
theorem sc_Land_init : FnScope ["self", "heights", "row", "height"] ["self", "heights"] (defScope s_Land_init) := ⟨rfl, rfl, rfl, by decide +kernel, rfl, by decide +kernel, by decide +kernel⟩
theorem d_Land_init {P : Program} {w : World} {K : PySem.W.Frag} {mg : Str → Option Value} {base : Heap} {c : Ct} (hK : K = c.K) (bn : Bn mg) (fx : FactI K mg "Land" c.CL "Land.__init__" s_Land_init ["self", "heights"]) (lk : LandK K c.CL) (d_is_height : Dc P w K mg base 2 "is_height" (spP c .fz F_is_height)) {t_MOST_SIDE : Tok} (c_MOST_SIDE : mg "MOST_SIDE" = some (.int 30 t_MOST_SIDE)) (x_NoLand : ExK K mg "NoLand" Exs.NoLand) (x_NoHeight : ExK K mg "NoHeight" Exs.NoHeight) :
    Di P w K mg base 3 "Land" c.CL (spM c [some .land, none] .fz F_Land_init) := by
  obtain ⟨f, fd, F, mk, hm, hb⟩ := fx.ex
  have nd := sc_Land_init.nd
  refine ⟨f, fd, _, fn_mut (ms := [some .land, none]) (M := mo [.p .land, .v 1, .v 1, .v 1]) (M' := mo [.p .land, .v 1, .v 1, .v 1]) F sc_Land_init hK rfl (fun i hi => by (rcases i with _ | (_ | _)) <;> first | rfl | exact absurd hi (by simp)) (fun cdv A outer s H E z => ?_), hb, mk, hm⟩
  exact (vss_cons (vs_if (VW.vt (vw_or (vt_not (vt_val (ve_isT (T := "list") z (ve_var 1) (by rfl) bn.isinstance (by rfl) bn.list (by decide +kernel) (by decide) (by decide) (by decide +kernel)))) (vw_or1 (vt_not (vt_leLe ve_int (ve_len z (ve_var 1) (by rfl) bn.len) (ve_glob (by rfl) c_MOST_SIDE)))))) (vss_one (vs_raiseK z x_NoLand (by rfl))) vss_nil)
      (vss_cons (vs_for z (vi_seq z (ve_var 1)) (by decide) (vg_name (al := 1) 2 rfl (by decide) (by decide) nd) (vss_one (vs_if (VW.vt (vw_or (vt_not (vt_val (ve_isT (T := "list") z (ve_var 2) (by rfl) bn.isinstance (by rfl) bn.list (by decide +kernel) (by decide) (by decide) (by decide +kernel)))) (vw_or (vt_not (vt_leLe ve_int (ve_len z (ve_var 2) (by rfl) bn.len) (ve_glob (by rfl) c_MOST_SIDE))) (vw_or1 (vt_ne z (ve_len z (ve_var 2) (by rfl) bn.len) (ve_len z (ve_ix z (ve_var 1) ve_int) (by rfl) bn.len)))))) (vss_one (vs_raiseK z x_NoLand (by rfl))) vss_nil)))
      (vss_cons (vs_for z (vi_seq z (ve_var 1)) (by decide) (vg_name (al := 1) 2 rfl (by decide) (by decide) nd) (vss_one (vs_for z (vi_seq z (ve_var 2)) (by decide) (vg_name (al := 1) 3 rfl (by decide) (by decide) nd) (vss_one (vs_if (vt_not (vt_val (VO.toE .fz (vo_callD z d_is_height (by decide) (va_arg (ve_var 3) va_nil))))) (vss_one (vs_raiseK z x_NoHeight (by rfl))) vss_nil)))))
      (vss_land 0 lk rfl (vo_lc 2 z nd (vi_seq z (ve_var 1)) (blkOk_by (own := [("row", 2)]) (N := ["self", "heights", "row", "height"]) (sc := defScope s_Land_init) (by decide +kernel)) (fun _ _ _ _ _ => pg_name (i := 2) nd rfl (by first | exact Or.inl rfl | exact Or.inr rfl)) (fun _ _ _ _ _ => vts_nil) (fun _ _ _ _ _ => (vo_list z.blk (ve_var 2) (by rfl) bn.list))) (ve_len z (ve_var 1) (by rfl) bn.len) (ve_len z (ve_ix z (ve_var 1) ve_int) (by rfl) bn.len)))))

abbrev s_lies_in : Stmt := top 12
theorem sc_lies_in : FnScope ["rows", "columns", "cell"] ["rows", "columns", "cell"] (defScope s_lies_in) := ⟨rfl, rfl, rfl, by decide +kernel, rfl, by decide +kernel, by decide +kernel⟩
theorem d_lies_in {P : Program} {w : World} {K : PySem.W.Frag} {mg : Str → Option Value} {base : Heap} {c : Ct} (hK : K = c.K) (bn : Bn mg) (fx : Fact K mg "lies_in" s_lies_in ["rows", "columns", "cell"]) (lk : LandK K c.CL) (d_is_whole : Dc P w K mg base 1 "is_whole" (spP c .fz F_is_whole)) :
    Dc P w K mg base 2 "lies_in" (spP c .fz F_lies_in) := by
  obtain ⟨f, fd, F, hm, hb⟩ := fx.ex
  have nd := sc_lies_in.nd
  refine ⟨f, fd, _, fn_pure (M := mo [.v 1, .v 1, .v 1]) (M' := mo [.v 1, .v 1, .v 1]) F sc_lies_in hK (fun i hi => by (rcases i with _ | (_ | (_ | _))) <;> first | rfl | exact absurd hi (by simp)) (fun cdv A outer s H E z => ?_), hb, hm, F.kp⟩
  exact (vss_cons (vs_if (VW.vt (vw_or (vt_not (vt_val (ve_isT (T := "tuple") z (ve_var 2) (by rfl) bn.isinstance (by rfl) bn.tuple (by decide +kernel) (by decide) (by decide) (by decide +kernel)))) (vw_or1 (vt_ne z (ve_len z (ve_var 2) (by rfl) bn.len) ve_int)))) (vss_one (vs_ret (VE.toO ve_bl))) vss_nil)
      (vss_cons (vs_if (VW.vt (vw_or (vt_not (vt_val (VO.toE .fz (vo_callD z d_is_whole (by decide) (va_arg (ve_ix z (ve_var 2) ve_int) va_nil))))) (vw_or1 (vt_not (vt_val (VO.toE .fz (vo_callD z d_is_whole (by decide) (va_arg (ve_ix z (ve_var 2) ve_int) va_nil)))))))) (vss_one (vs_ret (VE.toO ve_bl))) vss_nil)
      (vss_one (vs_ret (VE.toO (ve_and (ve_leLt ve_int (ve_ix z (ve_var 2) ve_int) (ve_var 0)) (ve_one (ve_leLt ve_int (ve_ix z (ve_var 2) ve_int) (ve_var 1)))))))))

abbrev s_Land_need : Stmt := inClass (top 17) 1
theorem sc_Land_need : FnScope ["self", "cell"] ["self", "cell"] (defScope s_Land_need) := ⟨rfl, rfl, rfl, by decide +kernel, rfl, by decide +kernel, by decide +kernel⟩
theorem d_Land_need {P : Program} {w : World} {K : PySem.W.Frag} {mg : Str → Option Value} {base : Heap} {c : Ct} (hK : K = c.K) (bn : Bn mg) (fx : FactM K c.CL "need" "Land.need" s_Land_need ["self", "cell"]) (lk : LandK K c.CL) (d_lies_in : Dc P w K mg base 2 "lies_in" (spP c .fz F_lies_in)) (x_NoCell : ExK K mg "NoCell" Exs.NoCell) :
    Dm P w K mg base 3 c.CL "need" (spP c .fz F_Land_need) := by
  obtain ⟨f, fd, F, mt, hb⟩ := fx.ex
  have nd := sc_Land_need.nd
  refine ⟨f, fd, _, fn_pure (M := mo [.v 1, .v 1]) (M' := mo [.v 1, .v 1]) F sc_Land_need hK (fun i hi => by (rcases i with _ | (_ | _)) <;> first | rfl | exact absurd hi (by simp)) (fun cdv A outer s H E z => ?_), hb, mt⟩
  exact (vss_one (vs_if (vt_not (vt_val (VO.toE .fz (vo_callD z d_lies_in (by decide) (va_arg (ve_rows lk (ve_var 0)) (va_arg (ve_cols lk (ve_var 0)) (va_arg (ve_var 1) va_nil))))))) (vss_one (vs_raise z x_NoCell (by rfl))) vss_nil))

abbrev s_Land_opened : Stmt := inClass (top 17) 4
theorem sc_Land_opened : FnScope ["self", "cell"] ["self", "cell"] (defScope s_Land_opened) := ⟨rfl, rfl, rfl, by decide +kernel, rfl, by decide +kernel, by decide +kernel⟩
theorem d_Land_opened {P : Program} {w : World} {K : PySem.W.Frag} {mg : Str → Option Value} {base : Heap} {c : Ct} (hK : K = c.K) (bn : Bn mg) (fx : FactM K c.CL "opened" "Land.opened" s_Land_opened ["self", "cell"]) (lk : LandK K c.CL) (d_Land_need : Dm P w K mg base 3 c.CL "need" (spP c .fz F_Land_need)) (x_NoDrain : ExK K mg "NoDrain" Exs.NoDrain) :
    Dm P w K mg base 4 c.CL "opened" (spM c [some .land, none] .fz F_Land_opened) := by
  obtain ⟨f, fd, F, mt, hb⟩ := fx.ex
  have nd := sc_Land_opened.nd
  refine ⟨f, fd, _, fn_mut (ms := [some .land, none]) (M := mo [.p .land, .v 1]) (M' := mo [.p .land, .v 1]) F sc_Land_opened hK rfl (fun i hi => by (rcases i with _ | (_ | _)) <;> first | rfl | exact absurd hi (by simp)) (fun cdv A outer s H E z => ?_), hb, mt⟩
  exact (vss_cons (vs_exprK (VO.toE .fz (vo_me (kd := .land) z lk.cl d_Land_need (by decide) (by decide) (ve_var 0) (va_arg (ve_var 1) va_nil))))
      (vss_cons (vs_if (vt_is (ve_ix z (ve_ix z (ve_grid lk (ve_var 0)) (ve_ix z (ve_var 1) ve_int)) (ve_ix z (ve_var 1) ve_int)) ve_non) (vss_one (vs_raiseK z x_NoDrain (by rfl))) vss_nil)
      (vss_one (vs_open 0 z lk (Or.inr rfl) (ve_var 1) ve_bl))))

abbrev s_with_drains : Stmt := top 22
theorem sc_with_drains : FnScope ["heights", "drains", "land", "cell"] ["heights", "drains"] (defScope s_with_drains) := ⟨rfl, rfl, rfl, by decide +kernel, rfl, by decide +kernel, by decide +kernel⟩
theorem d_with_drains {P : Program} {w : World} {K : PySem.W.Frag} {mg : Str → Option Value} {base : Heap} {c : Ct} (hK : K = c.K) (bn : Bn mg) (fx : Fact K mg "with_drains" s_with_drains ["heights", "drains"]) (lk : LandK K c.CL) (d_Land_init : Di P w K mg base 3 "Land" c.CL (spM c [some .land, none] .fz F_Land_init)) (d_Land_opened : Dm P w K mg base 4 c.CL "opened" (spM c [some .land, none] .fz F_Land_opened)) (x_LandError : ExK K mg "LandError" Exs.LandError) (x_NoLand : ExK K mg "NoLand" Exs.NoLand) (xw : ∀ C r, Exl.word C = some r → WordX K C r) :
    DcX P w K mg base 5 "with_drains" (spP c .land F_with_drains) := by
  obtain ⟨f, fd, F, hm, hb⟩ := fx.ex
  have nd := sc_with_drains.nd
  refine ⟨f, fd, _, fn_pureX (M := mo [.v 1, .v 1, .o .land, .v 1]) (M' := mo [.v 1, .v 1, .o .land, .v 1]) F sc_with_drains hK (fun i hi => by (rcases i with _ | (_ | _)) <;> first | rfl | exact absurd hi (by simp)) (fun cdv A outer s H E z tx pa => ?_), hb, hm, F.kp⟩
  exact (vss_cons (vs_tryR (h := fun k => (hMap .str Exl.word k).isSome) z tx pa (fun W pn xe z => (vss_one (vs_setOK 2 (vo_mk (kd := .land) z d_Land_init (by decide) runM_noExc (va_arg (ve_var 0) va_nil) (hlen := fun _ _ h => aLen1 h)) rfl nd))) (tryR_h xw) ⟨by rfl, by decide, .inl x_LandError.g⟩ x_NoLand)
      (vss_cons (vs_for z (vi_seq z (ve_var 1)) (by decide) (vg_name (al := 1) 3 rfl (by decide) (by decide) nd) (vss_one (vs_exprX (vx_me (kd := .land) (md := Mo.o) (js := [none]) 2 z lk.cl d_Land_opened (by decide) runM_noExc (Or.inl rfl) (by decide) rfl (vam_rd (ve_var 3) (by decide) vam_nil)))))
      (vss_one (vs_retV 2 rfl))))

abbrev s_read : Stmt := top 21
theorem sc_read : FnScope ["text", "heights", "drains", "line", "row", "word", "height"] ["text"] (defScope s_read) := ⟨rfl, rfl, rfl, by decide +kernel, rfl, by decide +kernel, by decide +kernel⟩
theorem d_read {P : Program} {w : World} {K : PySem.W.Frag} {mg : Str → Option Value} {base : Heap} {c : Ct} (hK : K = c.K) (bn : Bn mg) (fx : Fact K mg "read" s_read ["text"]) (lk : LandK K c.CL) (d_number_of : Dc P w K mg base 1 "number_of" (spP c .fz F_number_of)) (d_with_drains : DcX P w K mg base 5 "with_drains" (spP c .land F_with_drains)) (x_NoLand : ExK K mg "NoLand" Exs.NoLand) :
    DcX P w K mg base 6 "read" (spP c .land F_read) := by
  obtain ⟨f, fd, F, hm, hb⟩ := fx.ex
  have nd := sc_read.nd
  refine ⟨f, fd, _, fn_pureX (M := mo [.v 1, .o (.l (.l .fz)), .o (.l .fz), .v 0, .o (.l .fz), .v 0, .v 0]) (M' := mo [.v 1, .o (.l (.l .fz)), .o (.l .fz), .v 0, .o (.l .fz), .v 0, .v 0]) F sc_read hK (fun i hi => by (rcases i with _ | _) <;> first | rfl | exact absurd hi (by simp)) (fun cdv A outer s H E z tx pa => ?_), hb, hm, F.kp⟩
  exact (vss_cons (vs_if (vt_not (vt_val (ve_isT (T := "str") z (ve_var 0) (by rfl) bn.isinstance (by rfl) bn.str (by decide +kernel) (by decide) (by decide) (by decide +kernel)))) (vss_one (vs_raise z x_NoLand (by rfl))) vss_nil)
      (vss_cons (vs_setO 1 vo_lst0 rfl nd)
      (vss_cons (vs_setO 2 vo_lst0 rfl nd)
      (vss_cons (vs_for z (vi_seq z (VO.toE _ (vo_split (ve_var 0)))) (by decide) (vg_name (al := 0) 3 rfl (by decide) (by decide) nd) (vss_cons (vs_setO 4 vo_lst0 rfl nd)
      (vss_cons (vs_for z (vi_seq z (VO.toE _ (vo_split (ve_var 3)))) (by decide) (vg_name (al := 0) 5 rfl (by decide) (by decide) nd) (vss_cons (vs_if (vt_eq z (ve_var 5) ve_str) (vss_cons (vs_app 4 ve_non rfl)
      (vss_one vs_ct)) vss_nil)
      (vss_cons (vs_if (vt_val (ve_ends (ve_var 5))) (vss_cons (vs_app 2 (ve_tup (va_cons (ve_len z (ve_var 1) (by rfl) bn.len) (va_cons (ve_len z (ve_var 4) (by rfl) bn.len) va_nil))) rfl)
      (vss_one (vs_set 5 0 (ve_slS (ve_var 5) vpo_no (vpo_so (ve_neg ve_int))) rfl (by decide) nd))) vss_nil)
      (vss_cons (vs_set 6 0 (VO.toE .fz (vo_callD z d_number_of (by decide) (va_arg (ve_var 5) va_nil))) rfl (by decide) nd)
      (vss_cons (vs_if (vt_is (ve_var 6) ve_non) (vss_one (vs_raise1 z tx x_NoLand (ve_add ve_str (ve_var 5)))) vss_nil)
      (vss_one (vs_app 4 (ve_var 6) rfl)))))))
      (vss_one (vs_appV 1 4 (.l .fz) rfl rfl)))))
      (vss_one (vs_ret (vo_callDX z tx d_with_drains (by decide) (va_arg (ve_var 1) (va_arg (ve_var 2) va_nil)))))))))

abbrev s_law_word_of : Stmt := top 27
theorem sc_law_word_of : FnScope ["_law_error", "_law_word"] ["_law_error"] (defScope s_law_word_of) := ⟨rfl, rfl, rfl, by decide +kernel, rfl, by decide +kernel, by decide +kernel⟩
theorem d_law_word_of {P : Program} {w : World} {K : PySem.W.Frag} {mg : Str → Option Value} {base : Heap} {c : Ct} (hK : K = c.K) (bn : Bn mg) (fx : Fact K mg "_law_word_of" s_law_word_of ["_law_error"]) (lk : LandK K c.CL) (x_NoLand : ExK K mg "NoLand" Exs.NoLand) (x_NoHeight : ExK K mg "NoHeight" Exs.NoHeight) (x_NoCell : ExK K mg "NoCell" Exs.NoCell) (x_NoDrain : ExK K mg "NoDrain" Exs.NoDrain) (x_NoWay : ExK K mg "NoWay" Exs.NoWay) (x_NoRain : ExK K mg "NoRain" Exs.NoRain) (xw : ∀ C r, Exl.word C = some r → WordX K C r) :
    Dw P w K mg base 1 "_law_word_of" Exl.word := by
  obtain ⟨f, fd, F, hm, hb⟩ := fx.ex
  have nd := sc_law_word_of.nd
  refine ⟨f, fd, _, fn_tells F sc_law_word_of (fun cdv A outer s H p C r hz hf hw => ?_), hb, hm, F.kp⟩
  obtain ⟨wk, b1, b2, b3, b4, b5, b6, h1, h2, h3, h4, h5, h6, hr⟩ := xw C r hw
  exact wb_start (a := p.1) nd rfl (wb_if (m := 5) List.mem_cons_self wk.ec hz hf bn.isinstance x_NoLand h1 (by decide) (by decide) nd (wb_if (m := 12) List.mem_cons_self wk.ec hz hf bn.isinstance x_NoHeight h2 (by decide) (by decide) nd (wb_if (m := 17) List.mem_cons_self wk.ec hz hf bn.isinstance x_NoCell h3 (by decide) (by decide) nd (wb_if (m := 23) List.mem_cons_self wk.ec hz hf bn.isinstance x_NoDrain h4 (by decide) (by decide) nd (wb_if (m := 27) List.mem_cons_self wk.ec hz hf bn.isinstance x_NoWay h5 (by decide) (by decide) nd (wb_if (m := 32) List.mem_cons_self wk.ec hz hf bn.isinstance x_NoRain h6 (by decide) (by decide) nd (wb_end List.mem_cons_self wk.ec hz hf bn.isinstance bn.vErr wk.v (by decide)))))))) rfl hr

abbrev s_all_cells : Stmt := top 13
theorem sc_all_cells : FnScope ["rows", "columns", "found", "row", "column"] ["rows", "columns"] (defScope s_all_cells) := ⟨rfl, rfl, rfl, by decide +kernel, rfl, by decide +kernel, by decide +kernel⟩
theorem d_all_cells {P : Program} {w : World} {K : PySem.W.Frag} {mg : Str → Option Value} {base : Heap} {c : Ct} (hK : K = c.K) (bn : Bn mg) (fx : Fact K mg "all_cells" s_all_cells ["rows", "columns"]) (lk : LandK K c.CL) :
    Dc P w K mg base 1 "all_cells" (spP c (.l .fz) F_all_cells) := by
  obtain ⟨f, fd, F, hm, hb⟩ := fx.ex
  have nd := sc_all_cells.nd
  refine ⟨f, fd, _, fn_pure (M := mo [.v 1, .v 1, .o (.l .fz), .v 0, .v 0]) (M' := mo [.v 1, .v 1, .o (.l .fz), .v 0, .v 0]) F sc_all_cells hK (fun i hi => by (rcases i with _ | (_ | _)) <;> first | rfl | exact absurd hi (by simp)) (fun cdv A outer s H E z => ?_), hb, hm, F.kp⟩
  exact (vss_cons (vs_setO 2 vo_lst0 rfl nd)
      (vss_cons (vs_for z (vi_range1 (ve_var 0) (by rfl) bn.range) (by decide) (vg_name (al := 0) 3 rfl (by decide) (by decide) nd) (vss_one (vs_for z (vi_range1 (ve_var 1) (by rfl) bn.range) (by decide) (vg_name (al := 0) 4 rfl (by decide) (by decide) nd) (vss_one (vs_app 2 (ve_tup (va_cons (ve_var 3) (va_cons (ve_var 4) va_nil))) rfl)))))
      (vss_one (vs_retV 2 rfl))))

abbrev s_Land_is_drain : Stmt := inClass (top 17) 6
theorem sc_Land_is_drain : FnScope ["self", "cell"] ["self", "cell"] (defScope s_Land_is_drain) := ⟨rfl, rfl, rfl, by decide +kernel, rfl, by decide +kernel, by decide +kernel⟩
theorem d_Land_is_drain {P : Program} {w : World} {K : PySem.W.Frag} {mg : Str → Option Value} {base : Heap} {c : Ct} (hK : K = c.K) (bn : Bn mg) (fx : FactM K c.CL "is_drain" "Land.is_drain" s_Land_is_drain ["self", "cell"]) (lk : LandK K c.CL) (d_Land_need : Dm P w K mg base 3 c.CL "need" (spP c .fz F_Land_need)) :
    Dm P w K mg base 4 c.CL "is_drain" (spP c .fz F_Land_is_drain) := by
  obtain ⟨f, fd, F, mt, hb⟩ := fx.ex
  have nd := sc_Land_is_drain.nd
  refine ⟨f, fd, _, fn_pure (M := mo [.v 1, .v 1]) (M' := mo [.v 1, .v 1]) F sc_Land_is_drain hK (fun i hi => by (rcases i with _ | (_ | _)) <;> first | rfl | exact absurd hi (by simp)) (fun cdv A outer s H E z => ?_), hb, mt⟩
  exact (vss_cons (vs_expr (VO.toE .fz (vo_me (kd := .land) z lk.cl d_Land_need (by decide) (by decide) (ve_var 0) (va_arg (ve_var 1) va_nil))))
      (vss_one (vs_ret (VE.toO (ve_imm (ve_dget2 z (ve_open lk (ve_var 0)) (ve_var 1) ve_bl))))))

abbrev s_Land_drains : Stmt := inClass (top 17) 7
theorem sc_Land_drains : FnScope ["self", "cell"] ["self"] (defScope s_Land_drains) := ⟨rfl, rfl, rfl, by decide +kernel, rfl, by decide +kernel, by decide +kernel⟩
theorem d_Land_drains {P : Program} {w : World} {K : PySem.W.Frag} {mg : Str → Option Value} {base : Heap} {c : Ct} (hK : K = c.K) (bn : Bn mg) (fx : FactM K c.CL "drains" "Land.drains" s_Land_drains ["self"]) (lk : LandK K c.CL) (d_all_cells : Dc P w K mg base 1 "all_cells" (spP c (.l .fz) F_all_cells)) (d_Land_is_drain : Dm P w K mg base 4 c.CL "is_drain" (spP c .fz F_Land_is_drain)) :
    Dm P w K mg base 5 c.CL "drains" (spP c (.l .fz) F_Land_drains) := by
  obtain ⟨f, fd, F, mt, hb⟩ := fx.ex
  have nd := sc_Land_drains.nd
  refine ⟨f, fd, _, fn_pure (M := mo [.v 1, .v 0]) (M' := mo [.v 1, .v 0]) F sc_Land_drains hK (fun i hi => by (rcases i with _ | _) <;> first | rfl | exact absurd hi (by simp)) (fun cdv A outer s H E z => ?_), hb, mt⟩
  exact (vss_one (vs_ret (vo_lc 1 z nd (vi_seq z (VO.toE _ (vo_callD z d_all_cells (by decide) (va_arg (ve_rows lk (ve_var 0)) (va_arg (ve_cols lk (ve_var 0)) va_nil))))) (blkOk_by (own := [("cell", 1)]) (N := ["self", "cell"]) (sc := defScope s_Land_drains) (by decide +kernel)) (fun _ _ _ _ _ => pg_name (i := 1) nd rfl (by first | exact Or.inl rfl | exact Or.inr rfl)) (fun _ _ _ _ _ => (vts_one (vt_val (VO.toE .fz (vo_me (kd := .land) z.blk lk.cl d_Land_is_drain (by decide) (by decide) (ve_var 0) (va_arg (ve_var 1) va_nil)))))) (fun _ _ _ _ _ => (VE.toO (ve_var 1))))))

abbrev s_Land_heights : Stmt := inClass (top 17) 8
theorem sc_Land_heights : FnScope ["self", "row"] ["self"] (defScope s_Land_heights) := ⟨rfl, rfl, rfl, by decide +kernel, rfl, by decide +kernel, by decide +kernel⟩
theorem d_Land_heights {P : Program} {w : World} {K : PySem.W.Frag} {mg : Str → Option Value} {base : Heap} {c : Ct} (hK : K = c.K) (bn : Bn mg) (fx : FactM K c.CL "heights" "Land.heights" s_Land_heights ["self"]) (lk : LandK K c.CL) :
    Dm P w K mg base 1 c.CL "heights" (spP c (.l (.l .fz)) F_Land_heights) := by
  obtain ⟨f, fd, F, mt, hb⟩ := fx.ex
  have nd := sc_Land_heights.nd
  refine ⟨f, fd, _, fn_pure (M := mo [.v 1, .v 0]) (M' := mo [.v 1, .v 0]) F sc_Land_heights hK (fun i hi => by (rcases i with _ | _) <;> first | rfl | exact absurd hi (by simp)) (fun cdv A outer s H E z => ?_), hb, mt⟩
  exact (vss_one (vs_ret (vo_lc 1 z nd (vi_seq z (ve_grid lk (ve_var 0))) (blkOk_by (own := [("row", 1)]) (N := ["self", "row"]) (sc := defScope s_Land_heights) (by decide +kernel)) (fun _ _ _ _ _ => pg_name (i := 1) nd rfl (by first | exact Or.inl rfl | exact Or.inr rfl)) (fun _ _ _ _ _ => vts_nil) (fun _ _ _ _ _ => (vo_list z.blk (ve_var 1) (by rfl) bn.list)))))

abbrev s_law_found : Stmt := top 29
theorem sc_law_found : FnScope ["_law_text_here", "_law_land", "_law_error"] ["_law_text_here"] (defScope s_law_found) := ⟨rfl, rfl, rfl, by decide +kernel, rfl, by decide +kernel, by decide +kernel⟩
theorem d_law_found {P : Program} {w : World} {K : PySem.W.Frag} {mg : Str → Option Value} {base : Heap} {c : Ct} (hK : K = c.K) (bn : Bn mg) (fx : Fact K mg "_law_found" s_law_found ["_law_text_here"]) (lk : LandK K c.CL) (d_read : DcX P w K mg base 6 "read" (spP c .land F_read)) (d_law_word_of : Dw P w K mg base 1 "_law_word_of" Exl.word) (d_Land_drains : Dm P w K mg base 5 c.CL "drains" (spP c (.l .fz) F_Land_drains)) (d_Land_heights : Dm P w K mg base 1 c.CL "heights" (spP c (.l (.l .fz)) F_Land_heights)) (x_LandError : ExK K mg "LandError" Exs.LandError) (xw : ∀ C r, Exl.word C = some r → WordX K C r) :
    Dc P w K mg base 7 "_law_found" (spP c .fz F_law_found) := by
  obtain ⟨f, fd, F, hm, hb⟩ := fx.ex
  have nd := sc_law_found.nd
  refine ⟨f, fd, _, fn_pure (M := mo [.v 1, .o .land, .v 0]) (M' := mo [.v 1, .o .land, .v 0]) F sc_law_found hK (fun i hi => by (rcases i with _ | _) <;> first | rfl | exact absurd hi (by simp)) (fun cdv A outer s H E z => ?_), hb, hm, F.kp⟩
  exact (vss_cons (vs_tryAX z 2 (fun W pn xe tx z => (vss_one (vs_setOK 1 (vo_callDX z tx d_read (by decide) (va_arg (ve_var 0) va_nil)) rfl nd))) (su_wordIf z d_law_word_of (by decide) fun C w h => (xw C w h).k.m) ⟨by rfl, by decide, .inl x_LandError.g⟩ nd)
      (vss_one (vs_ret (VE.toO (ve_tup (va_cons (VO.toE _ (vo_me0 (kd := .land) z lk.cl d_Land_heights (by decide) (by decide) (ve_var 1))) (va_cons (VO.toE _ (vo_me0 (kd := .land) z lk.cl d_Land_drains (by decide) (by decide) (ve_var 1))) va_nil)))))))

abbrev s_law_is_refused : Stmt := top 28
theorem sc_law_is_refused : FnScope ["_law_text_here", "_law_error"] ["_law_text_here"] (defScope s_law_is_refused) := ⟨rfl, rfl, rfl, by decide +kernel, rfl, by decide +kernel, by decide +kernel⟩
theorem d_law_is_refused {P : Program} {w : World} {K : PySem.W.Frag} {mg : Str → Option Value} {base : Heap} {c : Ct} (hK : K = c.K) (bn : Bn mg) (fx : Fact K mg "_law_is_refused" s_law_is_refused ["_law_text_here"]) (lk : LandK K c.CL) (d_read : DcX P w K mg base 6 "read" (spP c .land F_read)) (d_law_word_of : Dw P w K mg base 1 "_law_word_of" Exl.word) (x_LandError : ExK K mg "LandError" Exs.LandError) (xw : ∀ C r, Exl.word C = some r → WordX K C r) :
    Dc P w K mg base 7 "_law_is_refused" (spP c .fz F_law_is_refused) := by
  obtain ⟨f, fd, F, hm, hb⟩ := fx.ex
  have nd := sc_law_is_refused.nd
  refine ⟨f, fd, _, fn_pure (M := mo [.v 1, .v 0]) (M' := mo [.v 1, .v 0]) F sc_law_is_refused hK (fun i hi => by (rcases i with _ | _) <;> first | rfl | exact absurd hi (by simp)) (fun cdv A outer s H E z => ?_), hb, hm, F.kp⟩
  exact (vss_cons (vs_tryAX z 1 (fun W pn xe tx z => (vss_one (vs_exprK (VO.toE _ (vo_callDX z tx d_read (by decide) (va_arg (ve_var 0) va_nil)))))) (su_wordEq z d_law_word_of (by decide) fun C w h => (xw C w h).k.m) ⟨by rfl, by decide, .inl x_LandError.g⟩ nd)
      (vss_one (vs_ret (VE.toO ve_bl))))

abbrev s_law : Stmt := top 32
theorem sc_law : FnScope ["_law_script", "_law_text_here", "_law_due", "_law_found_here"] ["_law_script"] (defScope s_law) := ⟨rfl, rfl, rfl, by decide +kernel, rfl, by decide +kernel, by decide +kernel⟩
theorem d_law {P : Program} {w : World} {K : PySem.W.Frag} {mg : Str → Option Value} {base : Heap} {c : Ct} {fa : Addr} {fd : FuncData} (hK : K = c.K) (bn : Bn mg) (F : Fun K "law" "law" s_law fa fd) (lk : LandK K c.CL) (d_law_text : Dc P w K mg base 3 "_law_text" (spP c .fz F_law_text)) (d_law_land_of : Dc P w K mg base 2 "_law_land_of" (spP c .fz F_law_land_of)) (d_law_found : Dc P w K mg base 7 "_law_found" (spP c .fz F_law_found)) (d_law_is_refused : Dc P w K mg base 7 "_law_is_refused" (spP c .fz F_law_is_refused)) (d_law_cell_at : Dc P w K mg base 1 "_law_cell_at" (spP c .fz F_law_cell_at)) :
    FnOk P w K mg base (L2N.CX P w) 8 fa fd ["_law_script"] (spP c .fz F_law) := by
  have nd := sc_law.nd
  refine fn_pure (M := mo [.v 1, .v 0, .v 0, .v 0]) (M' := mo [.v 1, .v 0, .v 0, .v 0]) F sc_law hK (fun i hi => by (rcases i with _ | _) <;> first | rfl | exact absurd hi (by simp)) (fun cdv A outer s H E z => ?_)
  exact (vss_cons (vs_set 1 0 (VO.toE .fz (vo_callD z d_law_text (by decide) (va_arg (ve_var 0) va_nil))) rfl (by decide) nd)
      (vss_cons (vs_set 2 0 (VO.toE .fz (vo_callD z d_law_land_of (by decide) (va_arg (ve_var 1) va_nil))) rfl (by decide) nd)
      (vss_cons (vs_set 3 0 (VO.toE .fz (vo_callD z d_law_found (by decide) (va_arg (ve_var 1) va_nil))) rfl (by decide) nd)
      (vss_cons (vs_if (VW.vt (vw_and (vt_is (ve_var 2) ve_non) (vw_and1 (vt_not (vt_val (VO.toE .fz (vo_callD z d_law_is_refused (by decide) (va_arg (ve_var 1) va_nil)))))))) (vss_one (vs_ret (VE.toO ve_bl))) vss_nil)
      (vss_cons (vs_if (vt_not (vt_val (VO.toE .fz (vo_callD z d_law_is_refused (by decide) (va_arg (ve_ix z (VO.toE _ (vo_lst (va_cons ve_non (va_cons ve_int (va_cons ve_bl (va_cons (VO.toE _ (vo_lst (va_cons ve_str va_nil))) va_nil)))))) (ve_mod (VO.toE .fz (vo_callD z d_law_cell_at (by decide) (va_arg (ve_var 0) (va_arg ve_int va_nil)))) ve_int)) va_nil))))) (vss_one (vs_ret (VE.toO ve_bl))) vss_nil)
      (vss_one (vs_ret (VE.toO (ve_eq z (ve_var 3) (ve_var 2))))))))))

end Pg
set_option linter.all false
set_option maxRecDepth 100000
namespace VS
open PySem L2
variable [Exl]
abbrev Cell := Int × Int
def cellD (p : Cell) : D := .tup [.int p.1, .int p.2]
def inb (R C : Int) (p : Cell) : Bool := decide (0 ≤ p.1) && decide (p.1 < R) && (decide (0 ≤ p.2) && decide (p.2 < C))
def rowc (n : Nat) (r : Nat) : List Cell := (List.range n).map fun (c : Nat) => ((r : Int), (c : Int))
def blkc (n : Nat) (p : List Nat) : List Cell := (p.map (rowc n)).flatten
@[simp] theorem blkc_nil (n : Nat) : blkc n [] = [] := rfl
@[simp] theorem blkc_snoc (n : Nat) (p : List Nat) (b : Nat) : blkc n (p ++ [b]) = blkc n p ++ rowc n b := by simp [blkc]
def cellsL (R C : Int) : List Cell := blkc C.toNat (List.range R.toNat)

def flatD : D → Bool
  | .land _ => false
  | .pile _ => false
  | .raw => false
  | _ => true
def thingD : D → Bool
  | .land _ => false
  | .pile _ => false
  | .raw => false
  | .tup [x, y] => flatD x && flatD y
  | _ => true
def intOf : D → Option Int
  | .int i => some i
  | _ => none
def cellOf : D → Option Cell
  | .tup [x, y] => match intOf x, intOf y with
    | some i, some j => some (i, j)
    | _, _ => none
  | _ => none
def isCell (R C : Int) (d : D) : Bool := match cellOf d with
  | some p => inb R C p
  | none => false
theorem intOf_eq {x : D} {i : Int} (h : intOf x = some i) : x = .int i := by
  cases x <;> simp [intOf] at h
  rw [h]
@[simp] theorem whole_int (i : Int) : F_is_whole [.int i] = .ok (.bl true) := rfl
@[simp] theorem whole_bl (i : Bool) : F_is_whole [.bl i] = .ok (.bl false) := rfl
@[simp] theorem whole_str (i : Str) : F_is_whole [.str i] = .ok (.bl false) := rfl
@[simp] theorem whole_non : F_is_whole [.non] = .ok (.bl false) := rfl
@[simp] theorem whole_tup (l) : F_is_whole [.tup l] = .ok (.bl false) := rfl
@[simp] theorem whole_lst (l) : F_is_whole [.lst l] = .ok (.bl false) := rfl

theorem lies_pair (R C i j : Int) : F_lies_in [.int R, .int C, .tup [.int i, .int j]] = .ok (.bl (inb R C (i, j))) := by
  simp [F_lies_in, runF, g_lies_in, startD, isTy, inb]
  by_cases h1 : 0 ≤ i <;> by_cases h2 : i < R <;> by_cases h3 : 0 ≤ j <;> by_cases h4 : j < C <;> simp [h1, h2, h3, h4]
theorem lies_cell (R C : Int) (p : Cell) : F_lies_in [.int R, .int C, cellD p] = .ok (.bl (inb R C p)) := lies_pair R C p.1 p.2
theorem whole_any {x : D} (h : flatD x = true) : F_is_whole [x] = .ok (.bl (intOf x).isSome) := by
  cases x <;> first | rfl | cases h
theorem tup3 (x y z : D) (l : List D) : decide ((((l.length : Int) + 1 + 1 + 1)) = 2) = false := by simp; omega
theorem lies_any (R C : Int) {d : D} (h : thingD d = true) : F_lies_in [.int R, .int C, d] = .ok (.bl (isCell R C d)) := by
  cases d with
  | tup l =>
    rcases l with _ | ⟨x, _ | ⟨y, _ | ⟨z, l⟩⟩⟩
    · simp [F_lies_in, runF, g_lies_in, startD, isTy, isCell, cellOf]
    · simp [F_lies_in, runF, g_lies_in, startD, isTy, isCell, cellOf]
    · simp [thingD] at h
      cases hx : intOf x with
      | none => simp [F_lies_in, runF, g_lies_in, startD, isTy, whole_any h.1, whole_any h.2, hx, isCell, cellOf]
      | some i => cases hy : intOf y with
        | none => simp [F_lies_in, runF, g_lies_in, startD, isTy, whole_any h.1, whole_any h.2, hx, hy, isCell, cellOf]
        | some j =>
          cases intOf_eq hx; cases intOf_eq hy
          exact lies_pair R C i j
    · simp [F_lies_in, runF, g_lies_in, startD, isTy, tup3 x y z l, isCell, cellOf]
  | land l => cases h
  | pile l => cases h
  | raw => cases h
  | _ => simp [F_lies_in, runF, g_lies_in, startD, isTy, isCell, cellOf]
theorem pre_len {β : Type} {l p q : List β} {b : β} (h : l = p ++ b :: q) : p.length < l.length := by rw [h]; simp
theorem cells_inner (R C : D) (r n : Nat) (acc : List Cell) (x : Option D) (h : acc.length + n < 100000) :
    sFor.go (gN 4) g_all_cells_1 ((List.range n).map fun (i : Nat) => D.int (i : Int)) [some R, some C, some (.lst (acc.map cellD)), some (.int (r : Int)), x] =
    .ok (.nx [some R, some C, some (.lst ((acc ++ rowc n r).map cellD)), some (.int (r : Int)), lastD (fun (i : Nat) => D.int (i : Int)) x (List.range n)]) := by
  have := for_all (s := gN 4) (g := g_all_cells_1) (fun (i : Nat) => D.int (i : Int)) (fun p => [some R, some C, some (.lst ((acc ++ p.map fun (c : Nat) => ((r : Int), (c : Int))).map cellD)), some (.int (r : Int)), lastD (fun (i : Nat) => D.int (i : Int)) x p]) (List.range n) (fun p b q e => by
    have hl := pre_len e
    rw [List.length_range] at hl
    have hz : decide (acc.length + p.length < 100000) = true := decide_eq_true (by omega)
    simp [g_all_cells_1, hz, cellD])
  simpa [rowc] using this
theorem blkc_len {n : Nat} (p : List Nat) : (blkc n p).length = p.length * n := by
  induction p with
  | nil => simp
  | cons a p ih =>
    have : blkc n (a :: p) = rowc n a ++ blkc n p := by simp [blkc]
    rw [this, List.length_append, ih]; simp [Nat.succ_mul, Nat.add_comm, rowc]
theorem all_cells_eq (R C : Int) (hR : R ≤ 100) (hC : C ≤ 100) (hR0 : 0 ≤ R) (hC0 : 0 ≤ C) : F_all_cells [.int R, .int C] = .ok (.lst ((cellsL R C).map cellD)) := by
  have b1 : (decide (-4611686018427387904 ≤ R) && decide (R < 4611686018427387904)) = true := by simp; omega
  have b2 : (decide (-4611686018427387904 ≤ C) && decide (C < 4611686018427387904)) = true := by simp; omega
  simp [F_all_cells, runF, g_all_cells, startD]
  rw [b1]
  simp [rngD_map]
  have h := for_all (s := gN 3) (g := g_all_cells_2) (fun (i : Nat) => D.int (i : Int))
    (fun p => [some (.int R), some (.int C), some (.lst ((blkc C.toNat p).map cellD)), lastD (fun (i : Nat) => D.int (i : Int)) none p, p.foldl (fun x _ => lastD (fun (i : Nat) => D.int (i : Int)) x (List.range C.toNat)) none]) (List.range R.toNat) (fun p b q e => by
    have hl := pre_len e
    rw [List.length_range] at hl
    simp [g_all_cells_2, rngD_map]
    rw [b2]
    simp only [gd_true, O.bind_ok]
    rw [cells_inner]
    · simp
    · rw [blkc_len]
      have : p.length * C.toNat ≤ 100 * 100 := Nat.mul_le_mul (by omega) (by omega)
      omega)
  simp only [List.map_nil, blkc_nil, lastD_nil, List.foldl_nil] at h
  rw [h]
  simp [cellsL]

/-! lands -/
def keyP (p : Cell) : List Key := [.inl p.1, .inl p.2]
@[simp] theorem keyD_cell (p : Cell) : keyD (cellD p) = some (keyP p) := rfl
@[simp] theorem keyD_pair (i j : Int) : keyD (.tup [.int i, .int j]) = some (keyP (i, j)) := rfl
@[simp] theorem imm_cell (p : Cell) : (cellD p).imm = true := by simp [cellD]
@[simp] theorem imm_hD (h : Option Int) : (hD h).imm = true := by cases h <;> simp [hD]
@[simp] theorem immA_hD : ∀ r : List (Option Int), immA (r.map hD) = true
  | [] => by simp
  | h :: r => by simp [immA_hD r]
@[simp] theorem thing_cell (p : Cell) : thingD (cellD p) = true := rfl
@[simp] theorem isCell_cell (R C : Int) (p : Cell) : isCell R C (cellD p) = inb R C p := rfl
@[simp] theorem len_row (r : List (Option Int)) : lenD (rowD r) = .ok (.int r.length) := by simp [rowD]
@[simp] theorem ty_row (r : List (Option Int)) : tyN (rowD r) = some "list" := rfl
theorem hOs_map : ∀ r : List (Option Int), hOs (r.map hD) = some r
  | [] => rfl
  | h :: r => by
    have := hOs_map r
    simp only [List.map_cons, hOs, this]
    cases h <;> rfl
theorem gridO_map : ∀ g : List (List (Option Int)), gridO (g.map rowD) = some g
  | [] => rfl
  | r :: g => by
    have := gridO_map g
    show (match hOs (r.map hD), gridO (g.map rowD) with
      | some r, some rs => some (r :: rs)
      | _, _ => none) = _
    rw [hOs_map, this]
/-- a grid of R rows of C cells -/
structure GOk (g : List (List (Option Int))) (R C : Nat) : Prop where
  r1 : 1 ≤ R
  r30 : R ≤ 30
  c1 : 1 ≤ C
  c30 : C ≤ 30
  len : g.length = R
  row : ∀ r ∈ g, r.length = C
theorem GOk.hd {g : List (List (Option Int))} {R C : Nat} (h : GOk g R C) : (g.headD []).length = C := by
  cases g with
  | nil => have := h.len; have := h.r1; simp at *; omega
  | cons r g => exact h.row r (by simp)
theorem GOk.hd' {g : List (List (Option Int))} {R C : Nat} (h : GOk g R C) : (g.head?.getD []).length = C := by
  have := h.hd
  rwa [List.headD_eq_head?_getD] at this
def getG (g : List (List (Option Int))) (p : Cell) : Option Int := (g.getD p.1.toNat []).getD p.2.toNat none
def hOk : Option Int → Bool
  | none => true
  | some i => decide (0 ≤ i) && decide (i ≤ 1000000000)
def gOk (g : List (List (Option Int))) : Prop := ∀ r ∈ g, ∀ h ∈ r, hOk h = true
@[simp] theorem is_height_h (h : Option Int) : F_is_height [hD h] = .ok (.bl (hOk h)) := by
  cases h with
  | none => rfl
  | some i =>
    simp [F_is_height, runF, g_is_height, startD, hD, hOk]
    by_cases h1 : 0 ≤ i <;> simp [h1]
theorem need_any {L : LandD} {R C : Nat} (hg : GOk L.g R C) {d : D} (hd : thingD d = true) : F_Land_need [.land L, d] = if isCell R C d = true then .ok .non else .exc (.ref Exs.NoCell) := by
  have h := lies_any (R : Int) (C : Int) hd
  simp [F_Land_need, runF, g_Land_need, startD, hg.len, hg.hd', h]
  by_cases hc : isCell R C d = true <;> simp [hc]
theorem inb_nat {R C : Nat} {p : Cell} (h : inb R C p = true) : ∃ i j : Nat, p = ((i : Int), (j : Int)) ∧ i < R ∧ j < C := by
  unfold inb at h
  simp only [Bool.and_eq_true, decide_eq_true_eq] at h
  refine ⟨p.1.toNat, p.2.toNat, ?_, by omega, by omega⟩
  obtain ⟨a, b⟩ := p
  simp only at h ⊢
  rw [Int.toNat_of_nonneg h.1.1, Int.toNat_of_nonneg h.2.1]
theorem get_at {g : List (List (Option Int))} {R C : Nat} (hg : GOk g R C) {i j : Nat} (hi : i < R) (hj : j < C) : ∃ r, g[i]? = some r ∧ r[j]? = some (getG g (i, j)) ∧ r.length = C := by
  have h1 : i < g.length := by rw [hg.len]; exact hi
  have h2 : g[i].length = C := hg.row _ (List.getElem_mem h1)
  refine ⟨g[i], List.getElem?_eq_getElem h1, ?_, h2⟩
  unfold getG
  simp [List.getD, h1, h2, hj]
/-! the drains -/
def openB (o : List (List Key × Bool)) (p : Cell) : Bool := ((o.find? fun q => decide (q.1 = keyP p)).map (·.2)).getD false
theorem look_open (o : List (List Key × Bool)) (p : Cell) : (lookD (o.map fun q => (q.1, D.bl q.2)) (keyP p)).getD (.bl false) = .bl (openB o p) := by
  unfold lookD openB
  rw [List.find?_map]
  show (Option.map _ (Option.map _ (List.find? (fun q => decide (q.1 = keyP p)) o))).getD _ = _
  cases o.find? fun q => decide (q.1 = keyP p) <;> rfl
theorem is_drain_eq {L : LandD} {R C : Nat} (hg : GOk L.g R C) {p : Cell} (hp : inb R C p = true) : F_Land_is_drain [.land L, cellD p] = .ok (.bl (openB L.o p)) := by
  have hn := need_any hg (thing_cell p)
  rw [isCell_cell, if_pos hp] at hn
  simp [F_Land_is_drain, runF, g_Land_is_drain, startD, hn, look_open]
theorem cells_in (R C : Nat) : ∀ p ∈ cellsL R C, inb R C p = true := by
  intro p hp
  simp only [cellsL, blkc, List.mem_flatten, List.mem_map, List.mem_range, Int.toNat_natCast] at hp
  obtain ⟨l, ⟨r, hr, rfl⟩, hp⟩ := hp
  simp only [rowc, List.mem_map, List.mem_range] at hp
  obtain ⟨c, hc, rfl⟩ := hp
  simp [inb]; omega
def drainsL (L : LandD) (R C : Nat) : List Cell := (cellsL R C).filter (openB L.o)
theorem cells_len (R C : Nat) : (cellsL R C).length = R * C := by simp [cellsL, blkc_len]
theorem cells_few {R C : Nat} (h : R ≤ 30) (h2 : C ≤ 30) : (cellsL R C).length ≤ 900 := by
  rw [cells_len]
  exact Nat.mul_le_mul h h2
theorem drains_eq {L : LandD} {R C : Nat} (hg : GOk L.g R C) : F_Land_drains [.land L] = .ok (.lst ((drainsL L R C).map cellD)) := by
  have ha := all_cells_eq (R : Int) (C : Int) (by have := hg.r30; omega) (by have := hg.c30; omega) (by omega) (by omega)
  refine runF_rt rfl (by decide) (ret_eq (eLc_eq (ds := (cellsL R C).map cellD) ?_ (by simp [startD]) ?_ ?_))
  · have e : (aCons (e1 rowsD (eVar 0)) (aCons (e1 colsD (eVar 0)) aNil)) (startD 2 [.land L]) = .ok [.int L.g.length, .int (L.g.headD []).length] := rfl
    rw [iSeq_ap, eCall_ap, e, hg.len, hg.hd, O.bind_ok, ha]
    rfl
  · rw [List.length_map]
    exact Nat.le_trans (cells_few hg.r30 hg.c30) (by decide)
  · rw [cGo_map cellD (openB L.o) cellD]
    · simp only [drainsL]
    · intro p hp
      simp [startD, g_Land_drains_1, is_drain_eq hg (cells_in R C p hp)]
    · intro p hp _
      simp [startD, g_Land_drains_2]
theorem heights_eq {L : LandD} {R C : Nat} (hg : GOk L.g R C) : F_Land_heights [.land L] = .ok (.lst (L.g.map rowD)) := by
  have hl : L.g.length ≤ 100000 := by rw [hg.len]; have := hg.r30; omega
  simp [F_Land_heights, runF, g_Land_heights, startD, hl]
  rw [cGo_map rowD (fun _ => true) rowD]
  · rw [List.filter_eq_self.mpr fun _ _ => rfl]
    rfl
  · intro r _; simp
  · intro r _ _
    simp [g_Land_heights_1, rowD, listD]
/-! a land made -/
theorem is_heightD {d : D} (h : ∃ x, d = hD x ∧ hOk x = true) : F_is_height [d] = .ok (.bl true) := by
  obtain ⟨x, rfl, hx⟩ := h
  rw [is_height_h, hx]
theorem init_eq {g : List (List (Option Int))} {R C : Nat} (hg : GOk g R C) (hh : gOk g) : F_Land_init [.raw, .lst (g.map rowD)] = .ok (.rt .non [.land ⟨g, []⟩, .non]) := by
  have r1 : 1 ≤ g.length := by rw [hg.len]; exact hg.r1
  have r30 : g.length ≤ 30 := by rw [hg.len]; exact hg.r30
  have c1 := hg.c1
  have c30 := hg.c30
  obtain ⟨g0, gt, rfl⟩ : ∃ a t, g = a :: t := by
    cases g with
    | nil => simp at r1
    | cons a t => exact ⟨a, t, rfl⟩
  have hc0 : g0.length = C := hg.row g0 (by simp)
  let I : Rho → Prop := fun ρ => ∃ x y, ρ = [some .raw, some (.lst ((g0 :: gt).map rowD)), x, y]
  obtain ⟨ρ1, e1, x1, y1, rfl⟩ := for_inv (I := I) (s := gN 2) (g := g_Land_init_1) (ds := (g0 :: gt).map rowD) (ρ := [some .raw, some (.lst ((g0 :: gt).map rowD)), none, none]) (fun d hd ρ hI => by
    obtain ⟨x, y, rfl⟩ := hI
    obtain ⟨r, hr, rfl⟩ := List.mem_map.mp hd
    have hl : r.length = C := hg.row r hr
    refine ⟨[some .raw, some (.lst ((g0 :: gt).map rowD)), some (rowD r), y], ?_, some (rowD r), y, rfl⟩
    have e2 : decide ((r.length : Int) ≤ 30) = true := by rw [hl]; simp; omega
    have e3 : decide ((1 : Int) ≤ (r.length : Int)) = true := by rw [hl]; simp; omega
    have e4 : decide ((r.length : Int) = (g0.length : Int)) = true := by rw [hl, hc0]; simp
    have e3' : (1 : Int) ≤ (r.length : Int) := of_decide_eq_true e3
    simp [g_Land_init_1, isTy, e2, e3', e4]) ⟨none, none, rfl⟩
  obtain ⟨ρ2, e2, x2, y2, rfl⟩ := for_inv (I := I) (s := gN 2) (g := g_Land_init_3) (ds := (g0 :: gt).map rowD) (ρ := [some .raw, some (.lst ((g0 :: gt).map rowD)), x1, y1]) (fun d hd ρ hI => by
    obtain ⟨x, y, rfl⟩ := hI
    obtain ⟨r, hr, rfl⟩ := List.mem_map.mp hd
    obtain ⟨ρ3, e3, y3, rfl⟩ := for_inv (I := fun ρ => ∃ y, ρ = [some .raw, some (.lst ((g0 :: gt).map rowD)), some (rowD r), y]) (s := gN 3) (g := g_Land_init_2) (ds := r.map hD) (ρ := [some .raw, some (.lst ((g0 :: gt).map rowD)), some (rowD r), y]) (fun d hd ρ hI => by
      obtain ⟨y, rfl⟩ := hI
      obtain ⟨h, hh', rfl⟩ := List.mem_map.mp hd
      have := hh r hr h hh'
      exact ⟨[some .raw, some (.lst ((g0 :: gt).map rowD)), some (rowD r), some (hD h)], by simp [g_Land_init_2, this], _, rfl⟩) ⟨y, rfl⟩
    refine ⟨_, ?_, some (rowD r), y3, rfl⟩
    have hg0 : gN 2 (rowD r) [some .raw, some (.lst ((g0 :: gt).map rowD)), x, y] = .ok [some .raw, some (.lst ((g0 :: gt).map rowD)), some (rowD r), y] := by simp
    rw [hg0, O.bind_ok]
    exact sFor_eq (ds := r.map hD) rfl e3) ⟨x1, y1, rfl⟩
  refine runM_nx rfl (by decide) (ρ := [some (.land ⟨g0 :: gt, []⟩), some (.lst ((g0 :: gt).map rowD)), x2, y2]) ?_ rfl
  unfold g_Land_init
  refine seq_to (ρ1 := [some .raw, some (.lst ((g0 :: gt).map rowD)), none, none]) ?_ ?_
  · have r30' : gt.length + 1 ≤ 30 := r30
    have h1 : decide ((gt.length : Int) + 1 ≤ 30) = true := decide_eq_true (by omega)
    have h2 : (1 : Int) ≤ (gt.length : Int) + 1 := by omega
    simp [startD, isTy, h1, h2]
  refine seq_to (sFor_eq (by rfl) e1) ?_
  refine seq_to (sFor_eq (by rfl) e2) ?_
  have hlc : eLc (iSeq (eVar 1)) 2 tTr g_Land_init_4 [some .raw, some (.lst ((g0 :: gt).map rowD)), x2, y2] = .ok (.lst ((g0 :: gt).map rowD)) := by
    refine eLc_eq (ds := (g0 :: gt).map rowD) rfl (by simp) (by rw [List.length_map]; omega) ?_
    rw [cGo_map rowD (fun _ => true) rowD]
    · rw [List.filter_eq_self.mpr fun _ _ => rfl]
    · intro r _; simp
    · intro r _ _
      simp [g_Land_init_4, rowD, listD]
  unfold sLand
  rw [hlc]
  have hgo := gridO_map (g0 :: gt)
  simp only [List.map_cons] at hgo
  simp [hgo]
/-! deeds on a land -/
theorem ixN_nat {n j : Nat} (h : j < n) : ixN n (j : Int) = some j := by
  unfold ixN
  rw [if_pos (by omega), if_pos (by omega)]
  simp
theorem putL_len {β : Type} (o : List (List Key × β)) (k : List Key) (v : β) : (putL o k v).length ≤ o.length + 1 := by
  unfold putL
  split <;> simp
theorem opened_eq {L : LandD} {R C : Nat} (hg : GOk L.g R C) {p : Cell} (hp : inb R C p = true) (hs : getG L.g p ≠ none) (ho : L.o.length < 100000) :
    F_Land_opened [.land L, cellD p] = .ok (.rt .non [.land ⟨L.g, putL L.o (keyP p) true⟩, .non]) := by
  obtain ⟨i, j, rfl, hi, hj⟩ := inb_nat hp
  obtain ⟨r, e1, e2, e3⟩ := get_at hg hi hj
  have hn := need_any hg (thing_cell ((i : Int), (j : Int)))
  rw [isCell_cell, if_pos hp] at hn
  obtain ⟨x, hx⟩ := Option.ne_none_iff_exists'.mp hs
  rw [hx] at e2
  refine runM_nx (ρ := [some (.land ⟨L.g, putL L.o (keyP ((i : Int), (j : Int))) true⟩), some (cellD ((i : Int), (j : Int)))]) rfl (by decide) ?_ rfl
  unfold g_Land_opened
  refine seq_to (ρ1 := [some (.land L), some (cellD ((i : Int), (j : Int)))]) (by simp [startD, hn]) ?_
  refine seq_to (ρ1 := [some (.land L), some (cellD ((i : Int), (j : Int)))]) (by simp [cellD, e1, rowD, e2, hD]) ?_
  simp [ho]
/-! the table of drains -/
theorem keyP_inj {p q : Cell} (h : keyP p = keyP q) : p = q := by
  unfold keyP at h
  simp at h
  exact Prod.ext h.1 h.2
theorem find_putL (o : List (List Key × Bool)) (k k' : List Key) (b : Bool) : ((putL o k b).find? fun q => decide (q.1 = k')).map (·.2) = if k' = k then some b else (o.find? fun q => decide (q.1 = k')).map (·.2) := by
  unfold putL
  split
  · rename_i ha
    induction o with
    | nil => simp at ha
    | cons a o ih =>
      rw [List.map_cons, List.find?_cons, List.find?_cons]
      by_cases h1 : a.1 = k
      · simp only [h1, if_true]
        by_cases h2 : k' = k
        · simp [h2]
        · have : ¬ k = k' := fun e => h2 e.symm
          simp only [this, decide_false, h2, if_false]
          by_cases ha' : (o.any fun kv => decide (kv.1 = k)) = true
          · rw [ih ha', if_neg h2]
          · have e : o.map (fun kv => if kv.1 = k then (kv.1, b) else kv) = o.map id := List.map_congr_left fun q hq => if_neg fun e => ha' (List.any_eq_true.mpr ⟨q, hq, decide_eq_true e⟩)
            rw [e, List.map_id]
      · simp only [if_neg h1]
        have ha' : (o.any fun kv => decide (kv.1 = k)) = true := by
          rw [List.any_cons, Bool.or_eq_true] at ha
          rcases ha with ha | ha
          · exact absurd (of_decide_eq_true ha) h1
          · exact ha
        by_cases h2 : a.1 = k'
        · have : ¬ k' = k := fun e => h1 (h2.trans e)
          simp [h2, this]
        · simp only [h2, decide_false]
          exact ih ha'
  · rename_i ha
    rw [List.find?_append]
    by_cases h2 : k' = k
    · have : o.find? (fun q => decide (q.1 = k')) = none := by
        rw [List.find?_eq_none]
        intro q hq hd
        exact ha (List.any_eq_true.mpr ⟨q, hq, by rw [← h2]; exact hd⟩)
      rw [this, if_pos h2]
      simp [h2]
    · rw [if_neg h2]
      have : ¬ k = k' := fun e => h2 e.symm
      cases hf : o.find? (fun q => decide (q.1 = k')) <;> simp [this]
theorem open_put (o : List (List Key × Bool)) (p q : Cell) (b : Bool) : openB (putL o (keyP p) b) q = if q = p then b else openB o q := by
  unfold openB
  rw [find_putL]
  by_cases h : q = p
  · rw [if_pos (by rw [h]), if_pos h]; rfl
  · rw [if_neg fun e => h (keyP_inj e), if_neg h]
@[simp] theorem open_nil (p : Cell) : openB [] p = false := rfl
@[simp] theorem atI_zero {α : Type} (x : α) (l : List α) : atI (x :: l) 0 = some x := by
  have := atI_ofNat (x :: l) 0
  simpa using this
@[simp] theorem ixN_zero (n : Nat) : ixN (n + 1) 0 = some 0 := by
  have := ixN_nat (n := n + 1) (j := 0) (by omega)
  simpa using this
/-! the cells, once more -/
theorem nodup_cells (R C : Nat) : (cellsL R C).Nodup := by
  simp only [cellsL, blkc, Int.toNat_natCast]
  unfold List.Nodup
  rw [List.pairwise_flatten]
  refine ⟨fun l hl => ?_, ?_⟩
  · obtain ⟨r, _, rfl⟩ := List.mem_map.mp hl
    refine List.Pairwise.map _ (fun a b (h : a ≠ b) => ?_) List.nodup_range
    intro e
    simp at e
    omega
  · rw [List.pairwise_map]
    refine List.Pairwise.imp (fun {a b} (h : a ≠ b) => ?_) List.nodup_range
    intro x hx y hy e
    simp only [rowc, List.mem_map] at hx hy
    obtain ⟨_, _, rfl⟩ := hx
    obtain ⟨_, _, rfl⟩ := hy
    simp at e
    omega
theorem mem_cells {R C : Nat} {p : Cell} (h : inb R C p = true) : p ∈ cellsL R C := by
  obtain ⟨i, j, rfl, hi, hj⟩ := inb_nat h
  simp only [cellsL, blkc, List.mem_flatten, List.mem_map, List.mem_range, Int.toNat_natCast]
  exact ⟨rowc C i, ⟨i, hi, rfl⟩, List.mem_map.mpr ⟨j, List.mem_range.mpr hj, rfl⟩⟩
theorem filter_one {α : Type} [DecidableEq α] {l : List α} (nd : l.Nodup) {p : α} (h : p ∈ l) : l.filter (fun q => decide (q = p)) = [p] := by
  induction l with
  | nil => simp at h
  | cons a l ih =>
    obtain ⟨n1, n2⟩ := List.nodup_cons.mp nd
    by_cases e : a = p
    · subst e
      rw [List.filter_cons_of_pos (by simp)]
      rw [List.filter_eq_nil_iff.mpr]
      intro q hq hd
      exact n1 (by rw [← of_decide_eq_true hd]; exact hq)
    · rw [List.filter_cons_of_neg (by simpa using e)]
      refine ih n2 ?_
      rcases List.mem_cons.mp h with z | z
      · exact absurd z.symm e
      · exact z
theorem regrid {g : List (List (Option Int))} {R C : Nat} (hg : GOk g R C) : (List.range R).map (fun (i : Nat) => (List.range C).map fun (j : Nat) => getG g ((i : Int), (j : Int))) = g := by
  refine List.ext_getElem? fun i => ?_
  by_cases hi : i < R
  · have hl : i < g.length := by rw [hg.len]; exact hi
    rw [List.getElem?_map, List.getElem?_range hi, List.getElem?_eq_getElem hl]
    simp only [Option.map_some, Option.some.injEq]
    refine List.ext_getElem? fun j => ?_
    by_cases hj : j < C
    · obtain ⟨r, e1, e2, e3⟩ := get_at hg hi hj
      rw [List.getElem?_eq_getElem hl] at e1
      cases e1
      rw [List.getElem?_map, List.getElem?_range hj, e2]
      rfl
    · have : g[i].length = C := hg.row _ (List.getElem_mem hl)
      rw [List.getElem?_eq_none (by simpa using hj), List.getElem?_eq_none (by omega)]
  · rw [List.getElem?_eq_none (by simpa using hi), List.getElem?_eq_none (by rw [hg.len]; omega)]
theorem store00 (i : Nat) (ρ : Rho) (h0 : Option Int) (ht : List (Option Int)) (gt : List (List (Option Int))) (x : Int) (hi : ρ[i]? = some (some (.lst (((h0 :: ht) :: gt).map rowD)))) :
    sStore i (gSub i (eC (.int 0))) (pSub i (eC (.int 0))) (eC (.int 0)) (eC (.int x)) ρ = .ok (.nx (ρ.set i (some (.lst (((some x :: ht) :: gt).map rowD))))) := by
  have he : eVar i ρ = .ok (.lst (((h0 :: ht) :: gt).map rowD)) := by unfold eVar; rw [hi]
  have e5 : hD (some x) = .int x := rfl
  simp [he, pSub, rowD, e5]
theorem grid_ext {g g' : List (List (Option Int))} {R C : Nat} (hg : GOk g R C) (hg' : GOk g' R C) (h : ∀ p, inb R C p = true → getG g p = getG g' p) : g = g' := by
  rw [← regrid hg, ← regrid hg']
  refine List.map_congr_left fun i hi => List.map_congr_left fun j hj => ?_
  exact h _ (by
    simp [inb]
    rw [List.mem_range] at hi hj
    omega)
theorem cons2 {g : List (List (Option Int))} {R C : Nat} (hg : GOk g R C) : ∃ h0 ht gt, g = (h0 :: ht) :: gt := by
  have hl := hg.len
  have r1 := hg.r1
  have c1 := hg.c1
  cases g with
  | nil => simp at hl; omega
  | cons a t =>
    have ha : a.length = C := hg.row a (by simp)
    cases a with
    | nil => simp at ha; omega
    | cons h0 ht => exact ⟨h0, ht, t, rfl⟩
theorem rg1_eq {f : EF} {ρ : Rho} {n : Nat} (h : f ρ = .ok (.int (n : Int))) (hn : n ≤ 1000) : iRg1 f ρ = .ok ((List.range n).map fun (i : Nat) => D.int (i : Int)) := by
  rw [iRg1_ap, h]
  have b : (decide (-(2 ^ 62) ≤ (n : Int)) && decide ((n : Int) < 2 ^ 62)) = true := by simp; omega
  simp only [O.bind_ok]
  rw [b, ← rngD_map]
  rfl
/-! equal lists -/
theorem lay_cell (p : Cell) : (toPy (cellD p)).canLay0 = true ∧ (toPy (cellD p)).depth ≤ 60 := by
  simp [cellD, toPyA_map, PyData.canLay0, PyData.canLayAll0, PyData.depth, PyData.depthAll]
theorem eqv_cell (p q : Cell) : PyData.eqv (toPy (cellD p)) (toPy (cellD q)) = decide (p = q) := by
  obtain ⟨a, b⟩ := p
  obtain ⟨a', b'⟩ := q
  simp only [cellD, toPy_tup, toPyA_map, List.map_cons, List.map_nil, toPy_int, PyData.eqv, PyData.eqvAll, Prod.mk.injEq]
  by_cases h1 : a = a' <;> by_cases h2 : b = b' <;> simp [h1, h2]
theorem eq_cells (neg : Bool) (l l' : List Cell) : eqD neg (.lst (l.map cellD)) (.lst (l'.map cellD)) = .ok (.bl (neg != decide (l = l'))) := eq_list cellD lay_cell eqv_cell neg l l'
theorem lay_hD (h : Option Int) : (toPy (hD h)).canLay0 = true ∧ (toPy (hD h)).depth ≤ 59 := by
  cases h <;> simp [hD, PyData.canLay0, PyData.depth]
theorem eqv_hD (a b : Option Int) : PyData.eqv (toPy (hD a)) (toPy (hD b)) = decide (a = b) := by
  cases a <;> cases b <;> simp [hD, PyData.eqv]
  rw [Bool.eq_iff_iff]; simp
theorem lay_row (r : List (Option Int)) : (toPy (rowD r)).canLay0 = true ∧ (toPy (rowD r)).depth ≤ 60 := by
  obtain ⟨h1, h2⟩ := laid_list hD 59 lay_hD r
  simp only [rowD, toPy_lst, PyData.canLay0, PyData.depth]
  exact ⟨h1, by omega⟩
theorem eqv_row (a b : List (Option Int)) : PyData.eqv (toPy (rowD a)) (toPy (rowD b)) = decide (a = b) := by
  simp only [rowD, toPy_lst, PyData.eqv]
  exact eqv_list hD eqv_hD a b
theorem eq_rows (neg : Bool) (l l' : List (List (Option Int))) : eqD neg (.lst (l.map rowD)) (.lst (l'.map rowD)) = .ok (.bl (neg != decide (l = l'))) := eq_list rowD lay_row eqv_row neg l l'
theorem eq_hD (neg : Bool) (a b : Option Int) : eqD neg (hD a) (hD b) = .ok (.bl (neg != decide (a = b))) := by
  cases a with
  | none => cases b <;> cases neg <;> rfl
  | some i => cases b with
    | none => cases neg <;> rfl
    | some j => simp [hD]
theorem lay_cell' (p : Cell) : SeqAt.shaped (toPy (cellD p)) = true := by
  obtain ⟨h1, h2⟩ := lay_cell p
  simp only [cellD, toPy_tup, SeqAt.shaped] at h1 h2 ⊢
  rw [h1, Bool.true_and, decide_eq_true_eq]
  omega
theorem eq_cell (neg : Bool) (p q : Cell) : eqD neg (cellD p) (cellD q) = .ok (.bl (neg != decide (p = q))) := by
  unfold eqD
  rw [lay_cell', lay_cell', eqv_cell]
  rfl
/-! the law's own defs -/
theorem cell_at_eq (ns : List Int) (k : Nat) : F_law_cell_at [.lst (ns.map .int), .int (k : Int)] = .ok (.int (ns.getD k 0)) := by
  by_cases h : k < ns.length
  · simp [F_law_cell_at, runF, g_law_cell_at, startD, h, List.getD]
  · simp [F_law_cell_at, runF, g_law_cell_at, startD, h, List.getD]
theorem in_cells (neg : Bool) (c : Cell) (l : List Cell) : inL neg (cellD c) (.lst (l.map cellD)) = .ok (.bl (neg != decide (c ∈ l))) := by
  unfold inL
  have h1 := lay_cell' c
  obtain ⟨h3, h4⟩ := laid_list cellD 60 lay_cell l
  have h2 : SeqAt.shaped (.list (toPyA (l.map cellD))) = true := by
    simp only [SeqAt.shaped, PyData.canLay0, PyData.depth, h3, Bool.true_and, decide_eq_true_eq]
    exact decide_eq_true (by omega)
  simp only [h1, h2, Bool.and_self, gd_true]
  congr 3
  rw [toPyA_map, List.map_map, List.any_map]
  rw [Bool.eq_iff_iff, List.any_eq_true, decide_eq_true_eq]
  constructor
  · rintro ⟨x, hx, e⟩
    have : PyData.eqv (toPy (cellD x)) (toPy (cellD c)) = true := e
    rw [eqv_cell, decide_eq_true_eq] at this
    rw [← this]; exact hx
  · intro hc
    refine ⟨c, hc, ?_⟩
    show PyData.eqv (toPy (cellD c)) (toPy (cellD c)) = true
    rw [eqv_cell]; simp
theorem imm_cells : ∀ l : List Cell, immA (l.map cellD) = true
  | [] => by simp
  | c :: l => by rw [List.map_cons, immA_cons, imm_cell, imm_cells l]; rfl
/-! texts -/
open TL
theorem for_presC {β : Type} {s : D → Rho → O Rho} {g : SF} (e : β → D) {I : List β → Rho → Prop} : ∀ (l pre : List β) (ρ : Rho), (∀ p b q, pre ++ l = p ++ b :: q → ∀ ρ, I p ρ → ∃ ρ', (((s (e b) ρ).bind g) = .ok (.nx ρ') ∨ ((s (e b) ρ).bind g) = .ok (.ct ρ')) ∧ I (p ++ [b]) ρ') → I pre ρ → ∃ ρ', sFor.go s g (l.map e) ρ = .ok (.nx ρ') ∧ I (pre ++ l) ρ'
  | [], pre, ρ, _, h => ⟨ρ, rfl, by simpa using h⟩
  | b :: l, pre, ρ, hs, h => by
    obtain ⟨ρ1, h1, h2⟩ := hs pre b l rfl ρ h
    obtain ⟨ρ2, h3, h4⟩ := for_presC e l (pre ++ [b]) ρ1 (fun p b' q e' => hs p b' q (by rw [← e']; simp)) h2
    refine ⟨ρ2, ?_, by simpa using h4⟩
    rw [List.map_cons]
    unfold sFor.go
    cases hx : s (e b) ρ with
    | bad => rw [hx] at h1; rcases h1 with h1 | h1 <;> cases h1
    | exc k => rw [hx] at h1; rcases h1 with h1 | h1 <;> cases h1
    | ok ρ0 =>
      rw [hx] at h1
      simp only [O.bind_ok] at h1 ⊢
      rcases h1 with h1 | h1 <;> rw [h1] <;> exact h3
theorem mem_joinL {S : List Nat} : ∀ {ps : List (List Nat)} {s : Nat}, s ∈ joinL S ps → s ∈ S ∨ ∃ p ∈ ps, s ∈ p
  | [], s, h => by simp [joinL] at h
  | [p], s, h => .inr ⟨p, by simp, by simpa [joinL] using h⟩
  | p :: q :: r, s, h => by
    simp only [joinL, List.mem_append] at h
    rcases h with h | h | h
    · exact .inr ⟨p, by simp, h⟩
    · exact .inl h
    · rcases mem_joinL h with h | ⟨x, hx, h⟩
      · exact .inl h
      · exact .inr ⟨x, List.mem_cons_of_mem _ hx, h⟩
theorem len_joinL {S : List Nat} {m : Nat} : ∀ {ps : List (List Nat)}, (∀ p ∈ ps, p.length ≤ m) → (joinL S ps).length ≤ ps.length * (m + S.length)
  | [], _ => by simp [joinL]
  | [p], h => by
    have := h p (by simp)
    simp only [joinL, List.length_cons, List.length_nil]
    omega
  | p :: q :: r, h => by
    have h1 := h p (by simp)
    have h2 := len_joinL (S := S) (ps := q :: r) fun x hx => h x (List.mem_cons_of_mem _ hx)
    simp only [joinL, List.length_append]
    rw [show (p :: q :: r).length = (q :: r).length + 1 from rfl, Nat.add_mul]
    omega
theorem tl_joinT (y : Str) (ps : List Str) : tl (Txt.join y ps) = joinL (tl y) (ps.map tl) := by rw [join_eq, tl_join]
theorem strs_map : ∀ ss : List Str, strsD (ss.map .str) = some ss
  | [] => rfl
  | s :: ss => by simp [strsD, strs_map ss]
theorem sum_le {m : Nat} : ∀ {l : List Nat}, (∀ x ∈ l, x ≤ m) → l.sum ≤ l.length * m
  | [], _ => by simp
  | x :: l, h => by
    have h1 := h x (by simp)
    have h2 := sum_le (l := l) fun y hy => h y (by simp [hy])
    rw [List.sum_cons, List.length_cons, Nat.add_mul]
    omega
theorem joinD_eq (a : Str) (ys : List Str) {m n : Nat} (hm : ∀ y ∈ ys, y.length ≤ m) (hn : ys.length ≤ n) (hb : n * m + n * a.length ≤ 100000) : joinD (.str a) (.lst (ys.map .str)) = .ok (.str (Txt.join a ys)) := by
  have h1 : (ys.map (·.length)).sum ≤ (ys.map (·.length)).length * m := sum_le fun x hx => by
    obtain ⟨y, hy, rfl⟩ := List.mem_map.mp hx
    exact hm y hy
  rw [List.length_map] at h1
  have h2 : ys.length * m ≤ n * m := Nat.mul_le_mul_right m hn
  have h3 : ys.length * a.length ≤ n * a.length := Nat.mul_le_mul_right _ hn
  simp only [joinD, strs_map]
  rw [decide_eq_true (by omega), gd_true]
def numS (i : Int) : Str := Str.ofString (toString i)
theorem tl_numS (n : Nat) : tl (numS (n : Int)) = numL n := tl_num n
theorem numL_head : ∀ n : Nat, 1 ≤ n → ∃ d r, numL n = d :: r ∧ d ≠ 48 := fun n => by
  induction n using Nat.strongRecOn with
  | _ n ih =>
    intro h1
    by_cases h : n < 10
    · exact ⟨48 + n, [], numL_lt h, by omega⟩
    · obtain ⟨d, r, e1, e2⟩ := ih (n / 10) (by omega) (by omega)
      exact ⟨d, r ++ [48 + n % 10], by rw [numL_step (by omega), e1]; rfl, e2⟩
theorem numS_len {n : Nat} (h : n ≤ 1000000000) : (numS (n : Int)).length ≤ 10 := by
  rw [len_tl, tl_numS]
  exact numL_len (by decide) (by omega)
theorem strOk_of {s : Str} (h : ∀ c ∈ tl s, c < 1114112) : PyData.strOk s = true := by
  unfold PyData.strOk
  rw [← Array.all_toList, List.all_eq_true]
  exact fun c hc => decide_eq_true (h c hc)
theorem eq_str (neg : Bool) (a b : Str) (ha : PyData.strOk a = true) (hb : PyData.strOk b = true) : eqD neg (.str a) (.str b) = .ok (.bl (neg != decide (a = b))) := by
  have sh : ∀ x : Str, PyData.strOk x = true → SeqAt.shaped (.str x) = true := fun x hx => by simp [SeqAt.shaped, PyData.canLay0, PyData.depth, hx]
  unfold eqD
  rw [toPy_str, toPy_str, sh _ ha, sh _ hb]
  show O.ok (D.bl (neg != (a == b))) = _
  rw [show (a == b) = decide (a = b) from by rw [Bool.eq_iff_iff]; simp]
theorem ends_star (s : Str) {l : List Nat} {ch : Nat} (h : tl s = l ++ [ch]) : Txt.endswith s ("*" : Str) = decide (ch = 42) := by
  have hlen : s.length = l.length + 1 := by rw [len_tl, h]; simp
  unfold Txt.endswith
  have h1 : ("*" : Str).length = 1 := rfl
  rw [h1, hlen]
  have e1 : decide (0 + 1 ≤ l.length + 1) = true := decide_eq_true (by omega)
  rw [e1, Bool.true_and]
  unfold Builtin.Str.subAt
  rw [h1, Nat.add_sub_cancel]
  have e2 : s.cps.extract l.length (l.length + 1) = #[ch] := by
    apply Array.toList_inj.mp
    rw [Array.toList_extract]
    show ((tl s).drop l.length).take (l.length + 1 - l.length) = [ch]
    rw [h]
    simp
  rw [e2]
  rw [Bool.eq_iff_iff]
  simp
  exact ⟨fun z => by
    have : (#[ch] : Array Nat) = #[42] := z
    simpa using this, fun z => by rw [z]; rfl⟩
theorem strI_eq {n : Nat} (h : n ≤ 1000000000) : strID (.int (n : Int)) = .ok (.str (numS (n : Int))) := by
  show gd (decide (((n : Int)).natAbs < 2 ^ 64)) (O.ok (D.str (numS (n : Int)))) = _
  rw [decide_eq_true (by omega), gd_true]
theorem addS_eq {a b : Str} (h : a.length + b.length ≤ 100000) : addD (.str a) (.str b) = .ok (.str (a ++ b)) := by
  show gd (decide (a.length + b.length ≤ 100000)) _ = _
  rw [decide_eq_true h, gd_true]
theorem tl_figs : tl ("0123456789" : Str) = [48, 49, 50, 51, 52, 53, 54, 55, 56, 57] := by decide +kernel
/-! words -/
theorem inb_mk {R C i j : Nat} (hi : i < R) (hj : j < C) : inb R C ((i : Int), (j : Int)) = true := by
  simp [inb]; omega
theorem cut_last (w : Str) : tl (cutS w none (some (-1))) = (tl w).take ((tl w).length - 1) := by
  show ((((tl w).drop 0).take (HT.sIx w.length w.length (some (-1)) - 0)).toArray).toList = _
  have hix : HT.sIx w.length w.length (some (-1)) = (tl w).length - 1 := by
    rw [len_tl]
    unfold HT.sIx
    simp
    omega
  rw [hix, List.drop_zero, Nat.sub_zero]
def starE (w : Str) : Bool := decide ((tl w).getLast? = some 42)
theorem ends_eq (w : Str) : endD (.str w) (.str ("*" : Str)) = .ok (.bl (starE w)) := by
  show O.ok (D.bl (Txt.endswith w ("*" : Str))) = _
  rcases List.eq_nil_or_concat (tl w) with h | ⟨l, ch, h⟩
  · have hl : w.length = 0 := by rw [len_tl, h]; rfl
    unfold starE Txt.endswith
    rw [h, hl]
    rfl
  · rw [List.concat_eq_append] at h
    rw [ends_star w h]
    unfold starE
    rw [h]
    simp
def figs (l : List Nat) : Bool := decide (l ≠ []) && decide (l.length ≤ 10) && l.all (fun c => decide (48 ≤ c) && decide (c ≤ 57)) && !(decide (1 < l.length) && decide (l.head? = some 48))
def stripW (w : Str) : Str := if starE w = true then cutS w none (some (-1)) else w
def numP (w : Str) : Option Int := if figs (tl w) = true then some ((NumText.digitsVal (tl w) : Nat) : Int) else none
def numD : Option Int → D
  | none => .non
  | some n => .int n
theorem strip_ok {w : Str} {n : Nat} (hl : w.length ≤ n) (h : ∀ c ∈ tl w, c < 1114112) : (stripW w).length ≤ n ∧ ∀ c ∈ tl (stripW w), c < 1114112 := by
  unfold stripW
  split
  · refine ⟨?_, fun c hc => h c ?_⟩
    · rw [len_tl, cut_last]
      rw [len_tl] at hl
      rw [List.length_take]
      omega
    · rw [cut_last] at hc
      exact List.mem_of_mem_take hc
  · exact ⟨hl, h⟩
/-- the signs of a word, one by one -/
theorem signs_go {r : D} {g : SF} {W : D} (hg : ∀ ch : Nat, g [some W, some (.str ⟨#[ch]⟩)] = if 48 ≤ ch ∧ ch ≤ 57 then .ok (.nx [some W, some (.str ⟨#[ch]⟩)]) else .ok (.rt r [some W, some (.str ⟨#[ch]⟩)])) :
    ∀ (l : List Nat) (x : Option D), ∃ y, sFor.go (gN 1) g (l.map fun ch => .str ⟨#[ch]⟩) [some W, x] = if l.all (fun c => decide (48 ≤ c) && decide (c ≤ 57)) = true then .ok (.nx [some W, y]) else .ok (.rt r [some W, y])
  | [], x => ⟨x, rfl⟩
  | ch :: l, x => by
    have hgn : gN 1 (.str ⟨#[ch]⟩) [some W, x] = .ok [some W, some (.str ⟨#[ch]⟩)] := by simp
    rw [List.map_cons]
    by_cases h : 48 ≤ ch ∧ ch ≤ 57
    · obtain ⟨y, hy⟩ := signs_go hg l (some (.str ⟨#[ch]⟩))
      refine ⟨y, ?_⟩
      unfold sFor.go
      rw [hgn, O.bind_ok, hg ch, if_pos h, O.bind_ok]
      show sFor.go (gN 1) g _ _ = _
      rw [hy]
      simp [h.1, h.2]
    · refine ⟨some (.str ⟨#[ch]⟩), ?_⟩
      unfold sFor.go
      rw [hgn, O.bind_ok, hg ch, if_neg h, O.bind_ok]
      have : (decide (48 ≤ ch) && decide (ch ≤ 57)) = false := by
        rw [Bool.and_eq_false_iff, decide_eq_false_iff_not, decide_eq_false_iff_not]; omega
      rw [List.all_cons, this]
      rfl
theorem fig_in (ch : Nat) : inS true (.str ⟨#[ch]⟩) (.str ("0123456789" : Str)) = .ok (.bl (!decide (48 ≤ ch ∧ ch ≤ 57))) := by
  show O.ok (D.bl (true != decide (ch ∈ tl ("0123456789" : Str)))) = _
  rw [tl_figs, Bool.true_bne]
  congr 3
  rw [Bool.eq_iff_iff, decide_eq_true_eq, decide_eq_true_eq]
  simp
  omega
theorem eq_empty {w : Str} (h : ∀ c ∈ tl w, c < 1114112) : eqD false (.str w) (.str ("" : Str)) = .ok (.bl (decide (tl w = []))) := by
  rw [eq_str _ _ _ (strOk_of h) (by decide +kernel), Bool.false_bne]
  congr 2
  rw [Bool.eq_iff_iff, decide_eq_true_eq, decide_eq_true_eq]
  exact ⟨fun e => by rw [e]; rfl, fun e => ext_tl (e.trans rfl)⟩
theorem len_w {w : Str} (hl : w.length ≤ 50000) : lenD (.str w) = .ok (.int ((tl w).length : Int)) := by
  show gd (decide (w.length ≤ 100000)) (O.ok (D.int (w.length : Int))) = _
  rw [decide_eq_true (by omega), gd_true, len_tl]
theorem ix0_w {w : Str} (hl : w.length ≤ 50000) {d : Nat} {r : List Nat} (h : tl w = d :: r) : ixD (.str w) (.int 0) = .ok (.str ⟨#[d]⟩) := by
  show ((ofO (atI w.cps.toList 0)).bind fun ch => gd (decide (w.length ≤ 100000)) (O.ok (D.str ⟨#[ch]⟩))) = _
  rw [show w.cps.toList = d :: r from h, atI_zero, ofO_some, O.bind_ok, decide_eq_true (by omega), gd_true]
theorem eq_one {d : Nat} (hd : d < 1114112) (e : Nat) (he : e < 1114112) : eqD false (.str ⟨#[d]⟩) (.str ⟨#[e]⟩) = .ok (.bl (decide (d = e))) := by
  rw [eq_str _ _ _ (strOk_of fun c hc => by have : c ∈ [d] := hc; simp at this; omega) (strOk_of fun c hc => by have : c ∈ [e] := hc; simp at this; omega), Bool.false_bne]
  congr 2
  rw [Bool.eq_iff_iff, decide_eq_true_eq, decide_eq_true_eq]
  constructor
  · intro h
    have : [d] = [e] := congrArg tl h
    simpa using this
  · intro h; rw [h]
theorem int_w {w : Str} (h : (tl w).all (fun c => decide (48 ≤ c) && decide (c ≤ 57)) = true) (hne : tl w ≠ []) (hl : (tl w).length ≤ 10) : intSD (.str w) = .ok (.int ((NumText.digitsVal (tl w) : Nat) : Int)) := by
  have h1 : PySem.intText? w = some ((NumText.digitsVal (tl w) : Nat) : Int) := PySem.intText_digits (fun c hc => by
    have := List.all_eq_true.mp h c hc
    simpa using this) hne (by rw [len_tl]; omega)
  simp only [intSD, h1]
  rw [decide_eq_true (by rw [len_tl]; omega), gd_true]
theorem number_eq {w : Str} (hl : w.length ≤ 50000) (h : ∀ c ∈ tl w, c < 1114112) : F_number_of [.str w] = .ok (numD (numP w)) := by
  have q1 := eq_empty h
  have q2 := len_w hl
  obtain ⟨n, hn⟩ : ∃ n, (tl w).length = n := ⟨_, rfl⟩
  rw [hn] at q2
  obtain ⟨y, hgo⟩ := signs_go (W := .str w) (r := .non) (g := g_number_of_1) (fun ch => by
    have := fig_in ch
    unfold g_number_of_1
    by_cases hc : 48 ≤ ch ∧ ch ≤ 57
    · rw [if_pos hc]
      rw [decide_eq_true hc] at this
      generalize D.str w = W at *
      simp [this]
    · rw [if_neg hc]
      rw [decide_eq_false hc] at this
      generalize D.str w = W at *
      simp [this]) (tl w) none
  have hsq : iSeq (eVar 0) [some (.str w), none] = .ok ((tl w).map fun ch => .str ⟨#[ch]⟩) := rfl
  unfold numP figs
  rw [hn]
  by_cases h1 : tl w = []
  · rw [h1]
    refine runF_rt rfl (by decide) (ρ := [some (.str w), none]) ?_
    unfold g_number_of
    refine seq_rt ?_
    rw [decide_eq_true h1] at q1
    generalize D.str w = W at *
    simp [startD, q1, numD]
  · rw [decide_eq_false h1] at q1
    by_cases h2 : n ≤ 10
    · have e2 : ¬ (10 : Int) < (n : Int) := by omega
      cases h3 : (tl w).all (fun c => decide (48 ≤ c) && decide (c ≤ 57)) with
      | false =>
        rw [h3] at hgo
        refine runF_rt rfl (by decide) (ρ := [some (.str w), y]) ?_
        unfold g_number_of
        refine seq_to (ρ1 := [some (.str w), none]) ?_ ?_
        · generalize D.str w = W at *
          simp [startD, q1, q2, e2]
        · refine seq_rt ((sFor_eq hsq hgo).trans ?_)
          simp [numD]
      | true =>
        rw [h3] at hgo
        obtain ⟨d, r, hdr⟩ := List.exists_cons_of_ne_nil h1
        have hd : d < 1114112 := h d (by rw [hdr]; simp)
        have q3 := ix0_w hl hdr
        have q4 : eqD false (.str ⟨#[d]⟩) (.str ("0" : Str)) = .ok (.bl (decide (d = 48))) := eq_one hd 48 (by decide)
        have q5 := int_w h3 h1 (by rw [hn]; exact h2)
        have hh : decide ((tl w).head? = some 48) = decide (d = 48) := by rw [hdr]; simp
        rw [decide_eq_true h2, hh, decide_eq_true h1]
        refine runF_rt rfl (by decide) (ρ := [some (.str w), y]) ?_
        unfold g_number_of
        refine seq_to (ρ1 := [some (.str w), none]) ?_ (seq_to (ρ1 := [some (.str w), y]) ((sFor_eq hsq hgo).trans rfl) ?_)
        · generalize D.str w = W at *
          simp [startD, q1, q2, e2]
        · by_cases h4 : d = 48 ∧ 1 < n
          · have e4 : (1 : Int) < (n : Int) := by omega
            have e6 : (!(decide (1 < n) && decide (d = 48))) = false := by rw [decide_eq_true h4.1, decide_eq_true h4.2]; rfl
            rw [decide_eq_true h4.1] at q4
            rw [e6]
            refine seq_rt ?_
            generalize D.str w = W at *
            simp [q2, q3, q4, e4, numD]
          · have e5 : (!(decide (1 < n) && decide (d = 48))) = true := by
              rw [Bool.not_eq_true', Bool.and_eq_false_iff, decide_eq_false_iff_not, decide_eq_false_iff_not]; omega
            rw [e5]
            refine seq_to (ρ1 := [some (.str w), y]) ?_ (ret_eq (by
              rw [e1_ap]
              simp only [eVar_s, eVar_zs, O.bind_ok, q5]
              rfl))
            by_cases h5 : d = 48
            · have e4 : ¬ (1 : Int) < (n : Int) := by omega
              rw [decide_eq_true h5] at q4
              generalize D.str w = W at *
              simp [q2, q3, q4, e4]
            · rw [decide_eq_false h5] at q4
              generalize D.str w = W at *
              simp [q3, q4]
    · have e2 : (10 : Int) < (n : Int) := by omega
      refine runF_rt rfl (by decide) (ρ := [some (.str w), none]) ?_
      unfold g_number_of
      refine seq_rt ?_
      rw [decide_eq_false h2]
      generalize D.str w = W at *
      simp [startD, q1, q2, e2, numD]
/-! the law's height of a word -/
def cellL (w : Str) : Option Int := if w = ("#" : Str) then none else match numP (stripW w) with
  | none => some (-1)
  | some n => if 1000000000 < n then some (-1) else some n
theorem eq_stone {w : Str} (h : ∀ c ∈ tl w, c < 1114112) : eqD false (.str w) (.str ("#" : Str)) = .ok (.bl (decide (w = ("#" : Str)))) := by
  rw [eq_str _ _ _ (strOk_of h) (by decide +kernel), Bool.false_bne]
theorem ixl_w {w : Str} (hl : w.length ≤ 50000) {l : List Nat} {d : Nat} (h : tl w = l ++ [d]) : ixD (.str w) (.int (-1)) = .ok (.str ⟨#[d]⟩) := by
  show ((ofO (atI w.cps.toList (-1))).bind fun ch => gd (decide (w.length ≤ 100000)) (O.ok (D.str ⟨#[ch]⟩))) = _
  rw [show w.cps.toList = l ++ [d] from h, show atI (l ++ [d]) (-1) = some d from by
    have h1 : (1 : Int) ≤ (l.length : Int) + 1 := by omega
    have h2 : (-1 + ((l.length : Int) + 1)).toNat = l.length := by omega
    unfold atI ixN
    simp [h1, h2], ofO_some, O.bind_ok, decide_eq_true (by omega), gd_true]
theorem star_split {w : Str} : (tl w = [] ∧ starE w = false) ∨ ∃ l d, tl w = l ++ [d] ∧ starE w = decide (d = 42) := by
  rcases List.eq_nil_or_concat (tl w) with h | ⟨l, d, h⟩
  · refine .inl ⟨h, ?_⟩
    unfold starE
    rw [h]; rfl
  · rw [List.concat_eq_append] at h
    refine .inr ⟨l, d, h, ?_⟩
    unfold starE
    rw [h]
    simp
/-- its last sign, where it has one -/
theorem last_star {w : Str} (hl : w.length ≤ 50000) (h : ∀ c ∈ tl w, c < 1114112) (hne : tl w ≠ []) : ∃ d, ixD (.str w) (.int (-1)) = .ok d ∧ eqD false d (.str ("*" : Str)) = .ok (.bl (starE w)) := by
  rcases star_split (w := w) with ⟨h0, _⟩ | ⟨l, d, hd, hs⟩
  · exact absurd h0 hne
  · refine ⟨_, ixl_w hl hd, ?_⟩
    rw [hs]
    exact eq_one (h d (by rw [hd]; simp)) 42 (by decide)
theorem hgt_rest {u : Str} (hl : u.length ≤ 50000) (h : ∀ c ∈ tl u, c < 1114112) : ∃ ρ', (sSeq (sIf (tOrF (tE (e2 (eqD false) (e1 lenD (eVar 0)) (eC (.int 0)))) (tOrF (tE (e2 gtD (e1 lenD (eVar 0)) (eC (.int 10)))) (tAndF (tE (e2 gtD (e1 lenD (eVar 0)) (eC (.int 1)))) (tE (e2 (eqD false) (e2 ixD (eVar 0) (eC (.int 0))) (eC (.str "0"))))))) (sRet (e1 negD (eC (.int 1)))) sNx)
    (sSeq (sFor (iSeq (eVar 0)) (gN 1) g_law_height_of_1)
    (sSeq (sIf (tE (e2 gtD (e1 intSD (eVar 0)) (eC (.int 1000000000)))) (sRet (e1 negD (eC (.int 1)))) sNx)
    (sRet (e1 intSD (eVar 0)))))) [some (.str u), none] = .ok (.rt (hD (match numP u with
      | none => some (-1)
      | some n => if 1000000000 < n then some (-1) else some n)) ρ') := by
  have q2 := len_w hl
  obtain ⟨n, hn⟩ : ∃ n, (tl u).length = n := ⟨_, rfl⟩
  rw [hn] at q2
  obtain ⟨y, hgo⟩ := signs_go (W := .str u) (r := .int (-1)) (g := g_law_height_of_1) (fun ch => by
    have := fig_in ch
    unfold g_law_height_of_1
    by_cases hc : 48 ≤ ch ∧ ch ≤ 57
    · rw [if_pos hc]
      rw [decide_eq_true hc] at this
      generalize D.str u = W at *
      simp [this]
    · rw [if_neg hc]
      rw [decide_eq_false hc] at this
      generalize D.str u = W at *
      simp [this]) (tl u) none
  have hsq : iSeq (eVar 0) [some (.str u), none] = .ok ((tl u).map fun ch => .str ⟨#[ch]⟩) := rfl
  have hneg : hD (some (-1)) = .int (-1) := rfl
  unfold numP figs
  rw [hn]
  by_cases h1 : tl u = []
  · have h0 : n = 0 := by rw [← hn, h1]; rfl
    subst h0
    rw [h1]
    refine ⟨[some (.str u), none], seq_rt ?_⟩
    generalize D.str u = W at *
    simp [q2, hneg]
  · have h0 : ¬ n = 0 := fun z => h1 (List.eq_nil_of_length_eq_zero (by rw [hn, z]))
    have h0' : ¬ (n : Int) = 0 := by omega
    rw [decide_eq_true h1]
    by_cases h2 : n ≤ 10
    · have g10 : ¬ (10 : Int) < (n : Int) := by omega
      obtain ⟨d, r, hdr⟩ := List.exists_cons_of_ne_nil h1
      have hd : d < 1114112 := h d (by rw [hdr]; simp)
      have q3 := ix0_w hl hdr
      have q4 : eqD false (.str ⟨#[d]⟩) (.str ("0" : Str)) = .ok (.bl (decide (d = 48))) := eq_one hd 48 (by decide)
      have hh : decide ((tl u).head? = some 48) = decide (d = 48) := by rw [hdr]; simp
      rw [decide_eq_true h2, hh]
      by_cases h4 : d = 48 ∧ 1 < n
      · have e4 : (1 : Int) < (n : Int) := by omega
        have e6 : (!(decide (1 < n) && decide (d = 48))) = false := by rw [decide_eq_true h4.1, decide_eq_true h4.2]; rfl
        rw [decide_eq_true h4.1] at q4
        rw [e6]
        refine ⟨[some (.str u), none], seq_rt ?_⟩
        generalize D.str u = W at *
        simp [q2, q3, q4, e4, g10, h0', h0, hneg]
      · have e5 : (!(decide (1 < n) && decide (d = 48))) = true := by
          rw [Bool.not_eq_true', Bool.and_eq_false_iff, decide_eq_false_iff_not, decide_eq_false_iff_not]; omega
        have first : (sIf (tOrF (tE (e2 (eqD false) (e1 lenD (eVar 0)) (eC (.int 0)))) (tOrF (tE (e2 gtD (e1 lenD (eVar 0)) (eC (.int 10)))) (tAndF (tE (e2 gtD (e1 lenD (eVar 0)) (eC (.int 1)))) (tE (e2 (eqD false) (e2 ixD (eVar 0) (eC (.int 0))) (eC (.str "0"))))))) (sRet (e1 negD (eC (.int 1)))) sNx) [some (.str u), none] = .ok (.nx [some (.str u), none]) := by
          by_cases h5 : d = 48
          · have e4 : ¬ (1 : Int) < (n : Int) := by omega
            generalize D.str u = W at *
            simp [q2, e4, g10, h0', h0]
          · rw [decide_eq_false h5] at q4
            by_cases e4 : (1 : Int) < (n : Int)
            · generalize D.str u = W at *
              simp [q2, q3, q4, e4, g10, h0', h0]
            · generalize D.str u = W at *
              simp [q2, e4, g10, h0', h0]
        rw [e5]
        cases h3 : (tl u).all (fun c => decide (48 ≤ c) && decide (c ≤ 57)) with
        | false =>
          rw [h3] at hgo
          refine ⟨[some (.str u), y], seq_to first (seq_rt ((sFor_eq hsq hgo).trans ?_))⟩
          simp [hneg]
        | true =>
          rw [h3] at hgo
          have q5 := int_w h3 h1 (by rw [hn]; exact h2)
          generalize ((NumText.digitsVal (tl u) : Nat) : Int) = v at *
          refine ⟨[some (.str u), y], seq_to first (seq_to (ρ1 := [some (.str u), y]) ((sFor_eq hsq hgo).trans rfl) ?_)⟩
          by_cases hv : (1000000000 : Int) < v
          · refine seq_rt ?_
            generalize D.str u = W at *
            simp [q5, hv, hneg]
          · refine seq_to (ρ1 := [some (.str u), y]) ?_ (ret_eq ?_)
            · generalize D.str u = W at *
              simp [q5, hv]
            · rw [e1_ap]
              simp only [eVar_s, eVar_zs, O.bind_ok, q5]
              simp [hv, hD]
    · have g10 : (10 : Int) < (n : Int) := by omega
      rw [decide_eq_false h2]
      refine ⟨[some (.str u), none], seq_rt ?_⟩
      generalize D.str u = W at *
      simp [q2, g10, h0', h0, hneg]
theorem hgt_eq {w : Str} (hl : w.length ≤ 50000) (h : ∀ c ∈ tl w, c < 1114112) : F_law_height_of [.str w] = .ok (hD (cellL w)) := by
  have q1 := eq_stone h
  have q2 := len_w hl
  by_cases hw : w = ("#" : Str)
  · refine runF_rt rfl (by decide) (ρ := [some (.str w), none]) ?_
    rw [decide_eq_true hw] at q1
    unfold g_law_height_of
    refine seq_rt ?_
    unfold cellL
    rw [if_pos hw]
    generalize D.str w = W at *
    simp [startD, q1, hD]
  · rw [decide_eq_false hw] at q1
    obtain ⟨s1, s2⟩ := strip_ok hl h
    obtain ⟨ρ', hr⟩ := hgt_rest s1 s2
    refine runF_rt rfl (by decide) (ρ := ρ') ?_
    unfold g_law_height_of cellL
    rw [if_neg hw]
    refine seq_to (ρ1 := [some (.str w), none]) ?_ (seq_to (ρ1 := [some (.str (stripW w)), none]) ?_ hr)
    · generalize D.str w = W at *
      simp [startD, q1]
    · have hcut : eSlS (eVar 0) pNo (pSo (e1 negD (eC (.int 1)))) [some (.str w), none] = .ok (.str (cutS w none (some (-1)))) := by
        show gd (decide (w.length ≤ 100000)) (O.ok (D.str (cutS w none (some (-1))))) = _
        rw [decide_eq_true (by omega), gd_true]
      by_cases h0 : tl w = []
      · have hs : starE w = false := by unfold starE; rw [h0]; rfl
        have q2' : lenD (.str w) = .ok (.int 0) := by rw [q2, h0]; rfl
        unfold stripW
        rw [hs]
        simp only [Bool.false_eq_true, if_false]
        generalize D.str w = W at *
        simp [q2']
      · obtain ⟨d, h3, h4⟩ := last_star hl h h0
        have e0 : (0 : Int) < ((tl w).length : Int) := by
          have := List.length_pos_iff.mpr h0
          omega
        have ht : (tAndF (tE (e2 gtD (e1 lenD (eVar 0)) (eC (.int 0)))) (tE (e2 (eqD false) (e2 ixD (eVar 0) (e1 negD (eC (.int 1)))) (eC (.str "*"))))) [some (.str w), none] = .ok (starE w) := by
          generalize ((tl w).length : Int) = n at *
          generalize starE w = b at *
          generalize D.str w = W at *
          simp [q2, e0, h3, h4]
        rw [sIf_ap, ht, O.bind_ok]
        unfold stripW
        cases hs : starE w with
        | false => rfl
        | true => exact (set_eq (i := 0) hcut (by simp)).trans rfl
/-! lines and words -/
theorem spl1 {s : Nat} : ∀ (l acc : List Nat), spl [s] 0 acc l ≠ [] ∧ (∀ p ∈ spl [s] 0 acc l, ∀ c ∈ p, c ∈ acc ∨ c ∈ l) ∧ ((spl [s] 0 acc l).map fun p => p.length + 1).sum = acc.length + l.length + 1
  | [], acc => by
    rw [spl_nil]
    refine ⟨by simp, fun p hp c hc => ?_, by simp⟩
    have : p = acc := by simpa using hp
    rw [this] at hc; exact .inl hc
  | c :: r, acc => by
    by_cases h : pre [s] (c :: r) = true
    · rw [spl_hit h]
      obtain ⟨h1, h2, h3⟩ := spl1 (s := s) r []
      refine ⟨by simp, fun p hp x hx => ?_, ?_⟩
      · rcases List.mem_cons.mp hp with e | e
        · rw [e] at hx; exact .inl hx
        · rcases h2 p e x hx with h | h
          · simp at h
          · exact .inr (List.mem_cons_of_mem _ h)
      · rw [List.map_cons, List.sum_cons]
        have h3' : ((spl [s] 0 [] r).map fun p => p.length + 1).sum = 0 + r.length + 1 := h3
        show acc.length + 1 + ((spl [s] 0 [] r).map fun p => p.length + 1).sum = _
        rw [h3', List.length_cons]
        omega
    · rw [spl_miss (by simpa using h)]
      obtain ⟨h1, h2, h3⟩ := spl1 (s := s) r (acc ++ [c])
      refine ⟨h1, fun p hp x hx => ?_, ?_⟩
      · rcases h2 p hp x hx with h | h
        · rcases List.mem_append.mp h with h | h
          · exact .inl h
          · have : x = c := by simpa using h
            rw [this]; exact .inr (by simp)
        · exact .inr (List.mem_cons_of_mem _ h)
      · rw [h3, List.length_append, List.length_cons, List.length_cons, List.length_nil]; omega
theorem split1 (t y : Str) {s : Nat} (hy : tl y = [s]) (hs : y.cps.all (· < 256) = true) : Txt.split t y ≠ [] ∧ (∀ p ∈ Txt.split t y, ∀ c ∈ tl p, c ∈ tl t) ∧ ((Txt.split t y).map fun p => p.length + 1).sum = t.length + 1 := by
  have e := split_spl t y (by rw [hy]; simp) (kind_ok hs)
  rw [hy] at e
  obtain ⟨h1, h2, h3⟩ := spl1 (s := s) (tl t) []
  rw [← e] at h1 h2 h3
  refine ⟨fun z => h1 (by rw [z]; rfl), fun p hp c hc => ?_, ?_⟩
  · rcases h2 (tl p) (List.mem_map.mpr ⟨p, hp, rfl⟩) c hc with h | h
    · simp at h
    · exact h
  · rw [List.map_map] at h3
    rw [len_tl]
    rw [List.length_nil, Nat.zero_add] at h3
    rw [← h3]
    congr 1
theorem sum_mem {l : List Nat} {x : Nat} (h : x ∈ l) : x ≤ l.sum := by
  induction l with
  | nil => simp at h
  | cons a l ih =>
    rw [List.sum_cons]
    rcases List.mem_cons.mp h with e | e
    · omega
    · have := ih e; omega
theorem sum_map_le {α : Type} {f g : α → Nat} {l : List α} (h : ∀ a ∈ l, f a ≤ g a) : (l.map f).sum ≤ (l.map g).sum := by
  induction l with
  | nil => simp
  | cons a l ih =>
    rw [List.map_cons, List.map_cons, List.sum_cons, List.sum_cons]
    have := h a (by simp)
    have := ih fun b hb => h b (List.mem_cons_of_mem _ hb)
    omega
theorem sum_one {α : Type} (l : List α) (f : α → Nat) : l.length ≤ (l.map fun a => f a + 1).sum := by
  induction l with
  | nil => simp
  | cons a l ih =>
    rw [List.map_cons, List.sum_cons, List.length_cons]; omega
def linesT (t : Str) : List Str := Txt.split t ("\n" : Str)
def wordsT (p : Str) : List Str := Txt.split p (" " : Str)
theorem tl_nl : tl ("\n" : Str) = [10] := by decide +kernel
theorem tl_bl : tl (" " : Str) = [32] := by decide +kernel
/-- what is known of a text -/
structure TOk (n : Nat) (t : Str) : Prop where
  l : t.length ≤ n
  c : ∀ c ∈ tl t, c < 1114112
section
variable {n : Nat} {t : Str}
theorem lines_ok (h : TOk n t) : linesT t ≠ [] ∧ (∀ p ∈ linesT t, TOk n p) ∧ ((linesT t).map fun p => p.length + 1).sum ≤ n + 1 := by
  obtain ⟨h1, h2, h3⟩ := split1 t ("\n" : Str) tl_nl (by decide +kernel)
  refine ⟨h1, fun p hp => ⟨?_, fun c hc => h.c c (h2 p hp c hc)⟩, ?_⟩
  · have := sum_mem (List.mem_map.mpr ⟨p, hp, rfl⟩ : (fun p : Str => p.length + 1) p ∈ (Txt.split t ("\n" : Str)).map fun p => p.length + 1)
    rw [h3] at this
    have h4 : p.length + 1 ≤ t.length + 1 := this
    have := h.l
    omega
  · show ((Txt.split t ("\n" : Str)).map fun p => p.length + 1).sum ≤ _
    rw [h3]
    have := h.l
    omega
theorem words_ok (h : TOk n t) : wordsT t ≠ [] ∧ (∀ p ∈ wordsT t, TOk n p) ∧ (wordsT t).length ≤ t.length + 1 := by
  obtain ⟨h1, h2, h3⟩ := split1 t (" " : Str) tl_bl (by decide +kernel)
  refine ⟨h1, fun p hp => ⟨?_, fun c hc => h.c c (h2 p hp c hc)⟩, ?_⟩
  · have := sum_mem (List.mem_map.mpr ⟨p, hp, rfl⟩ : (fun p : Str => p.length + 1) p ∈ (Txt.split t (" " : Str)).map fun p => p.length + 1)
    rw [h3] at this
    have h4 : p.length + 1 ≤ t.length + 1 := this
    have := h.l
    omega
  · have := sum_one (Txt.split t (" " : Str)) fun p => p.length
    rw [h3] at this
    exact this
def LLt (t : Str) : List (List Str) := (linesT t).map wordsT
theorem LL_ok (h : TOk n t) : LLt t ≠ [] ∧ (∀ ws ∈ LLt t, ws ≠ [] ∧ ∀ w ∈ ws, TOk n w) ∧ ((LLt t).map List.length).sum ≤ n + 1 ∧ (LLt t).length ≤ n + 1 := by
  obtain ⟨h1, h2, h3⟩ := lines_ok h
  refine ⟨fun z => h1 (by simpa [LLt] using z), fun ws hw => ?_, ?_, ?_⟩
  · obtain ⟨p, hp, rfl⟩ := List.mem_map.mp hw
    obtain ⟨g1, g2, _⟩ := words_ok (h2 p hp)
    exact ⟨g1, g2⟩
  · unfold LLt
    rw [List.map_map]
    exact Nat.le_trans (sum_map_le fun p hp => (words_ok (h2 p hp)).2.2) h3
  · unfold LLt
    rw [List.length_map]
    exact Nat.le_trans (sum_one _ _) h3
theorem split_n (h : TOk n t) (hn : n ≤ 100000) : splitD (.str t) (.str ("\n" : Str)) = .ok (.lst ((linesT t).map .str)) := by
  show gd ((!(("\n" : Str).length == 0)) && decide (t.length ≤ 100000)) _ = _
  have := h.l
  rw [decide_eq_true (by omega)]
  rfl
theorem split_b (h : TOk n t) (hn : n ≤ 100000) : splitD (.str t) (.str (" " : Str)) = .ok (.lst ((wordsT t).map .str)) := by
  show gd ((!((" " : Str).length == 0)) && decide (t.length ≤ 100000)) _ = _
  have := h.l
  rw [decide_eq_true (by omega)]
  rfl
end
/-! cells of starred words -/
def stR (star : Str → Bool) (i : Nat) : Nat → List Str → List Cell
  | _, [] => []
  | j, w :: ws => (if star w = true then [((i : Int), (j : Int))] else []) ++ stR star i (j + 1) ws
def stA (star : Str → Bool) : Nat → List (List Str) → List Cell
  | _, [] => []
  | i, ws :: r => stR star i 0 ws ++ stA star (i + 1) r
theorem stR_snoc (star : Str → Bool) (i : Nat) (w : Str) : ∀ (ws : List Str) (j : Nat), stR star i j (ws ++ [w]) = stR star i j ws ++ (if star w = true then [((i : Int), ((j + ws.length : Nat) : Int))] else [])
  | [], j => by simp [stR]
  | x :: ws, j => by
    rw [List.cons_append]
    show (if star x = true then _ else _) ++ stR star i (j + 1) (ws ++ [w]) = (if star x = true then _ else _) ++ stR star i (j + 1) ws ++ _
    rw [stR_snoc star i w ws (j + 1), List.append_assoc, List.length_cons, show j + 1 + ws.length = j + (ws.length + 1) from by omega]
theorem stA_snoc (star : Str → Bool) (ws : List Str) : ∀ (L : List (List Str)) (i : Nat), stA star i (L ++ [ws]) = stA star i L ++ stR star (i + L.length) 0 ws
  | [], i => by simp [stA]
  | x :: L, i => by
    rw [List.cons_append]
    show stR star i 0 x ++ stA star (i + 1) (L ++ [ws]) = stR star i 0 x ++ stA star (i + 1) L ++ _
    rw [stA_snoc star ws L (i + 1), List.append_assoc, List.length_cons, show i + 1 + L.length = i + (L.length + 1) from by omega]
theorem stR_len (star : Str → Bool) (i : Nat) : ∀ (ws : List Str) (j : Nat), (stR star i j ws).length ≤ ws.length
  | [], j => by simp [stR]
  | w :: ws, j => by
    have := stR_len star i ws (j + 1)
    show ((if star w = true then [((i : Int), (j : Int))] else []) ++ stR star i (j + 1) ws).length ≤ _
    rw [List.length_append, List.length_cons]
    split <;> simp <;> omega
theorem stA_len (star : Str → Bool) : ∀ (L : List (List Str)) (i : Nat), (stA star i L).length ≤ (L.map List.length).sum
  | [], i => by simp [stA]
  | ws :: L, i => by
    have h1 := stA_len star L (i + 1)
    have h2 := stR_len star i ws 0
    show (stR star i 0 ws ++ stA star (i + 1) L).length ≤ _
    rw [List.length_append, List.map_cons, List.sum_cons]
    omega
theorem stR_congr {star star' : Str → Bool} (i : Nat) : ∀ (ws : List Str) (j : Nat), (∀ w ∈ ws, star w = star' w) → stR star i j ws = stR star' i j ws
  | [], j, _ => rfl
  | w :: ws, j, h => by
    show (if star w = true then _ else _) ++ stR star i (j + 1) ws = (if star' w = true then _ else _) ++ stR star' i (j + 1) ws
    rw [h w (by simp), stR_congr i ws (j + 1) fun x hx => h x (List.mem_cons_of_mem _ hx)]
theorem stA_congr {star star' : Str → Bool} : ∀ (L : List (List Str)) (i : Nat), (∀ ws ∈ L, ∀ w ∈ ws, star w = star' w) → stA star i L = stA star' i L
  | [], i, _ => rfl
  | ws :: L, i, h => by
    show stR star i 0 ws ++ stA star (i + 1) L = stR star' i 0 ws ++ stA star' (i + 1) L
    rw [stR_congr i ws 0 (h ws (by simp)), stA_congr L (i + 1) fun x hx => h x (List.mem_cons_of_mem _ hx)]
theorem stR_filter {star : Str → Bool} {q : Cell → Bool} (i : Nat) : ∀ (ws : List Str) (j : Nat), (∀ k w, ws[k]? = some w → q ((i : Int), ((j + k : Nat) : Int)) = star w) → stR star i j ws = ((List.range' j ws.length).map fun (c : Nat) => ((i : Int), (c : Int))).filter q
  | [], j, _ => rfl
  | w :: ws, j, h => by
    have h0 : q ((i : Int), (j : Int)) = star w := h 0 w rfl
    show (if star w = true then [((i : Int), (j : Int))] else []) ++ stR star i (j + 1) ws = _
    rw [stR_filter i ws (j + 1) fun k x hx => by rw [show j + 1 + k = j + (k + 1) from by omega]; exact h (k + 1) x (by simpa using hx)]
    rw [List.length_cons, List.range'_succ, List.map_cons, List.filter_cons, h0]
    split <;> simp
theorem stA_filter {star : Str → Bool} {q : Cell → Bool} {C : Nat} : ∀ (L : List (List Str)) (i : Nat), (∀ ws ∈ L, ws.length = C) → (∀ k ws, L[k]? = some ws → ∀ (j : Nat) w, ws[j]? = some w → q (((i + k : Nat) : Int), (j : Int)) = star w) → stA star i L = (blkc C (List.range' i L.length)).filter q
  | [], i, _, _ => rfl
  | ws :: L, i, hc, h => by
    show stR star i 0 ws ++ stA star (i + 1) L = _
    rw [stA_filter (C := C) L (i + 1) (fun x hx => hc x (List.mem_cons_of_mem _ hx)) fun k x hx j w hw => by rw [show i + 1 + k = i + (k + 1) from by omega]; exact h (k + 1) x (by simpa using hx) j w hw]
    rw [stR_filter (q := q) i ws 0 fun k w hw => by rw [Nat.zero_add]; exact h 0 ws rfl k w hw]
    rw [hc ws (by simp), List.length_cons, List.range'_succ]
    show _ = ((rowc C i :: (List.range' (i + 1) L.length).map (rowc C)).flatten).filter q
    rw [List.flatten_cons, List.filter_append]
    have : rowc C i = (List.range' 0 C).map fun (c : Nat) => ((i : Int), (c : Int)) := by unfold rowc; rw [List.range_eq_range']
    rw [this]
    rfl
/-- a loop that goes on over what is good, and ends at what is not -/
theorem for_or {β : Type} {s : D → Rho → O Rho} {g : SF} (e : β → D) {I : List β → Rho → Prop} {E : O Out → Prop} (hE : ∀ r, E r → (∃ k, r = .exc k) ∨ (∃ d ρ, r = .ok (.rt d ρ))) (good : β → Bool) : ∀ (l pre : List β) (ρ : Rho),
    (∀ p b q, pre ++ l = p ++ b :: q → ∀ ρ, I p ρ → if good b = true then ∃ ρ', (((s (e b) ρ).bind g) = .ok (.nx ρ') ∨ ((s (e b) ρ).bind g) = .ok (.ct ρ')) ∧ I (p ++ [b]) ρ' else E ((s (e b) ρ).bind g)) → I pre ρ →
    if l.all good = true then ∃ ρ', sFor.go s g (l.map e) ρ = .ok (.nx ρ') ∧ I (pre ++ l) ρ' else E (sFor.go s g (l.map e) ρ)
  | [], pre, ρ, _, h => by
    rw [if_pos (by rfl)]
    exact ⟨ρ, rfl, by simpa using h⟩
  | b :: l, pre, ρ, hs, h => by
    have h1 := hs pre b l rfl ρ h
    have step : ∀ r, ((s (e b) ρ).bind g) = r → sFor.go s g ((b :: l).map e) ρ = r.bind fun out => match out with
        | .nx ρ2 => sFor.go s g (l.map e) ρ2
        | .ct ρ2 => sFor.go s g (l.map e) ρ2
        | .bk ρ2 => .ok (.nx ρ2)
        | .rt d ρ2 => .ok (.rt d ρ2)
        | .ex k ρ2 => .ok (.ex k ρ2) := fun r hr => by
      rw [List.map_cons, sFor.go, ← hr]
      cases s (e b) ρ <;> rfl
    rw [List.all_cons]
    cases hg : good b with
    | false =>
      rw [hg, if_neg (by decide)] at h1
      rw [Bool.false_and, if_neg (by decide), step _ rfl]
      rcases hE _ h1 with ⟨k, hk⟩ | ⟨d, ρ', hk⟩
      · rw [hk] at h1 ⊢; exact h1
      · rw [hk] at h1 ⊢; exact h1
    | true =>
      rw [hg, if_pos rfl] at h1
      obtain ⟨ρ1, h1, h2⟩ := h1
      have ih := for_or (g := g) e hE good l (pre ++ [b]) ρ1 (fun p b' q e' => hs p b' q (by rw [← e']; simp)) h2
      have : sFor.go s g ((b :: l).map e) ρ = sFor.go s g (l.map e) ρ1 := by
        rcases h1 with h1 | h1 <;> rw [step _ h1] <;> rfl
      rw [this, Bool.true_and]
      rw [List.append_assoc] at ih
      exact ih
/-! what the law finds -/
theorem in_hD (neg : Bool) (c : Option Int) (l : List (Option Int)) : inL neg (hD c) (.lst (l.map hD)) = .ok (.bl (neg != decide (c ∈ l))) := by
  unfold inL
  have h1 : SeqAt.shaped (toPy (hD c)) = true := by
    obtain ⟨a, b⟩ := lay_hD c
    simp only [SeqAt.shaped, a, Bool.true_and, decide_eq_true_eq]
    omega
  obtain ⟨h3, h4⟩ := laid_list hD 59 lay_hD l
  have h2 : SeqAt.shaped (.list (toPyA (l.map hD))) = true := by
    simp only [SeqAt.shaped, PyData.canLay0, PyData.depth, h3, Bool.true_and, decide_eq_true_eq]
    exact decide_eq_true (by omega)
  simp only [h1, h2, Bool.and_self, gd_true]
  congr 3
  rw [toPyA_map, List.map_map, List.any_map]
  rw [Bool.eq_iff_iff, List.any_eq_true, decide_eq_true_eq]
  constructor
  · rintro ⟨x, hx, e⟩
    have : PyData.eqv (toPy (hD x)) (toPy (hD c)) = true := e
    rw [eqv_hD, decide_eq_true_eq] at this
    rw [← this]; exact hx
  · intro hc
    refine ⟨c, hc, ?_⟩
    show PyData.eqv (toPy (hD c)) (toPy (hD c)) = true
    rw [eqv_hD]; simp
def starL (w : Str) : Bool := decide (1 < (tl w).length) && starE w
def goodR (N C : Nat) (r : List (Option Int)) : Bool := !decide (some (-1) ∈ r) && (decide (r.length = C) && (decide (r.length ≤ 30) && decide (N ≤ 30)))
def rowsT (t : Str) : List (List (Option Int)) := (LLt t).map fun ws => ws.map cellL
def goodT (t : Str) : Bool := (rowsT t).all (goodR (rowsT t).length ((rowsT t).headD []).length)
def dueD (t : Str) : D := if goodT t = true then .tup [.lst ((rowsT t).map rowD), .lst ((stA starL 0 (LLt t)).map cellD)] else .non
theorem star_test {n : Nat} {w : Str} (h : TOk n w) (hn : n ≤ 50000) {ρ : Rho} (hρ : eVar 5 ρ = .ok (.str w)) : (tAndF (tE (e2 gtD (e1 lenD (eVar 5)) (eC (.int 1)))) (tE (e2 (eqD false) (e2 ixD (eVar 5) (e1 negD (eC (.int 1)))) (eC (.str "*"))))) ρ = .ok (starL w) := by
  have hl := h.l
  have q2 := len_w (w := w) (by omega)
  unfold starL
  by_cases h1 : 1 < (tl w).length
  · obtain ⟨d, h3, h4⟩ := last_star (w := w) (by omega) h.c (fun z => by rw [z] at h1; simp at h1)
    have e1' : (1 : Int) < ((tl w).length : Int) := by omega
    rw [decide_eq_true h1]
    generalize ((tl w).length : Int) = n at *
    generalize starE w = b at *
    generalize D.str w = W at *
    simp [hρ, q2, e1', h3, h4]
  · have e1' : ¬ (1 : Int) < ((tl w).length : Int) := by omega
    rw [decide_eq_false h1]
    generalize ((tl w).length : Int) = n at *
    generalize D.str w = W at *
    simp [hρ, q2, e1']
theorem enum_get {ws : List Str} {m : Nat} {d : D} (h : (pairsD (rngD 0 (ws.map D.str).length) (ws.map D.str))[m]? = some d) : ∃ w, ws[m]? = some w ∧ d = .tup [.int (m : Int), .str w] := by
  unfold pairsD rngD at h
  rw [List.getElem?_zipWith] at h
  cases hw : ws[m]? with
  | none =>
    have : (ws.map D.str)[m]? = none := by rw [List.getElem?_map, hw]; rfl
    rw [this] at h
    simp at h
  | some w =>
    have hm : m < ws.length := (List.getElem?_eq_some_iff.mp hw).1
    have h2 : (ws.map D.str)[m]? = some (.str w) := by rw [List.getElem?_map, hw]; rfl
    rw [h2, List.getElem?_map, List.getElem?_range (by simpa using hm)] at h
    refine ⟨w, rfl, ?_⟩
    simp at h
    exact h.symm
theorem land_of_row {n : Nat} (hn : n ≤ 26000) {p : Str} (hp : TOk n p) (T : D) (rows dl : List D) (hr : rows.length < 30000) (hd : dl.length + (wordsT p).length < 90000) (x3 x4 x5 x6 : Option D) :
    ∃ y3 y4 y5 y6, ((gN 3 (.str p) [some T, some (.lst rows), some (.lst dl), x3, x4, x5, x6, none]).bind g_law_land_of_3) = .ok (.nx [some T, some (.lst (rows ++ [rowD ((wordsT p).map cellL)])), some (.lst (dl ++ (stR starL rows.length 0 (wordsT p)).map cellD)), y3, y4, y5, y6, none]) := by
  obtain ⟨_, hw, hwl⟩ := words_ok hp
  have hsp := split_b hp (by omega)
  generalize wordsT p = ws at *
  have hpl := hp.l
  have hgn : gN 3 (.str p) [some T, some (.lst rows), some (.lst dl), x3, x4, x5, x6, none] = .ok [some T, some (.lst rows), some (.lst dl), some (.str p), x4, x5, x6, none] := by simp
  rw [hgn, O.bind_ok]
  have hlc : eLc (iSeq (eVar 4)) 5 tTr g_law_land_of_1 [some T, some (.lst rows), some (.lst dl), some (.str p), some (.lst (ws.map .str)), x5, x6, none] = .ok (rowD (ws.map cellL)) := by
    rw [rowD, List.map_map]
    refine eLc_eq (ds := ws.map .str) rfl (by simp) (by rw [List.length_map]; omega) ?_
    rw [cGo_map D.str (fun _ => true) (fun w => hD (cellL w))]
    · rw [List.filter_eq_self.mpr fun _ _ => rfl]
      rfl
    · intro w _; simp
    · intro w hwm _
      have := hgt_eq (w := w) (by have := (hw w hwm).l; omega) (hw w hwm).c
      generalize D.lst rows = A at *
      generalize D.lst dl = B at *
      generalize D.lst (ws.map .str) = C at *
      generalize D.str w = W at *
      generalize D.str p = PP at *
      simp [g_law_land_of_1, this]
  have hz : decide (rows.length < 100000) = true := decide_eq_true (by omega)
  obtain ⟨ρ1, h1, y5, y6, rfl⟩ := for_idx (s := gP 6 5) (g := g_law_land_of_2) (ds := pairsD (rngD 0 (ws.map D.str).length) (ws.map D.str)) (n := 0)
    (I := fun m ρ => ∃ x5 x6, ρ = [some T, some (.lst (rows ++ [rowD (ws.map cellL)])), some (.lst (dl ++ (stR starL rows.length 0 (ws.take m)).map cellD)), some (.str p), some (.lst (ws.map .str)), x5, x6, none])
    (ρ := [some T, some (.lst (rows ++ [rowD (ws.map cellL)])), some (.lst dl), some (.str p), some (.lst (ws.map .str)), x5, x6, none]) (by
      rintro m d hd' ρ ⟨x5, x6, rfl⟩
      rw [Nat.zero_add]
      obtain ⟨w, hwm, rfl⟩ := enum_get hd'
      have hwk := hw w (List.mem_of_getElem? hwm)
      have hml : m < ws.length := (List.getElem?_eq_some_iff.mp hwm).1
      have htk : ws.take (m + 1) = ws.take m ++ [w] := by
        rw [List.take_succ, hwm]; rfl
      rw [htk, stR_snoc, List.length_take, Nat.min_eq_left (by omega), Nat.zero_add]
      have hll := stR_len starL rows.length (ws.take m) 0
      rw [List.length_take, Nat.min_eq_left (by omega)] at hll
      generalize hA : stR starL rows.length 0 (ws.take m) = acc at *
      have hgp : gP 6 5 (.tup [.int (m : Int), .str w]) [some T, some (.lst (rows ++ [rowD (ws.map cellL)])), some (.lst (dl ++ acc.map cellD)), some (.str p), some (.lst (ws.map .str)), x5, x6, none] = .ok [some T, some (.lst (rows ++ [rowD (ws.map cellL)])), some (.lst (dl ++ acc.map cellD)), some (.str p), some (.lst (ws.map .str)), some (.str w), some (.int (m : Int)), none] := by simp
      rw [hgp, O.bind_ok]
      have ht := star_test hwk (by omega) (ρ := [some T, some (.lst (rows ++ [rowD (ws.map cellL)])), some (.lst (dl ++ acc.map cellD)), some (.str p), some (.lst (ws.map .str)), some (.str w), some (.int (m : Int)), none]) rfl
      unfold g_law_land_of_2
      refine ⟨[some T, some (.lst (rows ++ [rowD (ws.map cellL)])), some (.lst (dl ++ (acc ++ (if starL w = true then [((rows.length : Int), (m : Int))] else [])).map cellD)), some (.str p), some (.lst (ws.map .str)), some (.str w), some (.int (m : Int)), none], ?_, _, _, rfl⟩
      rw [sIf_ap, ht, O.bind_ok]
      cases hs : starL w with
      | false => simp
      | true =>
        simp only [if_true]
        rw [sApp_ap]
        have hz2 : decide ((dl ++ acc.map cellD).length < 100000) = true := decide_eq_true (by rw [List.length_append, List.length_map]; omega)
        have htup : (eTup (aCons (e2 subD (e1 lenD (eVar 1)) (eC (.int 1))) (aCons (eVar 6) aNil))) [some T, some (.lst (rows ++ [rowD (ws.map cellL)])), some (.lst (dl ++ acc.map cellD)), some (.str p), some (.lst (ws.map .str)), some (.str w), some (.int (m : Int)), none] = .ok (cellD ((rows.length : Int), (m : Int))) := by
          have hlen : lenD (.lst (rows ++ [rowD (ws.map cellL)])) = .ok (.int ((rows.length : Int) + 1)) := by simp
          rw [eTup_ap, aCons_ap, aCons_ap, aNil_ap, e2_ap, e1_ap]
          simp only [eVar_s, eVar_zs, eC_ap, O.bind_ok, hlen]
          rw [show subD (.int ((rows.length : Int) + 1)) (.int 1) = .ok (.int (rows.length : Int)) from by
            show O.ok (D.int _) = _
            rw [Int.add_sub_cancel]]
          rfl
        simp only [eVar_s, eVar_zs, O.bind_ok, lstD_lst, htup, hz2, gd_true]
        rw [List.map_append, ← List.append_assoc]
        rfl) ⟨x5, x6, by simp [stR]⟩
  rw [Nat.zero_add] at h1
  have hfull : ws.take (pairsD (rngD 0 (ws.map D.str).length) (ws.map D.str)).length = ws := by
    unfold pairsD rngD
    simp
  rw [hfull] at h1
  refine ⟨some (.str p), some (.lst (ws.map .str)), y5, y6, ?_⟩
  unfold g_law_land_of_3
  refine seq_to (ρ1 := [some T, some (.lst rows), some (.lst dl), some (.str p), some (.lst (ws.map .str)), x5, x6, none]) ?_ ?_
  · rw [sSet_ap, e1_ap]
    simp only [eVar_s, eVar_zs, O.bind_ok, hsp]
    rfl
  refine seq_to (ρ1 := [some T, some (.lst (rows ++ [rowD (ws.map cellL)])), some (.lst dl), some (.str p), some (.lst (ws.map .str)), x5, x6, none]) ?_ ?_
  · rw [sAppO_ap, hlc]
    simp only [eVar_s, eVar_zs, O.bind_ok, lstD_lst, hz, gd_true]
    rfl
  · exact sFor_eq (ds := pairsD (rngD 0 (ws.map D.str).length) (ws.map D.str)) rfl h1
theorem sum_pre {L L' : List (List Str)} : (L.map List.length).sum ≤ ((L ++ L').map List.length).sum := by
  rw [List.map_append, List.sum_append]; omega
theorem land_of_eq {n : Nat} (hn : n ≤ 26000) {t : Str} (ht : TOk n t) : F_law_land_of [.str t] = .ok (dueD t) := by
  obtain ⟨_, hlw, hsum, hlen⟩ := LL_ok ht
  obtain ⟨_, hlt, _⟩ := lines_ok ht
  have hsp := split_n ht (by omega)
  have hLL : LLt t = (linesT t).map wordsT := rfl
  generalize hT : D.str t = T at *
  obtain ⟨ρ1, h1, y3, y4, y5, y6, rfl⟩ := for_presC (s := gN 3) (g := g_law_land_of_3) D.str
    (I := fun p ρ => ∃ x3 x4 x5 x6, ρ = [some T, some (.lst ((p.map fun q => (wordsT q).map cellL).map rowD)), some (.lst ((stA starL 0 (p.map wordsT)).map cellD)), x3, x4, x5, x6, none])
    (linesT t) [] [some T, some (.lst []), some (.lst []), none, none, none, none, none] (by
      rintro p b q e ρ ⟨x3, x4, x5, x6, rfl⟩
      rw [List.nil_append] at e
      have hb : TOk n b := hlt b (by rw [e]; simp)
      have hpl := pre_len e
      have hll : (linesT t).length ≤ n + 1 := by
        have := hlen
        rw [hLL, List.length_map] at this
        exact this
      have hs1 : (stA starL 0 (p.map wordsT)).length + (wordsT b).length ≤ n + 1 := by
        have h1 := stA_len starL (p.map wordsT) 0
        have h2 : ((p.map wordsT ++ [wordsT b]).map List.length).sum ≤ ((LLt t).map List.length).sum := by
          rw [hLL, e, show (p ++ b :: q).map wordsT = (p.map wordsT ++ [wordsT b]) ++ q.map wordsT from by simp]
          exact sum_pre
        rw [List.map_append, List.sum_append] at h2
        simp at h2 h1 ⊢
        omega
      obtain ⟨z3, z4, z5, z6, hz⟩ := land_of_row hn hb T ((p.map fun q => (wordsT q).map cellL).map rowD) ((stA starL 0 (p.map wordsT)).map cellD) (by simp; omega) (by rw [List.length_map]; omega) x3 x4 x5 x6
      refine ⟨_, .inl hz, z3, z4, z5, z6, ?_⟩
      simp only [List.map_append, List.map_cons, List.map_nil, stA_snoc, List.length_map, Nat.zero_add]) ⟨none, none, none, none, rfl⟩
  rw [List.nil_append] at h1
  have hrt : (linesT t).map (fun q => (wordsT q).map cellL) = rowsT t := by
    unfold rowsT LLt
    rw [List.map_map]; rfl
  rw [hrt] at h1
  have hDS : D.lst ((stA starL 0 ((linesT t).map wordsT)).map cellD) = D.lst ((stA starL 0 (LLt t)).map cellD) := rfl
  rw [hDS] at h1
  have hrl : (rowsT t).length ≤ n + 1 := by unfold rowsT; rw [List.length_map]; exact hlen
  have hrne : rowsT t ≠ [] := fun z => by
    have : LLt t = [] := by simpa [rowsT] using z
    exact (LL_ok ht).1 this
  have hrr : ∀ r ∈ rowsT t, r.length ≤ n + 1 := fun r hr => by
    obtain ⟨ws, hws, rfl⟩ := List.mem_map.mp hr
    rw [List.length_map]
    exact Nat.le_trans (sum_mem (List.mem_map.mpr ⟨ws, hws, rfl⟩)) hsum
  unfold dueD goodT
  generalize rowsT t = g at *
  generalize D.lst ((stA starL 0 (LLt t)).map cellD) = DS at *
  obtain ⟨r0, gt, hg0⟩ := List.exists_cons_of_ne_nil hrne
  have hhd : g.headD [] = r0 := by rw [hg0]; rfl
  have hix : ixD (.lst (g.map rowD)) (.int 0) = .ok (rowD r0) := by
    have := ix_lst_nat (g.map rowD) 0
    rw [hg0] at this ⊢
    exact this
  have hl0 : lenD (rowD r0) = .ok (.int (r0.length : Int)) := by simp
  have hgl : lenD (.lst (g.map rowD)) = .ok (.int (g.length : Int)) := by simp
  have chk := for_or (s := gN 7) (g := g_law_land_of_4) rowD (I := fun p ρ => ∃ x7, ρ = [some T, some (.lst (g.map rowD)), some DS, y3, y4, y5, y6, x7]) (E := fun r => ∃ ρ', r = .ok (.rt .non ρ')) (fun r ⟨ρ', h⟩ => .inr ⟨_, _, h⟩) (goodR g.length r0.length) g [] [some T, some (.lst (g.map rowD)), some DS, y3, y4, y5, y6, none] (by
    rintro p b q e ρ ⟨x7, rfl⟩
    have hgn : gN 7 (rowD b) [some T, some (.lst (g.map rowD)), some DS, y3, y4, y5, y6, x7] = .ok [some T, some (.lst (g.map rowD)), some DS, y3, y4, y5, y6, some (rowD b)] := by simp
    rw [hgn, O.bind_ok]
    have hin : inL false (.int (-1)) (rowD b) = .ok (.bl (decide (some (-1) ∈ b))) := by
      have := in_hD false (some (-1)) b
      rw [Bool.false_bne] at this
      exact this
    have hlb : lenD (rowD b) = .ok (.int (b.length : Int)) := by simp
    have hne : eqD true (.int (b.length : Int)) (.int (r0.length : Int)) = .ok (.bl (!decide (b.length = r0.length))) := by simp; omega
    have htest : (tOrF (tE (e2 (inL false) (e1 negD (eC (.int 1))) (eVar 7))) (tOrF (tE (e2 (eqD true) (e1 lenD (eVar 7)) (e1 lenD (e2 ixD (eVar 1) (eC (.int 0)))))) (tOrF (tE (e2 gtD (e1 lenD (eVar 7)) (eC (.int 30)))) (tE (e2 gtD (e1 lenD (eVar 1)) (eC (.int 30))))))) [some T, some (.lst (g.map rowD)), some DS, y3, y4, y5, y6, some (rowD b)] = .ok (!goodR g.length r0.length b) := by
      unfold goodR
      generalize D.lst (g.map rowD) = G at *
      generalize rowD b = RB at *
      by_cases c1 : some (-1) ∈ b
      · rw [decide_eq_true c1] at hin ⊢
        simp [hin]
      · rw [decide_eq_false c1] at hin ⊢
        by_cases c2 : b.length = r0.length
        · rw [decide_eq_true c2] at hne ⊢
          have c2' : (b.length : Int) = (r0.length : Int) := by omega
          rw [← c2'] at hl0
          by_cases c3 : b.length ≤ 30
          · have c3' : ¬ (30 : Int) < (b.length : Int) := by omega
            rw [decide_eq_true c3]
            by_cases c4 : g.length ≤ 30
            · have c4' : ¬ (30 : Int) < (g.length : Int) := by omega
              rw [decide_eq_true c4]
              simp [hin, hlb, hix, hl0, hgl, c3', c4']
            · have c4' : (30 : Int) < (g.length : Int) := by omega
              rw [decide_eq_false c4]
              simp [hin, hlb, hix, hl0, hgl, c3', c4']
          · have c3' : (30 : Int) < (b.length : Int) := by omega
            rw [decide_eq_false c3]
            simp [hin, hlb, hix, hl0, hgl, c3']
        · rw [decide_eq_false c2] at hne ⊢
          have c2' : ¬ (b.length : Int) = (r0.length : Int) := by omega
          simp [hin, hlb, hix, hl0, hgl, c2']
    unfold g_law_land_of_4
    cases hgb : goodR g.length r0.length b with
    | true =>
      rw [if_pos rfl]
      refine ⟨[some T, some (.lst (g.map rowD)), some DS, y3, y4, y5, y6, some (rowD b)], .inl ?_, _, rfl⟩
      rw [sIf_ap, htest, hgb]
      rfl
    | false =>
      rw [if_neg (by decide)]
      refine ⟨[some T, some (.lst (g.map rowD)), some DS, y3, y4, y5, y6, some (rowD b)], ?_⟩
      rw [sIf_ap, htest, hgb]
      rfl) ⟨none, rfl⟩
  rw [hhd]
  have pre : ∀ r, sSeq (sFor (iSeq (eVar 1)) (gN 7) g_law_land_of_4) (sRet (eTup (aCons (eVar 1) (aCons (eVar 2) aNil)))) [some T, some (.lst (g.map rowD)), some DS, y3, y4, y5, y6, none] = r → g_law_land_of (startD 8 [T]) = r := fun r h => by
    unfold g_law_land_of
    refine seq_to (ρ1 := [some T, some (.lst []), none, none, none, none, none, none]) rfl ?_
    refine seq_to (ρ1 := [some T, some (.lst []), some (.lst []), none, none, none, none, none]) rfl ?_
    refine seq_to (sFor_eq (ds := (linesT t).map .str) ?_ h1) h
    rw [iSeq_ap, e1_ap]
    simp only [eVar_s, eVar_zs, O.bind_ok, hsp]
  cases hgd : g.all (goodR g.length r0.length) with
  | true =>
    rw [hgd, if_pos rfl] at chk
    obtain ⟨ρ', h2, x7, rfl⟩ := chk
    rw [if_pos rfl]
    refine runF_rt rfl (by decide) (ρ := [some T, some (.lst (g.map rowD)), some DS, y3, y4, y5, y6, x7]) (pre _ (seq_to (sFor_eq (ds := g.map rowD) rfl h2) (ret_eq ?_)))
    rfl
  | false =>
    rw [hgd, if_neg (by decide)] at chk
    obtain ⟨ρ', h2⟩ := chk
    rw [if_neg (by decide)]
    exact runF_rt rfl (by decide) (pre _ (seq_rt (sFor_eq (ds := g.map rowD) rfl h2)))
/-! rows of a land, refused -/
/-- a row that is none -/
def RowB (n : Nat) (d : D) : Prop := (∃ l, d = .tup l) ∨ ∃ l, d = .lst l ∧ (l.length = 0 ∨ 30 < l.length ∨ l.length ≠ n)
def RowG (n : Nat) (d : D) : Prop := ∃ l, d = .lst l ∧ 1 ≤ l.length ∧ l.length ≤ 30 ∧ l.length = n
theorem row_either {n : Nat} (l : List D) : RowB n (.lst l) ∨ RowG n (.lst l) := by
  by_cases h : l.length = 0 ∨ 30 < l.length ∨ l.length ≠ n
  · exact .inl (.inr ⟨l, rfl, h⟩)
  · exact .inr ⟨l, rfl, by omega, by omega, by omega⟩
theorem row_test {rows : List D} {n : Nat} {d0 : D} (hd0 : rows[0]? = some d0) (hn : lenD d0 = .ok (.int (n : Int))) {d : D} {x y : Option D} :
    (RowB n d → ((gN 2 d [some .raw, some (.lst rows), x, y]).bind g_Land_init_1) = .ok (.ex (.ref Exs.NoLand) [some .raw, some (.lst rows), some d, y])) ∧
    (RowG n d → ((gN 2 d [some .raw, some (.lst rows), x, y]).bind g_Land_init_1) = .ok (.nx [some .raw, some (.lst rows), some d, y])) := by
  have hg : gN 2 d [some .raw, some (.lst rows), x, y] = .ok [some .raw, some (.lst rows), some d, y] := by simp
  have hix : ixD (.lst rows) (.int 0) = .ok d0 := by
    have := ix_lst_nat rows 0
    rw [hd0] at this
    exact this
  rw [hg, O.bind_ok]
  unfold g_Land_init_1
  generalize D.lst rows = X at *
  constructor
  · rintro (⟨l, rfl⟩ | ⟨l, rfl, h⟩)
    · have hty : tyN (.tup l) = some "tuple" := rfl
      simp [isTy, hty]
    · have hty : tyN (.lst l) = some "list" := rfl
      have hlen : lenD (.lst l) = .ok (.int (l.length : Int)) := by simp
      generalize D.lst l = Y at *
      by_cases h1 : 1 ≤ l.length ∧ l.length ≤ 30
      · have e1 : (1 : Int) ≤ (l.length : Int) := by omega
        have e2 : (l.length : Int) ≤ 30 := by omega
        have e3 : ¬ ((l.length : Int) = (n : Int)) := by omega
        simp [isTy, hty, hlen, e1, e2, e3, hix, hn]
      · have e1 : (decide ((1 : Int) ≤ (l.length : Int)) && decide ((l.length : Int) ≤ 30)) = false := by
          rw [Bool.and_eq_false_iff, decide_eq_false_iff_not, decide_eq_false_iff_not]; omega
        by_cases e2 : (1 : Int) ≤ (l.length : Int)
        · have e3 : ¬ ((l.length : Int) ≤ 30) := by omega
          simp [isTy, hty, hlen, e2, e3]
        · simp [isTy, hty, hlen, e2]
  · rintro ⟨l, rfl, h1, h2, h3⟩
    have hty : tyN (.lst l) = some "list" := rfl
    have hlen : lenD (.lst l) = .ok (.int (l.length : Int)) := by simp
    have e1 : (1 : Int) ≤ (l.length : Int) := by omega
    have e2 : (l.length : Int) ≤ 30 := by omega
    have e3 : (l.length : Int) = (n : Int) := by omega
    generalize D.lst l = Y at *
    rw [e3] at hlen e1 e2
    simp [isTy, hty, hlen, e1, e2, hix, hn]
theorem rows_bad {rows : List D} {n : Nat} {d0 : D} (hd0 : rows[0]? = some d0) (hn : lenD d0 = .ok (.int (n : Int))) : ∀ (ds : List D) (x y : Option D), (∀ d ∈ ds, RowB n d ∨ RowG n d) → (∃ d ∈ ds, RowB n d) →
    ∃ z, sFor.go (gN 2) g_Land_init_1 ds [some .raw, some (.lst rows), x, y] = .ok (.ex (.ref Exs.NoLand) [some .raw, some (.lst rows), z, y])
  | [], x, y, _, ⟨d, hd, _⟩ => by simp at hd
  | d :: ds, x, y, h1, ⟨e, he, hb⟩ => by
    obtain ⟨t1, t2⟩ := row_test hd0 hn (d := d) (x := x) (y := y)
    have step : sFor.go (gN 2) g_Land_init_1 (d :: ds) [some .raw, some (.lst rows), x, y] = ((gN 2 d [some .raw, some (.lst rows), x, y]).bind g_Land_init_1).bind fun out => match out with
        | .nx ρ2 => sFor.go (gN 2) g_Land_init_1 ds ρ2
        | .ct ρ2 => sFor.go (gN 2) g_Land_init_1 ds ρ2
        | .bk ρ2 => .ok (.nx ρ2)
        | .rt d ρ2 => .ok (.rt d ρ2)
        | .ex k ρ2 => .ok (.ex k ρ2) := by
      rw [sFor.go]
      cases gN 2 d [some .raw, some (.lst rows), x, y] <;> rfl
    rw [step]
    rcases h1 d (by simp) with hd | hd
    · rw [t1 hd, O.bind_ok]
      exact ⟨_, rfl⟩
    · rw [t2 hd, O.bind_ok]
      by_cases hds : ∃ d ∈ ds, RowB n d
      · exact rows_bad hd0 hn ds _ y (fun d hd => h1 d (by simp [hd])) hds
      · exfalso
        rcases List.mem_cons.mp he with rfl | he
        · obtain ⟨l, rfl, a1, a2, a3⟩ := hd
          rcases hb with ⟨l', e⟩ | ⟨l', e, e2⟩
          · cases e
          · cases e; omega
        · exact hds ⟨e, he, hb⟩
theorem init_first {X : D} {n : Nat} (hX : ∃ l, X = .lst l ∧ l.length = n ∧ 1 ≤ n ∧ n ≤ 30) {x y : Option D} : (sIf (tOrF (tNotF (tE (e1 (isTD "list") (eVar 1)))) (tNotF (tE (eChain (fun i j => decide (i ≤ j)) (fun i j => decide (i ≤ j)) (eC (.int 1)) (e1 lenD (eVar 1)) (eC (.int 30)))))) (sK (sExc (.ref Exs.NoLand))) sNx) [some .raw, some X, x, y] = .ok (.nx [some .raw, some X, x, y]) := by
  obtain ⟨l, rfl, rfl, h1, h2⟩ := hX
  have hty : tyN (.lst l) = some "list" := rfl
  have hlen : lenD (.lst l) = .ok (.int (l.length : Int)) := by simp
  have e1 : (1 : Int) ≤ (l.length : Int) := by omega
  have e2 : (l.length : Int) ≤ 30 := by omega
  generalize D.lst l = Y at *
  simp [isTy, hty, hlen, e1, e2]
def NoLandR (X : D) : Prop := F_Land_init [.raw, X] = .ok (.ex (.ref Exs.NoLand) [.raw, .non])
theorem no_land1 {X : D} (h : (∃ T, tyN X = some T ∧ T ≠ "list" ∧ isTy "list" T = false) ∨ ∃ l, X = .lst l ∧ (l.length = 0 ∨ 30 < l.length)) : NoLandR X := by
  refine runM_ex (ρ := [some .raw, some X, none, none]) rfl (by decide) ?_ rfl
  unfold g_Land_init
  refine seq_ex ?_
  rcases h with ⟨T, hT, _, hi⟩ | ⟨l, rfl, h⟩
  · simp [startD, hT, hi, isTD]
  · have hty : tyN (.lst l) = some "list" := rfl
    have hlen : lenD (.lst l) = .ok (.int (l.length : Int)) := by simp
    generalize D.lst l = Y at *
    by_cases e2 : (1 : Int) ≤ (l.length : Int)
    · have e3 : ¬ ((l.length : Int) ≤ 30) := by omega
      simp [startD, isTy, hty, hlen, e2, e3]
    · simp [startD, isTy, hty, hlen, e2]
theorem no_land2 {rows : List D} {n : Nat} {d0 : D} (h1 : 1 ≤ rows.length) (h30 : rows.length ≤ 30) (hd0 : rows[0]? = some d0) (hn : lenD d0 = .ok (.int (n : Int))) (ha : ∀ d ∈ rows, RowB n d ∨ RowG n d) (hb : ∃ d ∈ rows, RowB n d) : NoLandR (.lst rows) := by
  obtain ⟨z, hz⟩ := rows_bad hd0 hn rows none none ha hb
  refine runM_ex (ρ := [some .raw, some (.lst rows), z, none]) rfl (by decide) ?_ rfl
  unfold g_Land_init
  refine seq_to (init_first ⟨rows, rfl, rfl, h1, h30⟩) ?_
  refine seq_ex ?_
  exact (sFor_eq (ds := rows) rfl hz)
/-! a height that is none -/
theorem hgt_bad {X : D} : ∀ (l : List D) (r : D) (y : Option D), (∀ d ∈ l, ∃ b, F_is_height [d] = .ok (.bl b)) → (∃ d ∈ l, F_is_height [d] = .ok (.bl false)) → ∃ z, sFor.go (gN 3) g_Land_init_2 l [some .raw, some X, some r, y] = .ok (.ex (.ref Exs.NoHeight) [some .raw, some X, some r, z])
  | [], r, y, _, ⟨d, hd, _⟩ => by simp at hd
  | d :: ds, r, y, h1, ⟨e, he, hb⟩ => by
    have step : sFor.go (gN 3) g_Land_init_2 (d :: ds) [some .raw, some X, some r, y] = (g_Land_init_2 [some .raw, some X, some r, some d]).bind fun out => match out with
        | .nx ρ2 => sFor.go (gN 3) g_Land_init_2 ds ρ2
        | .ct ρ2 => sFor.go (gN 3) g_Land_init_2 ds ρ2
        | .bk ρ2 => .ok (.nx ρ2)
        | .rt d ρ2 => .ok (.rt d ρ2)
        | .ex k ρ2 => .ok (.ex k ρ2) := by
      rw [sFor.go, show gN 3 d [some .raw, some X, some r, y] = .ok [some .raw, some X, some r, some d] from by simp]
      rfl
    rw [step]
    obtain ⟨b, hbd⟩ := h1 d (by simp)
    cases b with
    | false =>
      have : g_Land_init_2 [some .raw, some X, some r, some d] = .ok (.ex (.ref Exs.NoHeight) [some .raw, some X, some r, some d]) := by simp [g_Land_init_2, hbd]
      rw [this]
      exact ⟨_, rfl⟩
    | true =>
      have : g_Land_init_2 [some .raw, some X, some r, some d] = .ok (.nx [some .raw, some X, some r, some d]) := by simp [g_Land_init_2, hbd]
      rw [this]
      refine hgt_bad ds r _ (fun d hd => h1 d (by simp [hd])) ?_
      rcases List.mem_cons.mp he with rfl | he
      · rw [hb] at hbd; cases hbd
      · exact ⟨e, he, hb⟩
theorem hgt_good {X : D} : ∀ (l : List D) (r : D) (y : Option D), (∀ d ∈ l, F_is_height [d] = .ok (.bl true)) → ∃ z, sFor.go (gN 3) g_Land_init_2 l [some .raw, some X, some r, y] = .ok (.nx [some .raw, some X, some r, z])
  | [], r, y, _ => ⟨y, rfl⟩
  | d :: ds, r, y, h1 => by
    have step : sFor.go (gN 3) g_Land_init_2 (d :: ds) [some .raw, some X, some r, y] = (g_Land_init_2 [some .raw, some X, some r, some d]).bind fun out => match out with
        | .nx ρ2 => sFor.go (gN 3) g_Land_init_2 ds ρ2
        | .ct ρ2 => sFor.go (gN 3) g_Land_init_2 ds ρ2
        | .bk ρ2 => .ok (.nx ρ2)
        | .rt d ρ2 => .ok (.rt d ρ2)
        | .ex k ρ2 => .ok (.ex k ρ2) := by
      rw [sFor.go, show gN 3 d [some .raw, some X, some r, y] = .ok [some .raw, some X, some r, some d] from by simp]
      rfl
    rw [step]
    have : g_Land_init_2 [some .raw, some X, some r, some d] = .ok (.nx [some .raw, some X, some r, some d]) := by simp [g_Land_init_2, h1 d (by simp)]
    rw [this]
    exact hgt_good ds r _ fun d hd => h1 d (by simp [hd])
theorem rows_hbad {X : D} : ∀ (Ls : List (List D)) (x y : Option D), (∀ l ∈ Ls, ∀ d ∈ l, ∃ b, F_is_height [d] = .ok (.bl b)) → (∃ l ∈ Ls, ∃ d ∈ l, F_is_height [d] = .ok (.bl false)) → ∃ z w, sFor.go (gN 2) g_Land_init_3 (Ls.map .lst) [some .raw, some X, x, y] = .ok (.ex (.ref Exs.NoHeight) [some .raw, some X, z, w])
  | [], x, y, _, ⟨d, hd, _⟩ => by simp at hd
  | l :: Ls, x, y, h1, ⟨e, he, hb⟩ => by
    have step : sFor.go (gN 2) g_Land_init_3 ((l :: Ls).map .lst) [some .raw, some X, x, y] = (sFor.go (gN 3) g_Land_init_2 l [some .raw, some X, some (.lst l), y]).bind fun out => match out with
        | .nx ρ2 => sFor.go (gN 2) g_Land_init_3 (Ls.map .lst) ρ2
        | .ct ρ2 => sFor.go (gN 2) g_Land_init_3 (Ls.map .lst) ρ2
        | .bk ρ2 => .ok (.nx ρ2)
        | .rt d ρ2 => .ok (.rt d ρ2)
        | .ex k ρ2 => .ok (.ex k ρ2) := by
      rw [List.map_cons, sFor.go, show gN 2 (.lst l) [some .raw, some X, x, y] = .ok [some .raw, some X, some (.lst l), y] from by simp]
      rfl
    rw [step]
    by_cases hl : ∃ d ∈ l, F_is_height [d] = .ok (.bl false)
    · obtain ⟨z, hz⟩ := hgt_bad (X := X) l (.lst l) y (h1 l (by simp)) hl
      rw [hz]
      exact ⟨_, _, rfl⟩
    · obtain ⟨z, hz⟩ := hgt_good (X := X) l (.lst l) y (fun d hd => by
        obtain ⟨b, hbd⟩ := h1 l (by simp) d hd
        cases b with
        | true => exact hbd
        | false => exact absurd ⟨d, hd, hbd⟩ hl)
      rw [hz]
      refine rows_hbad Ls _ _ (fun l hl => h1 l (by simp [hl])) ?_
      rcases List.mem_cons.mp he with rfl | he
      · exact absurd hb hl
      · exact ⟨e, he, hb⟩
theorem rows_good {rows : List D} {n : Nat} {d0 : D} (hd0 : rows[0]? = some d0) (hn : lenD d0 = .ok (.int (n : Int))) : ∀ (ds : List D) (x y : Option D), (∀ d ∈ ds, RowG n d) → ∃ z, sFor.go (gN 2) g_Land_init_1 ds [some .raw, some (.lst rows), x, y] = .ok (.nx [some .raw, some (.lst rows), z, y])
  | [], x, y, _ => ⟨x, rfl⟩
  | d :: ds, x, y, h1 => by
    obtain ⟨_, t2⟩ := row_test hd0 hn (d := d) (x := x) (y := y)
    have step : sFor.go (gN 2) g_Land_init_1 (d :: ds) [some .raw, some (.lst rows), x, y] = ((gN 2 d [some .raw, some (.lst rows), x, y]).bind g_Land_init_1).bind fun out => match out with
        | .nx ρ2 => sFor.go (gN 2) g_Land_init_1 ds ρ2
        | .ct ρ2 => sFor.go (gN 2) g_Land_init_1 ds ρ2
        | .bk ρ2 => .ok (.nx ρ2)
        | .rt d ρ2 => .ok (.rt d ρ2)
        | .ex k ρ2 => .ok (.ex k ρ2) := by
      rw [sFor.go]
      cases gN 2 d [some .raw, some (.lst rows), x, y] <;> rfl
    rw [step, t2 (h1 d (by simp)), O.bind_ok]
    exact rows_good hd0 hn ds _ y fun d hd => h1 d (by simp [hd])
def NoHgtR (X : D) : Prop := F_Land_init [.raw, X] = .ok (.ex (.ref Exs.NoHeight) [.raw, .non])
theorem no_height {Ls : List (List D)} {n : Nat} (h1 : 1 ≤ Ls.length) (h30 : Ls.length ≤ 30) (n1 : 1 ≤ n) (n30 : n ≤ 30) (hl : ∀ l ∈ Ls, l.length = n) (ha : ∀ l ∈ Ls, ∀ d ∈ l, ∃ b, F_is_height [d] = .ok (.bl b)) (hb : ∃ l ∈ Ls, ∃ d ∈ l, F_is_height [d] = .ok (.bl false)) : NoHgtR (.lst (Ls.map .lst)) := by
  obtain ⟨l0, hl0⟩ : ∃ l0, Ls[0]? = some l0 := ⟨Ls[0], List.getElem?_eq_getElem (by omega)⟩
  have hd0 : (Ls.map D.lst)[0]? = some (.lst l0) := by rw [List.getElem?_map, hl0]; rfl
  have hn : lenD (.lst l0) = .ok (.int (n : Int)) := by
    rw [← hl l0 (List.mem_of_getElem? hl0)]; simp
  obtain ⟨z, hz⟩ := rows_good hd0 hn (Ls.map .lst) none none fun d hd => by
    obtain ⟨l, hlm, rfl⟩ := List.mem_map.mp hd
    have := hl l hlm
    exact ⟨l, rfl, by omega, by omega, this⟩
  obtain ⟨z2, w2, hz2⟩ := rows_hbad (X := .lst (Ls.map .lst)) Ls z none ha hb
  refine runM_ex (ρ := [some .raw, some (.lst (Ls.map .lst)), z2, w2]) rfl (by decide) ?_ rfl
  unfold g_Land_init
  refine seq_to (init_first ⟨_, rfl, by rw [List.length_map], h1, h30⟩) ?_
  refine seq_to (sFor_eq (ds := Ls.map .lst) rfl hz) ?_
  refine seq_ex ?_
  exact sFor_eq (ds := Ls.map .lst) rfl hz2
/-! what is read -/
theorem with_drains_eq {g : List (List (Option Int))} {R C : Nat} (hg : GOk g R C) (hh : gOk g) {ds : List Cell} (hd : ∀ c ∈ ds, inb R C c = true ∧ getG g c ≠ none) (hl : ds.length ≤ 900) :
    ∃ o, F_with_drains [.lst (g.map rowD), .lst (ds.map cellD)] = .ok (.land ⟨g, o⟩) ∧ (∀ c, openB o c = decide (c ∈ ds)) ∧ o.length ≤ ds.length := by
  obtain ⟨ρ1, h1, o, o3, rfl, h2, h3⟩ := for_presC (s := gN 3) (g := g_with_drains_1) cellD
    (I := fun p ρ => ∃ (o : List (List Key × Bool)) (o3 : Option D), ρ = [some (.lst (g.map rowD)), some (.lst (ds.map cellD)), some (.land ⟨g, o⟩), o3] ∧ o.length ≤ p.length ∧ ∀ c, openB o c = decide (c ∈ p))
    ds [] [some (.lst (g.map rowD)), some (.lst (ds.map cellD)), some (.land ⟨g, []⟩), none] (by
      rintro p b q e ρ ⟨o, o3, rfl, h2, h3⟩
      rw [List.nil_append] at e
      obtain ⟨b1, b2⟩ := hd b (by rw [e]; simp)
      have hpl := pre_len e
      have ho := opened_eq (L := ⟨g, o⟩) hg b1 b2 (by show o.length < 100000; omega)
      refine ⟨[some (.lst (g.map rowD)), some (.lst (ds.map cellD)), some (.land ⟨g, putL o (keyP b) true⟩), some (cellD b)], .inl ?_, _, _, rfl, ?_, fun c => ?_⟩
      · generalize D.lst (g.map rowD) = G at *
        generalize D.lst (ds.map cellD) = DD at *
        simp [g_with_drains_1, ho]
      · have := putL_len o (keyP b) true
        simp
        omega
      · rw [open_put, h3]
        by_cases e : c = b
        · simp [e]
        · simp [e]) ⟨[], none, rfl, by simp, by simp⟩
  rw [List.nil_append] at h2 h3
  refine ⟨o, ?_, h3, h2⟩
  refine runF_rt rfl (by decide) (ρ := [some (.lst (g.map rowD)), some (.lst (ds.map cellD)), none, o3]) ?_
  unfold g_with_drains
  refine seq_to (ρ1 := [some (.lst (g.map rowD)), some (.lst (ds.map cellD)), some (.land ⟨g, []⟩), none]) ?_ ?_
  · have hin := init_eq hg hh
    generalize D.lst (g.map rowD) = G at *
    generalize D.lst (ds.map cellD) = DD at *
    unfold sTryR
    rw [show sK (sSet 2 (eMk (aCons (eVar 0) aNil) F_Land_init)) (startD 4 [G, DD]) = .ok (.nx [some G, some DD, some (.land ⟨g, []⟩), none]) from by
      unfold sK
      rw [show sSet 2 (eMk (aCons (eVar 0) aNil) F_Land_init) (startD 4 [G, DD]) = .ok (.nx [some G, some DD, some (.land ⟨g, []⟩), none]) from by simp [startD, hin]]]
  refine seq_to (sFor_eq (ds := ds.map cellD) (by simp) h1) ?_
  generalize D.lst (g.map rowD) = G at *
  generalize D.lst (ds.map cellD) = DD at *
  simp
theorem runF_exc {n m : Nat} {rs : Sh} {g : SF} {ds : List D} {k : Value} (hm : ds.length = m) (hn : m ≤ n) (h : g (startD n ds) = .exc k) : runF n m rs g ds = .exc k := by
  unfold runF
  rw [h, hm]
  simp [hn]
theorem seq_exc {g g' : SF} {ρ : Rho} {k : Value} (h : g ρ = .exc k) : sSeq g g' ρ = .exc k := by rw [sSeq_ap, h]; rfl
theorem with_drains_bad {G DD : D} {k : Addr} {w : Str} (h : F_Land_init [.raw, G] = .ok (.ex (.ref k) [.raw, .non])) (hk : Exl.word k = some w) : F_with_drains [G, DD] = .exc (.ref Exs.NoLand) := by
  refine runF_exc rfl (by decide) ?_
  unfold g_with_drains
  refine seq_exc ?_
  unfold sTryR
  rw [show sK (sSet 2 (eMk (aCons (eVar 0) aNil) F_Land_init)) (startD 4 [G, DD]) = .ok (.ex (.ref k) [some G, some DD, none, none]) from by
    unfold sK
    rw [show sSet 2 (eMk (aCons (eVar 0) aNil) F_Land_init) (startD 4 [G, DD]) = .exc (.ref k) from by simp [startD, h]]
    rfl]
  simp [hMap, hk]
def cellP (w : Str) : Option (Option Int) := if w = ("#" : Str) then some none else (numP (stripW w)).map some
/-- a word is read -/
theorem read_word {n : Nat} (hn : n ≤ 26000) {w : Str} (h : TOk n w) {T G LN : D} {dl rowl : List D} {i : Nat} (hG : lenD G = .ok (.int (i : Int))) (hd : dl.length < 90000) (hr : rowl.length < 90000) (x5 x6 : Option D) :
    (∀ v, cellP w = some v → ∃ y5 y6 : Option D, (((gN 5 (.str w) [some T, some G, some (.lst dl), some LN, some (.lst rowl), x5, x6]).bind g_read_1) = .ok (.nx [some T, some G, some (.lst (dl ++ if starE w = true then [cellD ((i : Int), (rowl.length : Int))] else [])), some LN, some (.lst (rowl ++ [hD v])), y5, y6]) ∨
        ((gN 5 (.str w) [some T, some G, some (.lst dl), some LN, some (.lst rowl), x5, x6]).bind g_read_1) = .ok (.ct [some T, some G, some (.lst (dl ++ if starE w = true then [cellD ((i : Int), (rowl.length : Int))] else [])), some LN, some (.lst (rowl ++ [hD v])), y5, y6]))) ∧
      (cellP w = none → ((gN 5 (.str w) [some T, some G, some (.lst dl), some LN, some (.lst rowl), x5, x6]).bind g_read_1) = .exc (.ref Exs.NoLand)) := by
  have hl := h.l
  have hz1 : decide (rowl.length < 100000) = true := decide_eq_true (by omega)
  have hz2 : decide (dl.length < 100000) = true := decide_eq_true (by omega)
  have hrl : lenD (.lst rowl) = .ok (.int (rowl.length : Int)) := by simp
  have hgn : gN 5 (.str w) [some T, some G, some (.lst dl), some LN, some (.lst rowl), x5, x6] = .ok [some T, some G, some (.lst dl), some LN, some (.lst rowl), some (.str w), x6] := by simp
  rw [hgn, O.bind_ok]
  have q1 := eq_stone h.c
  unfold g_read_1 cellP
  by_cases hw : w = ("#" : Str)
  · rw [decide_eq_true hw] at q1
    rw [if_pos hw]
    refine ⟨fun v hv => ?_, fun z => by cases z⟩
    cases hv
    have hs : starE w = false := by rw [hw]; decide +kernel
    refine ⟨some (.str w), x6, .inr ?_⟩
    rw [hs, if_neg (by decide), List.append_nil]
    have t1 : (tE (e2 (eqD false) (eVar 5) (eC (.str "#")))) [some T, some G, some (.lst dl), some LN, some (.lst rowl), some (.str w), x6] = .ok true := by
      rw [tE_ap, e2_ap]
      simp only [eVar_s, eVar_zs, eC_ap, O.bind_ok, q1]
    rw [sSeq_ap, sIf_ap, t1]
    simp only [O.bind_ok, if_true]
    rw [seq_nx (ρ1 := [some T, some G, some (.lst dl), some LN, some (.lst (rowl ++ [.non])), some (.str w), x6]) (by
      rw [sApp_ap]
      simp only [eVar_s, eVar_zs, eC_ap, O.bind_ok, lstD_lst, hz1, gd_true]
      rfl)]
    rfl
  · rw [decide_eq_false hw] at q1
    rw [if_neg hw]
    obtain ⟨s1, s2⟩ := strip_ok (w := w) (n := 50000) (by omega) h.c
    have hnum := number_eq s1 s2
    have first : (sIf (tE (e2 (eqD false) (eVar 5) (eC (.str "#")))) (sSeq (sApp 4 (eC .non))
    sCt) sNx) [some T, some G, some (.lst dl), some LN, some (.lst rowl), some (.str w), x6] = .ok (.nx [some T, some G, some (.lst dl), some LN, some (.lst rowl), some (.str w), x6]) := by
      have t1 : (tE (e2 (eqD false) (eVar 5) (eC (.str "#")))) [some T, some G, some (.lst dl), some LN, some (.lst rowl), some (.str w), x6] = .ok false := by
        rw [tE_ap, e2_ap]
        simp only [eVar_s, eVar_zs, eC_ap, O.bind_ok, q1]
      rw [sIf_ap, t1]
      rfl
    have second : (sIf (tE (e1 (fun d => endD d (.str "*")) (eVar 5))) (sSeq (sApp 2 (eTup (aCons (e1 lenD (eVar 1)) (aCons (e1 lenD (eVar 4)) aNil))))
    (sSet 5 (eSlS (eVar 5) pNo (pSo (e1 negD (eC (.int 1))))))) sNx) [some T, some G, some (.lst dl), some LN, some (.lst rowl), some (.str w), x6] = .ok (.nx [some T, some G, some (.lst (dl ++ if starE w = true then [cellD ((i : Int), (rowl.length : Int))] else [])), some LN, some (.lst rowl), some (.str (stripW w)), x6]) := by
      have hends := ends_eq w
      have t1 : (tE (e1 (fun d => endD d (.str "*")) (eVar 5))) [some T, some G, some (.lst dl), some LN, some (.lst rowl), some (.str w), x6] = .ok (starE w) := by
        rw [tE_ap, e1_ap]
        simp only [eVar_s, eVar_zs, O.bind_ok, hends]
      rw [sIf_ap, t1, O.bind_ok]
      unfold stripW
      cases hs : starE w with
      | false =>
        rw [if_neg (by decide), if_neg (by decide), if_neg (by decide), List.append_nil]
        rfl
      | true =>
        rw [if_pos rfl, if_pos rfl, if_pos rfl]
        have hcut : eSlS (eVar 5) pNo (pSo (e1 negD (eC (.int 1)))) [some T, some G, some (.lst (dl ++ [cellD ((i : Int), (rowl.length : Int))])), some LN, some (.lst rowl), some (.str w), x6] = .ok (.str (cutS w none (some (-1)))) := by
          show gd (decide (w.length ≤ 100000)) (O.ok (D.str (cutS w none (some (-1))))) = _
          rw [decide_eq_true (by omega), gd_true]
        refine seq_to (ρ1 := [some T, some G, some (.lst (dl ++ [cellD ((i : Int), (rowl.length : Int))])), some LN, some (.lst rowl), some (.str w), x6]) ?_ ((set_eq (i := 5) hcut (by simp)).trans rfl)
        rw [sApp_ap]
        rw [show (eTup (aCons (e1 lenD (eVar 1)) (aCons (e1 lenD (eVar 4)) aNil))) [some T, some G, some (.lst dl), some LN, some (.lst rowl), some (.str w), x6] = .ok (cellD ((i : Int), (rowl.length : Int))) from by
          rw [eTup_ap, aCons_ap, aCons_ap, aNil_ap, e1_ap, e1_ap]
          simp only [eVar_s, eVar_zs, O.bind_ok, hG, hrl]
          rfl]
        simp only [eVar_s, eVar_zs, O.bind_ok, lstD_lst, hz2, gd_true]
        rfl
    generalize (D.lst (dl ++ if starE w = true then [cellD ((i : Int), (rowl.length : Int))] else [])) = DD at *
    cases hp : numP (stripW w) with
    | none =>
      rw [hp] at hnum
      refine ⟨fun v hv => (by cases hv), fun _ => ?_⟩
      refine seq_to first (seq_to second ?_)
      have hadd : addD (.str ("no cell: " : Str)) (.str (stripW w)) = .ok (.str (("no cell: " : Str) ++ stripW w)) := addS_eq (by
        have : ("no cell: " : Str).length = 9 := by decide +kernel
        omega)
      generalize D.str (stripW w) = WW at *
      generalize D.str (("no cell: " : Str) ++ stripW w) = MM at *
      have hnum' : F_number_of [WW] = .ok .non := hnum
      refine seq_to (ρ1 := [some T, some G, some DD, some LN, some (.lst rowl), some WW, some .non]) (by simp [hnum']) ?_
      refine seq_exc ?_
      rw [sIf_ap, show (tE (e2 (isND false) (eVar 6) (eC .non))) [some T, some G, some DD, some LN, some (.lst rowl), some WW, some .non] = .ok true from by simp]
      simp only [O.bind_ok, if_true]
      unfold sExc1
      rw [e2_ap]
      simp only [eVar_s, eVar_zs, eC_ap, O.bind_ok, hadd]
    | some v0 =>
      rw [hp] at hnum
      refine ⟨fun v hv => ?_, fun z => by cases z⟩
      cases hv
      refine ⟨some (.str (stripW w)), some (.int v0), .inl (seq_to first (seq_to second ?_))⟩
      generalize D.str (stripW w) = WW at *
      have hnum' : F_number_of [WW] = .ok (.int v0) := hnum
      refine seq_to (ρ1 := [some T, some G, some DD, some LN, some (.lst rowl), some WW, some (.int v0)]) (by simp [hnum']) ?_
      refine seq_to (ρ1 := [some T, some G, some DD, some LN, some (.lst rowl), some WW, some (.int v0)]) ?_ ?_
      · rw [sIf_ap, show (tE (e2 (isND false) (eVar 6) (eC .non))) [some T, some G, some DD, some LN, some (.lst rowl), some WW, some (.int v0)] = .ok false from by simp]
        rfl
      · rw [sApp_ap]
        simp only [eVar_s, eVar_zs, O.bind_ok, lstD_lst, hz1, gd_true]
        rfl
def cellV (w : Str) : Option Int := (cellP w).getD none
def goodW (ws : List Str) : Bool := ws.all fun w => (cellP w).isSome
/-- a line is read -/
theorem read_line {n : Nat} (hn : n ≤ 26000) {p : Str} (hp : TOk n p) (T : D) (rows dl : List D) (hr : rows.length < 30000) (hd : dl.length + (wordsT p).length < 80000) (x3 x5 x6 : Option D) :
    if goodW (wordsT p) = true then ∃ y3 y5 y6, ((gN 3 (.str p) [some T, some (.lst rows), some (.lst dl), x3, none, x5, x6]).bind g_read_2) = .ok (.nx [some T, some (.lst (rows ++ [rowD ((wordsT p).map cellV)])), some (.lst (dl ++ (stR starE rows.length 0 (wordsT p)).map cellD)), y3, none, y5, y6])
    else ((gN 3 (.str p) [some T, some (.lst rows), some (.lst dl), x3, none, x5, x6]).bind g_read_2) = .exc (.ref Exs.NoLand) := by
  obtain ⟨_, hw, hwl⟩ := words_ok hp
  have hsp := split_b hp (by omega)
  generalize wordsT p = ws at *
  have hpl := hp.l
  have hgn : gN 3 (.str p) [some T, some (.lst rows), some (.lst dl), x3, none, x5, x6] = .ok [some T, some (.lst rows), some (.lst dl), some (.str p), none, x5, x6] := by simp
  rw [hgn, O.bind_ok]
  have hG : lenD (.lst rows) = .ok (.int (rows.length : Int)) := by simp
  have loop := for_or (s := gN 5) (g := g_read_1) D.str (I := fun q ρ => ∃ x5 x6 : Option D, ρ = [some T, some (.lst rows), some (.lst (dl ++ (stR starE rows.length 0 q).map cellD)), some (.str p), some (.lst ((q.map cellV).map hD)), x5, x6]) (E := fun r => r = .exc (.ref Exs.NoLand)) (fun r h => .inl ⟨_, h⟩) (fun w => (cellP w).isSome) ws [] [some T, some (.lst rows), some (.lst dl), some (.str p), some (.lst []), x5, x6] (by
    rintro q b q' e ρ ⟨x5, x6, rfl⟩
    rw [List.nil_append] at e
    have hb := hw b (by rw [e]; simp)
    have hpl2 := pre_len e
    have hq := stR_len starE rows.length q 0
    obtain ⟨r1, r2⟩ := read_word hn hb (T := T) (G := .lst rows) (LN := .str p) (dl := dl ++ (stR starE rows.length 0 q).map cellD) (rowl := (q.map cellV).map hD) (i := rows.length) hG (by rw [List.length_append, List.length_map]; omega) (by rw [List.length_map, List.length_map]; omega) x5 x6
    cases hc : cellP b with
    | none => exact r2 hc
    | some v =>
      obtain ⟨y5, y6, h1⟩ := r1 v hc
      refine ⟨_, h1, y5, y6, ?_⟩
      have hv : cellV b = v := by unfold cellV; rw [hc]; rfl
      rw [stR_snoc, List.map_append, List.map_append, List.map_append, List.map_cons, List.map_nil, hv, List.append_assoc, List.length_map, List.length_map, Nat.zero_add]
      congr 4
      split <;> rfl) ⟨x5, x6, by simp [stR]⟩
  have pre : sFor (iSeq (e1 (fun d => splitD d (.str " ")) (eVar 3))) (gN 5) g_read_1 [some T, some (.lst rows), some (.lst dl), some (.str p), some (.lst []), x5, x6] = sFor.go (gN 5) g_read_1 (ws.map .str) [some T, some (.lst rows), some (.lst dl), some (.str p), some (.lst []), x5, x6] := by
    refine sFor_eq (ds := ws.map .str) ?_ rfl
    rw [iSeq_ap, e1_ap]
    simp only [eVar_s, eVar_zs, O.bind_ok, hsp]
  unfold goodW
  unfold g_read_2
  cases hg : ws.all fun w => (cellP w).isSome with
  | true =>
    rw [hg, if_pos rfl] at loop
    obtain ⟨ρ', h1, y5, y6, rfl⟩ := loop
    rw [if_pos rfl]
    rw [List.nil_append] at h1
    refine ⟨some (.str p), y5, y6, ?_⟩
    refine seq_to (ρ1 := [some T, some (.lst rows), some (.lst dl), some (.str p), some (.lst []), x5, x6]) rfl ?_
    refine seq_to (pre.trans h1) ?_
    have hz : decide (rows.length < 100000) = true := decide_eq_true (by omega)
    rw [sAppV_ap]
    simp only [eVar_s, eVar_zs, O.bind_ok, lstD_lst]
    rw [show (decide (rows.length < 100000) && decide ((1 : Nat) ≠ 4)) = true from by rw [hz]; rfl, gd_true]
    rfl
  | false =>
    rw [hg, if_neg (by decide)] at loop
    rw [if_neg (by decide)]
    exact seq_to (ρ1 := [some T, some (.lst rows), some (.lst dl), some (.str p), some (.lst []), x5, x6]) rfl (seq_exc (pre.trans loop))
/-! what is read, as a whole -/
theorem read_all {n : Nat} (hn : n ≤ 26000) {t : Str} (ht : TOk n t) :
    ((LLt t).all goodW = true → ∀ r, F_with_drains [.lst (((LLt t).map fun ws => ws.map cellV).map rowD), .lst ((stA starE 0 (LLt t)).map cellD)] = r → (∀ d, r = .ok d → F_read [.str t] = .ok d) ∧ ∀ k, r = .exc k → F_read [.str t] = .exc k) ∧
      ((LLt t).all goodW = false → F_read [.str t] = .exc (.ref Exs.NoLand)) := by
  obtain ⟨_, hlw, hsum, hlen⟩ := LL_ok ht
  obtain ⟨_, hlt, _⟩ := lines_ok ht
  have hsp := split_n ht (by omega)
  have hLL : LLt t = (linesT t).map wordsT := rfl
  have hty : tyN (.str t) = some "str" := rfl
  generalize hT : D.str t = T at *
  have loop := for_or (s := gN 3) (g := g_read_2) D.str (I := fun p ρ => ∃ x3 x5 x6 : Option D, ρ = [some T, some (.lst (((p.map wordsT).map fun ws => ws.map cellV).map rowD)), some (.lst ((stA starE 0 (p.map wordsT)).map cellD)), x3, none, x5, x6]) (E := fun r => r = .exc (.ref Exs.NoLand)) (fun r h => .inl ⟨_, h⟩) (fun p => goodW (wordsT p)) (linesT t) [] [some T, some (.lst []), some (.lst []), none, none, none, none] (by
    rintro p b q e ρ ⟨x3, x5, x6, rfl⟩
    rw [List.nil_append] at e
    have hb : TOk n b := hlt b (by rw [e]; simp)
    have hpl := pre_len e
    have hll : (linesT t).length ≤ n + 1 := by
      have := hlen
      rw [hLL, List.length_map] at this
      exact this
    have hs1 : (stA starE 0 (p.map wordsT)).length + (wordsT b).length ≤ n + 1 := by
      have h1 := stA_len starE (p.map wordsT) 0
      have h2 : ((p.map wordsT ++ [wordsT b]).map List.length).sum ≤ ((LLt t).map List.length).sum := by
        rw [hLL, e, show (p ++ b :: q).map wordsT = (p.map wordsT ++ [wordsT b]) ++ q.map wordsT from by simp]
        exact sum_pre
      rw [List.map_append, List.sum_append] at h2
      simp at h2 h1 ⊢
      omega
    have hz := read_line hn hb T (((p.map wordsT).map fun ws => ws.map cellV).map rowD) ((stA starE 0 (p.map wordsT)).map cellD) (by simp; omega) (by rw [List.length_map]; omega) x3 x5 x6
    cases hg : goodW (wordsT b) with
    | false =>
      rw [hg, if_neg (by decide)] at hz
      rw [if_neg (by decide)]
      exact hz
    | true =>
      rw [hg, if_pos rfl] at hz
      rw [if_pos rfl]
      obtain ⟨z3, z5, z6, hz⟩ := hz
      refine ⟨_, .inl hz, z3, z5, z6, ?_⟩
      simp only [List.map_append, List.map_cons, List.map_nil, stA_snoc, List.length_map, Nat.zero_add]) ⟨none, none, none, rfl⟩
  have hall : (linesT t).all (fun p => goodW (wordsT p)) = (LLt t).all goodW := by rw [hLL, List.all_map]; rfl
  rw [hall] at loop
  have pre : ∀ (rr r : O Out), sFor.go (gN 3) g_read_2 ((linesT t).map .str) [some T, some (.lst []), some (.lst []), none, none, none, none] = rr → sSeq (fun _ => rr) (sRet (eCall (aCons (eVar 1) (aCons (eVar 2) aNil)) F_with_drains)) [] = r → g_read (startD 7 [T]) = r := fun rr r h h' => by
    unfold g_read
    refine seq_to (ρ1 := [some T, none, none, none, none, none, none]) (by simp [startD, isTy, hty]) ?_
    refine seq_to (ρ1 := [some T, some (.lst []), none, none, none, none, none]) rfl ?_
    refine seq_to (ρ1 := [some T, some (.lst []), some (.lst []), none, none, none, none]) rfl ?_
    rw [← h', sSeq_ap, sSeq_ap, ← h]
    congr 1
    refine sFor_eq (ds := (linesT t).map .str) ?_ rfl
    rw [iSeq_ap, e1_ap]
    simp only [eVar_s, eVar_zs, O.bind_ok, hsp]
  constructor
  · intro hg r hr
    rw [hg, if_pos rfl] at loop
    obtain ⟨ρ', h1, x3, x5, x6, rfl⟩ := loop
    rw [List.nil_append] at h1
    have hLL2 : (linesT t).map wordsT = LLt t := rfl
    rw [hLL2] at h1
    generalize D.lst (((LLt t).map fun ws => ws.map cellV).map rowD) = G at *
    generalize D.lst ((stA starE 0 (LLt t)).map cellD) = DD at *
    have hcall : (eCall (aCons (eVar 1) (aCons (eVar 2) aNil)) F_with_drains) [some T, some G, some DD, x3, none, x5, x6] = r := by rw [← hr]; rfl
    constructor
    · rintro d rfl
      refine runF_rt rfl (by decide) (ρ := [some T, some G, some DD, x3, none, x5, x6]) (pre _ _ h1 ?_)
      exact ret_eq hcall
    · rintro k rfl
      refine runF_exc rfl (by decide) (pre _ _ h1 ?_)
      show sRet _ _ = _
      rw [sRet_ap, hcall]
      rfl
  · intro hg
    rw [hg, if_neg (by decide)] at loop
    exact runF_exc rfl (by decide) (pre _ _ loop rfl)
theorem read_not {d : D} (h : isTD "str" d = .ok (.bl false)) : F_read [d] = .exc (.ref Exs.NoLand) := by
  refine runF_exc rfl (by decide) ?_
  unfold g_read
  refine seq_exc ?_
  simp [startD, h]
theorem refused_eq {d : D} (h : F_read [d] = .exc (.ref Exs.NoLand)) : F_law_is_refused [d] = .ok (.bl true) := by
  refine runF_rt rfl (by decide) (ρ := [some d, none]) ?_
  unfold g_law_is_refused
  refine seq_rt ?_
  unfold sTry
  rw [show sK (sDrop (eCall (aCons (eVar 0) aNil) F_read)) (startD 2 [d]) = .ok (.ex (.ref Exs.NoLand) [some d, none]) from by
    unfold sK
    rw [show sDrop (eCall (aCons (eVar 0) aNil) F_read) (startD 2 [d]) = .exc (.ref Exs.NoLand) from by simp [startD, h]]
    rfl]
  simp [hMap, Exl.wNoLand]
theorem found_none {d : D} (h : F_read [d] = .exc (.ref Exs.NoLand)) : F_law_found [d] = .ok .non := by
  refine runF_rt rfl (by decide) (ρ := [some d, none, none]) ?_
  unfold g_law_found
  refine seq_rt ?_
  unfold sTry
  rw [show sK (sSet 1 (eCall (aCons (eVar 0) aNil) F_read)) (startD 3 [d]) = .ok (.ex (.ref Exs.NoLand) [some d, none, none]) from by
    unfold sK
    rw [show sSet 1 (eCall (aCons (eVar 0) aNil) F_read) (startD 3 [d]) = .exc (.ref Exs.NoLand) from by simp [startD, h]]
    rfl]
  simp [hMap, Exl.wNoLand]
theorem found_land {d : D} {g : List (List (Option Int))} {o : List (List Key × Bool)} {R C : Nat} (hg : GOk g R C) (h : F_read [d] = .ok (.land ⟨g, o⟩)) : F_law_found [d] = .ok (.tup [.lst (g.map rowD), .lst ((drainsL ⟨g, o⟩ R C).map cellD)]) := by
  have h1 := heights_eq (L := ⟨g, o⟩) hg
  have h2 := drains_eq (L := ⟨g, o⟩) hg
  have kL : Kd.land.is (.land ⟨g, o⟩) = true := rfl
  refine runF_rt rfl (by decide) (ρ := [some d, some (.land ⟨g, o⟩), none]) ?_
  unfold g_law_found
  generalize D.land ⟨g, o⟩ = L at *
  refine seq_to (ρ1 := [some d, some L, none]) ?_ (ret_eq ?_)
  · unfold sTry
    rw [show sK (sSet 1 (eCall (aCons (eVar 0) aNil) F_read)) (startD 3 [d]) = .ok (.nx [some d, some L, none]) from by
      unfold sK
      rw [show sSet 1 (eCall (aCons (eVar 0) aNil) F_read) (startD 3 [d]) = .ok (.nx [some d, some L, none]) from by simp [startD, h]]]
  · have h1' : F_Land_heights [L] = .ok (.lst (g.map rowD)) := h1
    generalize D.lst (g.map rowD) = G at *
    generalize D.lst ((drainsL ⟨g, o⟩ R C).map cellD) = DD at *
    simp [kL, h1', h2]
/-! good texts and others -/
theorem cellL_of (w : Str) : cellL w = match cellP w with
    | none => some (-1)
    | some none => none
    | some (some n) => if 1000000000 < n then some (-1) else some n := by
  unfold cellL cellP
  by_cases h : w = ("#" : Str)
  · rw [if_pos h, if_pos h]
  · rw [if_neg h, if_neg h]
    cases numP (stripW w) <;> rfl
theorem cellP_nonneg {w : Str} {n : Int} (h : cellP w = some (some n)) : 0 ≤ n := by
  unfold cellP at h
  by_cases hw : w = ("#" : Str)
  · rw [if_pos hw] at h; cases h
  · rw [if_neg hw] at h
    unfold numP at h
    split at h
    · have : ((NumText.digitsVal (tl (stripW w)) : Nat) : Int) = n := by simpa using h
      omega
    · cases h
theorem cell_good {w : Str} (h : cellL w ≠ some (-1)) : cellP w = some (cellL w) ∧ hOk (cellL w) = true := by
  rw [cellL_of] at h ⊢
  cases hp : cellP w with
  | none => rw [hp] at h; exact absurd rfl h
  | some v =>
    rw [hp] at h
    cases v with
    | none => exact ⟨rfl, rfl⟩
    | some n =>
      dsimp only at h ⊢
      have h0 := cellP_nonneg hp
      by_cases hn : 1000000000 < n
      · rw [if_pos hn] at h; exact absurd rfl h
      · rw [if_neg hn]
        refine ⟨rfl, ?_⟩
        simp [hOk, h0]
        omega
theorem star_good {w : Str} (h : cellL w ≠ some (-1)) : starE w = starL w ∧ (starE w = true → cellL w ≠ none) := by
  obtain ⟨h1, _⟩ := cell_good h
  have key : starE w = true → w ≠ ("#" : Str) ∧ 1 < (tl w).length := fun hs => by
    have hw : w ≠ ("#" : Str) := fun e => by
      rw [e] at hs
      exact absurd hs (by decide +kernel)
    refine ⟨hw, ?_⟩
    unfold cellP at h1
    rw [if_neg hw] at h1
    unfold numP figs stripW at h1
    rw [if_pos hs] at h1
    rw [cut_last] at h1
    apply Nat.lt_of_not_le
    intro hle
    have : (tl w).take ((tl w).length - 1) = [] := by
      rw [show (tl w).length - 1 = 0 from by omega]; rfl
    rw [this] at h1
    simp at h1
  constructor
  · unfold starL
    cases hs : starE w with
    | false => simp
    | true => rw [decide_eq_true (key hs).2]; rfl
  · intro hs e
    have hw := (key hs).1
    rw [e] at h1
    unfold cellP at h1
    rw [if_neg hw] at h1
    cases hn : numP (stripW w) <;> rw [hn] at h1 <;> simp at h1
theorem goodR_iff {N C : Nat} {r : List (Option Int)} : goodR N C r = true ↔ some (-1) ∉ r ∧ r.length = C ∧ r.length ≤ 30 ∧ N ≤ 30 := by
  simp [goodR]
theorem found_good {n : Nat} (hn : n ≤ 26000) {t : Str} (ht : TOk n t) (hg : goodT t = true) : F_law_found [.str t] = .ok (dueD t) := by
  obtain ⟨hne, hlw, hsum, hlen⟩ := LL_ok ht
  have hgr : ∀ r ∈ rowsT t, goodR (rowsT t).length ((rowsT t).headD []).length r = true := fun r hr => List.all_eq_true.mp hg r hr
  have hRL : (rowsT t).length = (LLt t).length := by unfold rowsT; rw [List.length_map]
  obtain ⟨w0, Lt, hL0⟩ := List.exists_cons_of_ne_nil hne
  have hr0 : w0.map cellL ∈ rowsT t := by unfold rowsT; rw [hL0]; simp
  have hC : ((rowsT t).headD []).length = w0.length := by unfold rowsT; rw [hL0]; simp
  have g0 := goodR_iff.mp (hgr _ hr0)
  have hw0 : w0 ≠ [] := (hlw w0 (by rw [hL0]; simp)).1
  have hw1 : 1 ≤ w0.length := List.length_pos_iff.mpr hw0
  have hR1 : 1 ≤ (rowsT t).length := by rw [hRL, hL0]; simp
  rw [List.length_map] at g0
  generalize hRdef : (rowsT t).length = R at *
  generalize hCdef : ((rowsT t).headD []).length = C at *
  have hG : GOk (rowsT t) R C := ⟨hR1, g0.2.2.2, by omega, by omega, hRdef, fun r hr => (goodR_iff.mp (hgr r hr)).2.1⟩
  have hcl : ∀ ws ∈ LLt t, ∀ w ∈ ws, cellL w ≠ some (-1) := fun ws hws w hw e => by
    have := (goodR_iff.mp (hgr (ws.map cellL) (List.mem_map.mpr ⟨ws, hws, rfl⟩))).1
    exact this (by rw [← e]; exact List.mem_map.mpr ⟨w, hw, rfl⟩)
  have hgok : gOk (rowsT t) := fun r hr h hh => by
    obtain ⟨ws, hws, rfl⟩ := List.mem_map.mp hr
    obtain ⟨w, hw, rfl⟩ := List.mem_map.mp hh
    exact (cell_good (hcl ws hws w hw)).2
  have hall : (LLt t).all goodW = true := List.all_eq_true.mpr fun ws hws => List.all_eq_true.mpr fun w hw => by
    rw [(cell_good (hcl ws hws w hw)).1]; rfl
  have hrows : ((LLt t).map fun ws => ws.map cellV) = rowsT t := List.map_congr_left fun ws hws => List.map_congr_left fun w hw => by
    unfold cellV
    rw [(cell_good (hcl ws hws w hw)).1]; rfl
  have hds : stA starE 0 (LLt t) = stA starL 0 (LLt t) := stA_congr _ _ fun ws hws w hw => (star_good (hcl ws hws w hw)).1
  have hrl : ∀ ws ∈ LLt t, ws.length = C := fun ws hws => by
    have := hG.row (ws.map cellL) (List.mem_map.mpr ⟨ws, hws, rfl⟩)
    rwa [List.length_map] at this
  let q : Cell → Bool := fun c => starE (((LLt t).getD c.1.toNat []).getD c.2.toNat ("" : Str))
  have hq : ∀ (k : Nat) ws, (LLt t)[k]? = some ws → ∀ (j : Nat) w, ws[j]? = some w → q ((k : Int), (j : Int)) = starE w := fun k ws hk j w hj => by
    show starE (((LLt t).getD k []).getD j ("" : Str)) = starE w
    simp only [List.getD_eq_getElem?_getD, hk, hj, Option.getD_some]
  have hfil : stA starE 0 (LLt t) = (cellsL R C).filter q := by
    rw [stA_filter (q := q) (C := C) (LLt t) 0 hrl fun k ws hk j w hj => by rw [Nat.zero_add]; exact hq k ws hk j w hj]
    rw [← hRL]
    unfold cellsL
    rw [List.range_eq_range']
    rfl
  have hin : ∀ c ∈ stA starE 0 (LLt t), inb R C c = true ∧ getG (rowsT t) c ≠ none := fun c hc => by
    rw [hfil] at hc
    have h1 := cells_in R C c (List.mem_filter.mp hc).1
    refine ⟨h1, ?_⟩
    have h2 := (List.mem_filter.mp hc).2
    obtain ⟨i, j, rfl, hi, hj⟩ := inb_nat h1
    have hi' : i < (LLt t).length := by omega
    have hk : (LLt t)[i]? = some (LLt t)[i] := List.getElem?_eq_getElem hi'
    have hwm : (LLt t)[i] ∈ LLt t := List.getElem_mem hi'
    have hjl : j < ((LLt t)[i]).length := by rw [hrl _ hwm]; exact hj
    have hjk : ((LLt t)[i])[j]? = some ((LLt t)[i])[j] := List.getElem?_eq_getElem hjl
    rw [hq i _ hk j _ hjk] at h2
    have h3 := (star_good (hcl _ hwm _ (List.getElem_mem hjl))).2 h2
    have h4 : getG (rowsT t) ((i : Int), (j : Int)) = cellL ((LLt t)[i])[j] := by
      show ((rowsT t).getD i []).getD j none = _
      unfold rowsT
      simp only [List.getD_eq_getElem?_getD, List.getElem?_map, hk, hjk, Option.map_some, Option.getD_some]
    rw [h4]; exact h3
  have hdl : (stA starE 0 (LLt t)).length ≤ 900 := by
    rw [hfil]
    exact Nat.le_trans (List.length_filter_le _ _) (cells_few hG.r30 hG.c30)
  obtain ⟨o, hwd, ho, _⟩ := with_drains_eq hG hgok hin hdl
  have hrd := (((read_all hn ht).1 hall _ rfl).1 (.land ⟨rowsT t, o⟩) (by rw [hrows]; exact hwd))
  have hf := found_land hG hrd
  have hdr : drainsL ⟨rowsT t, o⟩ R C = stA starL 0 (LLt t) := by
    rw [← hds, hfil]
    refine List.filter_congr fun c hc => ?_
    show openB o c = _
    rw [ho, hfil]
    cases hqc : q c with
    | true => exact decide_eq_true (List.mem_filter.mpr ⟨hc, hqc⟩)
    | false =>
      refine decide_eq_false fun z => ?_
      have := (List.mem_filter.mp z).2
      rw [hqc] at this
      cases this
  rw [hdr] at hf
  rw [hf]
  unfold dueD
  rw [if_pos hg]
theorem hD_bad {n : Int} (h : 1000000000 < n) : F_is_height [hD (some n)] = .ok (.bl false) := by
  rw [is_height_h]
  have : hOk (some n) = false := by
    simp only [hOk, Bool.and_eq_false_iff, decide_eq_false_iff_not]
    omega
  rw [this]
theorem read_bad {n : Nat} (hn : n ≤ 26000) {t : Str} (ht : TOk n t) (hg : goodT t = false) : F_read [.str t] = .exc (.ref Exs.NoLand) := by
  obtain ⟨hne, hlw, hsum, hlen⟩ := LL_ok ht
  cases hall : (LLt t).all goodW with
  | false => exact (read_all hn ht).2 hall
  | true =>
    refine ((read_all hn ht).1 hall _ rfl).2 _ ?_
    have hcp : ∀ ws ∈ LLt t, ∀ w ∈ ws, ∃ v, cellP w = some v ∧ cellV w = v := fun ws hws w hw => by
      have := List.all_eq_true.mp (List.all_eq_true.mp hall ws hws) w hw
      obtain ⟨v, hv⟩ := Option.isSome_iff_exists.mp this
      exact ⟨v, hv, by unfold cellV; rw [hv]; rfl⟩
    have hLs : (((LLt t).map fun ws => ws.map cellV).map rowD) = ((LLt t).map fun ws => (ws.map cellV).map hD).map .lst := by
      rw [List.map_map, List.map_map]; rfl
    rw [hLs]
    have hR1 : 1 ≤ (LLt t).length := List.length_pos_iff.mpr hne
    by_cases h30 : 30 < (LLt t).length
    · exact with_drains_bad (no_land1 (.inr ⟨_, rfl, .inr (by rw [List.length_map, List.length_map]; exact h30)⟩)) Exl.wNoLand
    obtain ⟨w0, Lt, hL0⟩ := List.exists_cons_of_ne_nil hne
    have hd0 : (((LLt t).map fun ws => (ws.map cellV).map hD).map D.lst)[0]? = some (.lst ((w0.map cellV).map hD)) := by rw [hL0]; rfl
    have hn0 : lenD (.lst ((w0.map cellV).map hD)) = .ok (.int (w0.length : Int)) := by simp
    have hw1 : 1 ≤ w0.length := List.length_pos_iff.mpr (hlw w0 (by rw [hL0]; simp)).1
    have hmem : ∀ d ∈ ((LLt t).map fun ws => (ws.map cellV).map hD).map D.lst, ∃ ws ∈ LLt t, d = .lst ((ws.map cellV).map hD) := fun d hd => by
      obtain ⟨l, hl, rfl⟩ := List.mem_map.mp hd
      obtain ⟨ws, hws, rfl⟩ := List.mem_map.mp hl
      exact ⟨ws, hws, rfl⟩
    by_cases hlen2 : ∃ ws ∈ LLt t, 30 < ws.length ∨ ws.length ≠ w0.length
    · obtain ⟨ws, hws, hb⟩ := hlen2
      refine with_drains_bad (no_land2 (n := w0.length) (by rw [List.length_map, List.length_map]; exact hR1) (by rw [List.length_map, List.length_map]; omega) hd0 hn0 (fun d hd => ?_) ⟨.lst ((ws.map cellV).map hD), ?_, .inr ⟨_, rfl, ?_⟩⟩) Exl.wNoLand
      · obtain ⟨ws, hws, rfl⟩ := hmem d hd
        exact row_either _
      · exact List.mem_map.mpr ⟨_, List.mem_map.mpr ⟨ws, hws, rfl⟩, rfl⟩
      · rw [List.length_map, List.length_map]; exact .inr hb
    · have hlen3 : ∀ ws ∈ LLt t, ws.length = w0.length ∧ ws.length ≤ 30 := fun ws hws => by
        constructor
        · by_cases h : ws.length = w0.length
          · exact h
          · exact absurd ⟨ws, hws, .inr h⟩ hlen2
        · by_cases h : 30 < ws.length
          · exact absurd ⟨ws, hws, .inl h⟩ hlen2
          · omega
      -- a height that is none
      have hbad : ∃ ws ∈ LLt t, ∃ w ∈ ws, cellL w = some (-1) := by
        apply Classical.byContradiction
        intro hno
        have : goodT t = true := List.all_eq_true.mpr fun r hr => by
          obtain ⟨ws, hws, rfl⟩ := List.mem_map.mp hr
          refine goodR_iff.mpr ⟨fun hm => ?_, ?_, ?_, ?_⟩
          · obtain ⟨w, hw, e⟩ := List.mem_map.mp hm
            exact hno ⟨ws, hws, w, hw, e⟩
          · rw [List.length_map, (hlen3 ws hws).1]
            unfold rowsT
            rw [hL0]; simp
          · rw [List.length_map]; exact (hlen3 ws hws).2
          · unfold rowsT
            rw [List.length_map]; omega
        rw [hg] at this
        cases this
      obtain ⟨ws, hws, w, hw, e⟩ := hbad
      obtain ⟨v, hv, hvv⟩ := hcp ws hws w hw
      have hbig : ∃ i : Int, v = some i ∧ 1000000000 < i := by
        rw [cellL_of, hv] at e
        cases v with
        | none => cases e
        | some i =>
          refine ⟨i, rfl, ?_⟩
          by_cases h : 1000000000 < i
          · exact h
          · have e' : (if 1000000000 < i then some (-1) else some i) = some (-1) := e
            rw [if_neg h] at e'
            have := cellP_nonneg hv
            have e2 : i = -1 := by simpa using e'
            omega
      obtain ⟨i, rfl, hi⟩ := hbig
      refine with_drains_bad (no_height (n := w0.length) (by rw [List.length_map]; exact hR1) (by rw [List.length_map]; omega) hw1 ((hlen3 w0 (by rw [hL0]; simp)).2) (fun l hl => ?_) (fun l hl d hd => ?_) ⟨(ws.map cellV).map hD, List.mem_map.mpr ⟨ws, hws, rfl⟩, hD (some i), ?_, hD_bad hi⟩) Exl.wNoHeight
      · obtain ⟨ws, hws, rfl⟩ := List.mem_map.mp hl
        rw [List.length_map, List.length_map]
        exact (hlen3 ws hws).1
      · obtain ⟨ws, hws, rfl⟩ := List.mem_map.mp hl
        obtain ⟨h, _, rfl⟩ := List.mem_map.mp hd
        exact ⟨_, is_height_h h⟩
      · rw [← hvv]
        exact List.mem_map.mpr ⟨_, List.mem_map.mpr ⟨w, hw, rfl⟩, rfl⟩
/-! what is found is what is due -/
theorem eq_due (t : Str) : eqD false (dueD t) (dueD t) = .ok (.bl true) := by
  unfold dueD
  split
  · obtain ⟨h1, h2⟩ := laid_list rowD 60 lay_row (rowsT t)
    obtain ⟨h3, h4⟩ := laid_list cellD 60 lay_cell (stA starL 0 (LLt t))
    have hs : SeqAt.shaped (toPy (.tup [.lst ((rowsT t).map rowD), .lst ((stA starL 0 (LLt t)).map cellD)])) = true := by
      simp only [SeqAt.shaped, toPy_tup, toPyA, toPy_lst, PyData.canLay0, PyData.canLayAll0, PyData.depth, PyData.depthAll, h1, h3, Bool.true_and, Bool.and_true, decide_eq_true_eq]
      omega
    unfold eqD
    rw [hs, toPy_tup]
    simp only [toPyA, toPy_lst, PyData.eqv, PyData.eqvAll, eqv_list rowD eqv_row, eqv_list cellD eqv_cell, decide_true, Bool.and_self, gd_true]
    rfl
  · unfold eqD
    rw [toPy_non]
    rfl
theorem found_eq {n : Nat} (hn : n ≤ 26000) {t : Str} (ht : TOk n t) : F_law_found [.str t] = .ok (dueD t) ∧ (goodT t = false → F_law_is_refused [.str t] = .ok (.bl true)) := by
  cases hg : goodT t with
  | true => exact ⟨found_good hn ht hg, fun z => by cases z⟩
  | false =>
    have h := read_bad hn ht hg
    refine ⟨?_, fun _ => refused_eq h⟩
    rw [found_none h]
    unfold dueD
    rw [hg]
    rfl
theorem store_gen {i : Nat} {ρ : Rho} {fg fe fv : EF} {Ls : List (List D)} {a b : Nat} {l : List D} {d : D} (hi : eVar i ρ = .ok (.lst (Ls.map .lst))) (hg : fg ρ = .ok (.int (a : Int))) (hl : Ls[a]? = some l) (him : immA l = true) (he : fe ρ = .ok (.int (b : Int))) (hb : b < l.length) (hv : fv ρ = .ok d) (hd : d.imm = true) :
    sStore i (gSub i fg) (pSub i fg) fe fv ρ = .ok (.nx (ρ.set i (some (.lst ((Ls.set a (l.set b d)).map .lst))))) := by
  have hal : a < Ls.length := (List.getElem?_eq_some_iff.mp hl).1
  have hix : ∀ {n m : Nat}, m < n → ixN n (m : Int) = some m := fun {n m} h => by
    unfold ixN
    rw [if_pos (by omega), if_pos (by omega)]
    simp
  have hixn : ixN (Ls.map D.lst).length (a : Int) = some a := hix (by rw [List.length_map]; exact hal)
  have hat : atI (Ls.map D.lst) (a : Int) = some (.lst l) := by
    unfold atI
    rw [hixn]
    show (Ls.map D.lst)[a]? = _
    rw [List.getElem?_map, hl]
    rfl
  have hgs : gSub i fg ρ = .ok l := by
    unfold gSub
    rw [hi, O.bind_ok]
    show ((fg ρ).bind _) = _
    rw [hg, O.bind_ok]
    show ((ofO (atI (Ls.map D.lst) (a : Int))).bind fun r => (lstD r).bind fun r => gd (immA r) (.ok r)) = _
    rw [hat, ofO_some, O.bind_ok]
    show gd (immA l) (O.ok l) = _
    rw [him]; rfl
  have hps : pSub i fg ρ (l.set b d) = some (.lst ((Ls.set a (l.set b d)).map .lst)) := by
    unfold pSub
    rw [hi, hg]
    show ((ixN (Ls.map D.lst).length (a : Int)).map fun j => D.lst ((Ls.map D.lst).set j (.lst (l.set b d)))) = _
    rw [hixn, List.map_set]
    rfl
  rw [sStore_ap, hv, O.bind_ok, hd, gd_true, hgs, O.bind_ok, he, O.bind_ok]
  show ((ofO (ixN l.length (b : Int))).bind _) = _
  rw [hix hb, ofO_some, O.bind_ok, hps]
  rfl
theorem ix_modD {l : List D} {x : Int} {n : Nat} (hn : l.length = n) (h0 : 0 < n) : ∃ d, ixD (.lst l) (.int (x % (n : Int))) = .ok d ∧ d ∈ l := by
  obtain ⟨k, hk⟩ := Int.eq_ofNat_of_zero_le (Int.emod_nonneg x (b := (n : Int)) (by omega))
  have := Int.emod_lt_of_pos x (b := (n : Int)) (by omega)
  have hkl : k < l.length := by omega
  refine ⟨l[k], ?_, List.getElem_mem hkl⟩
  rw [hk, ix_lst_nat, List.getElem?_eq_getElem hkl]
  rfl
/-! the law's text -/
def tok (n : Nat) (w : Str) : Bool := decide (w.length ≤ n) && (tl w).all fun c => decide (c < 1114112)
theorem TOk.of {n : Nat} {w : Str} (h : tok n w = true) : TOk n w := by
  unfold tok at h
  rw [Bool.and_eq_true, decide_eq_true_eq, List.all_eq_true] at h
  exact ⟨h.1, fun c hc => of_decide_eq_true (h.2 c hc)⟩
theorem tok_all {n : Nat} {l : List Str} (h : l.all (tok n) = true) : ∀ w ∈ l, TOk n w := fun w hw => .of (List.all_eq_true.mp h w hw)
theorem TOk.up {n m : Nat} {w : Str} (h : TOk n w) (hm : n ≤ m) : TOk m w := ⟨Nat.le_trans h.l hm, h.c⟩
theorem TOk.app {n m : Nat} {a b : Str} (h : TOk n a) (h' : TOk m b) : TOk (n + m) (a ++ b) := by
  refine ⟨?_, fun c hc => ?_⟩
  · rw [Str.length_append]
    have := h.l
    have := h'.l
    omega
  · rw [tl_append, List.mem_append] at hc
    exact hc.elim (h.c c) (h'.c c)
theorem TOk.cut {n : Nat} {a : Str} (h : TOk n a) (lo hi : Option Int) : TOk n (cutS a lo hi) := by
  refine ⟨?_, fun c hc => ?_⟩
  · have h1 : (cutS a lo hi).length ≤ (tl a).length := by
      rw [len_tl]
      show ((((tl a).drop _).take _).toArray).toList.length ≤ _
      rw [List.length_take, List.length_drop]
      omega
    have := h.l
    rw [len_tl] at this
    omega
  · have hc : c ∈ ((tl a).drop (HT.sIx a.length 0 lo)).take (HT.sIx a.length a.length hi - HT.sIx a.length 0 lo) := hc
    exact h.c c (List.mem_of_mem_drop (List.mem_of_mem_take hc))
theorem TOk.one {n : Nat} {s : Str} (h : TOk n s) {ch : Nat} (hc : ch ∈ tl s) : TOk 1 ⟨#[ch]⟩ := ⟨Nat.le_refl 1, fun c hc' => by
  have : c ∈ [ch] := hc'
  rw [List.mem_singleton.mp this]; exact h.c ch hc⟩
theorem TOk.join {n k : Nat} {y : Str} {ps : List Str} (hy : TOk 1 y) (h : ∀ p ∈ ps, TOk n p) (hk : ps.length ≤ k) : TOk (k * (n + 1)) (Txt.join y ps) := by
  refine ⟨?_, fun c hc => ?_⟩
  · rw [len_tl, tl_joinT]
    have := len_joinL (S := tl y) (m := n) (ps := ps.map tl) fun p hp => by
      obtain ⟨w, hw, rfl⟩ := List.mem_map.mp hp
      rw [← len_tl]; exact (h w hw).l
    rw [List.length_map] at this
    have h1 := hy.l
    rw [len_tl] at h1
    exact Nat.le_trans this (Nat.mul_le_mul hk (by omega))
  · rw [tl_joinT] at hc
    rcases mem_joinL hc with h1 | ⟨p, hp, h1⟩
    · exact hy.c c h1
    · obtain ⟨w, hw, rfl⟩ := List.mem_map.mp hp
      exact (h w hw).c c h1
theorem exists_map {β : Type} {e : β → D} {Q : β → Prop} : ∀ {xs : List D}, (∀ x ∈ xs, ∃ b, x = e b ∧ Q b) → ∃ bs : List β, xs = bs.map e ∧ ∀ b ∈ bs, Q b
  | [], _ => ⟨[], rfl, by simp⟩
  | x :: xs, h => by
    obtain ⟨b, hb, hq⟩ := h x (by simp)
    obtain ⟨bs, hbs, hqs⟩ := exists_map (xs := xs) fun y hy => h y (List.mem_cons_of_mem _ hy)
    refine ⟨b :: bs, by rw [hb, hbs]; rfl, fun c hc => ?_⟩
    rcases List.mem_cons.mp hc with e | e
    · rw [e]; exact hq
    · exact hqs c e
theorem ix_modT {l : List Str} {n : Nat} (hn : l.length = n) (h0 : 0 < n) (x : Int) : ∃ w ∈ l, ixD (.lst (l.map .str)) (.int (x % (n : Int))) = .ok (.str w) := by
  obtain ⟨d, h1, h2⟩ := ix_modD (l := l.map D.str) (x := x) (n := n) (by rw [List.length_map]; exact hn) h0
  obtain ⟨w, hw, rfl⟩ := List.mem_map.mp h2
  exact ⟨w, hw, h1⟩
theorem ix_modS {s : Str} (h0 : 0 < s.length) (hl : s.length ≤ 100000) (x : Int) : ∃ ch ∈ tl s, ixD (.str s) (.int (x % (s.length : Int))) = .ok (.str ⟨#[ch]⟩) := by
  obtain ⟨k, hk⟩ := Int.eq_ofNat_of_zero_le (Int.emod_nonneg x (b := (s.length : Int)) (by omega))
  have := Int.emod_lt_of_pos x (b := (s.length : Int)) (by omega)
  have hkl : k < (tl s).length := by rw [← len_tl]; omega
  refine ⟨(tl s)[k], List.getElem_mem hkl, ?_⟩
  show ((ofO (atI (tl s) _)).bind fun ch => gd (decide (s.length ≤ 100000)) (O.ok (D.str ⟨#[ch]⟩))) = _
  have ha : atI (tl s) (x % (s.length : Int)) = some (tl s)[k] := by
    rw [hk]
    unfold atI
    rw [ixN_nat hkl]
    exact List.getElem?_eq_getElem hkl
  rw [ha, ofO_some, O.bind_ok, decide_eq_true hl, gd_true]
theorem cat_eq {xs ys : List D} (h : xs.length + ys.length ≤ 1000) : catD (.lst xs) (.lst ys) = .ok (.lst (xs ++ ys)) := by
  show gd (decide (xs.length + ys.length ≤ 100000)) _ = _
  rw [decide_eq_true (by omega), gd_true]
def lineD (ws : List Str) : D := .lst (ws.map .str)
/-- some lines of some words -/
structure LLok (LL : List (List Str)) (r w : Nat) : Prop where
  l1 : 1 ≤ LL.length
  l : LL.length ≤ r
  w : ∀ ws ∈ LL, 1 ≤ ws.length ∧ ws.length ≤ w ∧ ∀ x ∈ ws, TOk 12 x
theorem words_eq (ns : List Int) : ∃ (LL : List (List Str)) (W : Nat), F_law_words [.lst (ns.map .int)] = .ok (.lst (LL.map lineD)) ∧ LLok LL 4 4 ∧ ∀ ws ∈ LL, ws.length = W := by
  have c0 : F_law_cell_at [.lst (ns.map .int), .int 0] = .ok (.int (ns.getD 0 0)) := cell_at_eq ns 0
  have cc : ∀ k : Nat, F_law_cell_at [.lst (ns.map .int), .int (k : Int)] = .ok (.int (ns.getD k 0)) := fun k => cell_at_eq ns k
  generalize ns.getD 0 0 = x at c0
  obtain ⟨a, ha⟩ := Int.eq_ofNat_of_zero_le (Int.emod_nonneg x (b := 4) (by decide))
  have ha4 := Int.emod_lt_of_pos x (b := 4) (by decide)
  obtain ⟨b, hb⟩ := Int.eq_ofNat_of_zero_le (Int.emod_nonneg (x / 4) (b := 4) (by decide))
  have hb4 := Int.emod_lt_of_pos (x / 4) (b := 4) (by decide)
  generalize hS : D.lst (ns.map .int) = S at *
  have hR : ∀ y1 y2 y3 y4 y5 y6 : Option D, (e2 addD (eC (.int 1)) (e2 modD (eCall (aCons (eVar 0) (aCons (eC (.int 0)) aNil)) F_law_cell_at) (eC (.int 4)))) [some S, y1, y2, y3, y4, y5, y6] = .ok (.int ((1 + a : Nat) : Int)) := fun y1 y2 y3 y4 y5 y6 => by
    have : (((1 + a : Nat)) : Int) = 1 + (a : Int) := by omega
    rw [this]
    simp [c0, ha]
  have hW : ∀ y1 y2 y3 y4 y5 y6 : Option D, (e2 addD (eC (.int 1)) (e2 modD (e2 divD (eCall (aCons (eVar 0) (aCons (eC (.int 0)) aNil)) F_law_cell_at) (eC (.int 4))) (eC (.int 4)))) [some S, y1, y2, y3, y4, y5, y6] = .ok (.int ((1 + b : Nat) : Int)) := fun y1 y2 y3 y4 y5 y6 => by
    have : (((1 + b : Nat)) : Int) = 1 + (b : Int) := by omega
    rw [this]
    simp [c0, hb]
  obtain ⟨ρ1, h1, LL, hl, hw, y2, y3, y4, y5, y6, rfl⟩ := for_presC (s := gN 2) (g := g_law_words_2) (fun (i : Nat) => D.int (i : Int))
    (I := fun p ρ => ∃ LL : List (List Str), LL.length = p.length ∧ (∀ ws ∈ LL, ws.length = 1 + b ∧ ∀ w ∈ ws, TOk 12 w) ∧ ∃ y2 y3 y4 y5 y6 : Option D, ρ = [some S, some (.lst (LL.map lineD)), y2, y3, y4, y5, y6])
    (List.range (1 + a)) [] [some S, some (.lst []), none, none, none, none, none] (by
      rintro p i q e ρ ⟨LL, hl, hw, y2, y3, y4, y5, y6, rfl⟩
      rw [List.nil_append] at e
      have hpl := pre_len e
      rw [List.length_range] at hpl
      have hgn : gN 2 (.int (i : Int)) [some S, some (.lst (LL.map lineD)), y2, y3, y4, y5, y6] = .ok [some S, some (.lst (LL.map lineD)), some (.int (i : Int)), y3, y4, y5, y6] := by simp
      rw [hgn, O.bind_ok]
      have hz : decide ((LL.map lineD).length < 100000) = true := decide_eq_true (by rw [List.length_map]; omega)
      generalize hLD : LL.map lineD = LD at *
      obtain ⟨ρ2, h2, ws, wl, ww, z4, z5, z6, rfl⟩ := for_presC (s := gN 4) (g := g_law_words_1) (fun (j : Nat) => D.int (j : Int))
        (I := fun p ρ => ∃ ws : List Str, ws.length = p.length ∧ (∀ w ∈ ws, TOk 12 w) ∧ ∃ y4 y5 y6 : Option D, ρ = [some S, some (.lst LD), some (.int (i : Int)), some (lineD ws), y4, y5, y6])
        (List.range (1 + b)) [] [some S, some (.lst LD), some (.int (i : Int)), some (.lst []), y4, y5, y6] (by
          rintro p2 j q2 e2' ρ ⟨ws, wl, ww, y4, y5, y6, rfl⟩
          rw [List.nil_append] at e2'
          have hpl2 := pre_len e2'
          rw [List.length_range] at hpl2
          have hcell := cc (4 + i * 4 + j)
          generalize ns.getD (4 + i * 4 + j) 0 = c at hcell
          obtain ⟨m1, hm1⟩ := Int.eq_ofNat_of_zero_le (Int.emod_nonneg (c / 6) (b := 1000000001) (by decide))
          have hm1' := Int.emod_lt_of_pos (c / 6) (b := 1000000001) (by decide)
          obtain ⟨m2, hm2⟩ := Int.eq_ofNat_of_zero_le (Int.emod_nonneg (c / 6) (b := 12) (by decide))
          have hm2' := Int.emod_lt_of_pos (c / 6) (b := 12) (by decide)
          have hs1 := strI_eq (n := m1) (by omega)
          have hs2 := strI_eq (n := m2) (by omega)
          have hl1 := numS_len (n := m1) (by omega)
          have hl2 := numS_len (n := m2) (by omega)
          have hok : ∀ m : Nat, ∀ c ∈ tl (numS (m : Int)), c < 1114112 := fun m c hc => by
            rw [tl_numS] at hc
            have := numL_digits m c hc
            omega
          have hst1 : ("*" : Str).length = 1 := rfl
          have hadd := addS_eq (a := numS (m2 : Int)) (b := ("*" : Str)) (by omega)
          have t1 : TOk 12 (numS (m1 : Int)) := ⟨by omega, hok m1⟩
          have t2 : TOk 12 (numS (m2 : Int) ++ ("*" : Str)) := (TOk.app (⟨hl2, hok m2⟩ : TOk 10 (numS (m2 : Int))) (TOk.of (by decide +kernel) : TOk 1 ("*" : Str))).up (by omega)
          have hgn2 : gN 4 (.int (j : Int)) [some S, some (.lst LD), some (.int (i : Int)), some (lineD ws), y4, y5, y6] = .ok [some S, some (.lst LD), some (.int (i : Int)), some (lineD ws), some (.int (j : Int)), y5, y6] := by simp
          rw [hgn2, O.bind_ok]
          obtain ⟨w, hwm, hix⟩ := ix_modT (l := [("#" : Str), numS (m1 : Int), numS (m2 : Int) ++ ("*" : Str), ("1000000000" : Str), ("0" : Str), ("0*" : Str)]) (n := 6) rfl (by decide) c
          have hwt : TOk 12 w := by
            simp only [List.mem_cons, List.mem_nil_iff, or_false] at hwm
            rcases hwm with rfl | rfl | rfl | rfl | rfl | rfl
            · exact .of (by decide +kernel)
            · exact t1
            · exact t2
            · exact .of (by decide +kernel)
            · exact .of (by decide +kernel)
            · exact .of (by decide +kernel)
          have hcell' : F_law_cell_at [S, .int (4 + (i : Int) * 4 + (j : Int))] = .ok (.int c) := by
            rw [← hcell]; congr 3
          refine ⟨[some S, some (.lst LD), some (.int (i : Int)), some (lineD (ws ++ [w])), some (.int (j : Int)), some (.int c), some (.lst [.str ("#" : Str), .str (numS (m1 : Int)), .str (numS (m2 : Int) ++ ("*" : Str))])], .inl ?_, ws ++ [w], by simp [wl], fun v hv => ?_, _, _, _, rfl⟩
          · unfold g_law_words_1
            refine seq_to (ρ1 := [some S, some (.lst LD), some (.int (i : Int)), some (lineD ws), some (.int (j : Int)), some (.int c), y6]) (by
              generalize lineD ws = WD at *
              generalize D.lst LD = LDD at *
              simp [hcell']) ?_
            refine seq_to (ρ1 := [some S, some (.lst LD), some (.int (i : Int)), some (lineD ws), some (.int (j : Int)), some (.int c), some (.lst [.str ("#" : Str), .str (numS (m1 : Int)), .str (numS (m2 : Int) ++ ("*" : Str))])]) ?_ ?_
            · generalize lineD ws = WD at *
              generalize D.lst LD = LDD at *
              generalize D.str (numS (m2 : Int) ++ ("*" : Str)) = X2 at *
              generalize D.str (numS (m1 : Int)) = X1 at *
              generalize hN2 : D.str (numS (m2 : Int)) = N2 at *
              simp [hm1, hm2, hs1, hs2, hadd]
            · rw [sApp_ap]
              have hcat := cat_eq (xs := [.str ("#" : Str), .str (numS (m1 : Int)), .str (numS (m2 : Int) ++ ("*" : Str))]) (ys := [.str ("1000000000" : Str), .str ("0" : Str), .str ("0*" : Str)]) (by simp)
              have hval : (e2 ixD (e2 catD (eVar 6) (eLst (aCons (eC (.str "1000000000")) (aCons (eC (.str "0")) (aCons (eC (.str "0*")) aNil))))) (e2 modD (eVar 5) (eC (.int 6)))) [some S, some (.lst LD), some (.int (i : Int)), some (lineD ws), some (.int (j : Int)), some (.int c), some (.lst [.str ("#" : Str), .str (numS (m1 : Int)), .str (numS (m2 : Int) ++ ("*" : Str))])] = .ok (.str w) := by
                rw [e2_ap, e2_ap, e2_ap]
                rw [show (eLst (aCons (eC (.str "1000000000")) (aCons (eC (.str "0")) (aCons (eC (.str "0*")) aNil)))) [some S, some (.lst LD), some (.int (i : Int)), some (lineD ws), some (.int (j : Int)), some (.int c), some (.lst [.str ("#" : Str), .str (numS (m1 : Int)), .str (numS (m2 : Int) ++ ("*" : Str))])] = .ok (.lst [.str ("1000000000" : Str), .str ("0" : Str), .str ("0*" : Str)]) from rfl]
                simp only [eVar_s, eVar_zs, eC_ap, O.bind_ok, hcat]
                rw [show modD (.int c) (.int 6) = .ok (.int (c % 6)) from by simp, O.bind_ok]
                exact hix
              have hz2 : decide ((ws.map D.str).length < 100000) = true := decide_eq_true (by rw [List.length_map]; omega)
              rw [hval]
              simp only [eVar_s, eVar_zs, O.bind_ok, lineD, lstD_lst, hz2, gd_true, List.map_append, List.map_cons, List.map_nil]
              rfl
          · rcases List.mem_append.mp hv with h | h
            · exact ww v h
            · rw [List.mem_singleton.mp h]; exact hwt) ⟨[], rfl, by simp, y4, y5, y6, rfl⟩
      rw [List.nil_append, List.length_range] at wl
      refine ⟨[some S, some (.lst (LD ++ [lineD ws])), some (.int (i : Int)), none, z4, z5, z6], .inl ?_, LL ++ [ws], by simp [hl], fun v hv => ?_, some (.int (i : Int)), none, z4, z5, z6, ?_⟩
      · unfold g_law_words_2
        refine seq_to (ρ1 := [some S, some (.lst LD), some (.int (i : Int)), some (.lst []), y4, y5, y6]) rfl ?_
        refine seq_to (sFor_eq (rg1_eq (n := 1 + b) (hW _ _ _ _ _ _) (by omega)) h2) ?_
        rw [sAppV_ap]
        simp only [eVar_s, eVar_zs, O.bind_ok, lstD_lst]
        rw [show (decide (LD.length < 100000) && decide ((1 : Nat) ≠ 3)) = true from by rw [hz]; rfl, gd_true]
        rfl
      · rcases List.mem_append.mp hv with h | h
        · exact hw v h
        · rw [List.mem_singleton.mp h]; exact ⟨wl, ww⟩
      · rw [← hLD, List.map_append]
        rfl) ⟨[], rfl, by simp, none, none, none, none, none, rfl⟩
  rw [List.nil_append, List.length_range] at hl
  refine ⟨LL, 1 + b, ?_, ⟨by omega, by omega, fun ws hws => ⟨by rw [(hw ws hws).1]; omega, by rw [(hw ws hws).1]; omega, (hw ws hws).2⟩⟩, fun ws hws => (hw ws hws).1⟩
  refine runF_rt rfl (by decide) (ρ := [some S, none, y2, y3, y4, y5, y6]) ?_
  unfold g_law_words
  refine seq_to (ρ1 := [some S, some (.lst []), none, none, none, none, none]) rfl ?_
  refine seq_to (sFor_eq (rg1_eq (n := 1 + a) (hR _ _ _ _ _ _) (by omega)) h1) ?_
  rfl
def some1 : List Str := [("" : Str), ("*" : Str), ("#*" : Str), ("**" : Str), ("1**" : Str), ("*1" : Str), ("01" : Str), ("00" : Str), ("-1" : Str)]
def some2 : List Str := [("+1" : Str), ("1000000001" : Str), ("00000000001" : Str), ("a" : Str), ("9999999999" : Str), (" " : Str), ("1000000002" : Str)]
def some3 : List Str := [("# " : Str), ("##" : Str)]
theorem some_ok : ∀ w ∈ some1 ++ some2 ++ some3, TOk 12 w := tok_all (by decide +kernel)
def sgn1 : Str := (" \n#*0123456789a-.+\t_!\"$&'(),/:;<=>?@ABCDEFGHIJKLMNOPQRSTUVWXYZ[\\]^`" : Str)
def sgn2 : Str := ("bcdefghijklmnopqrstuvwxyz{|}~" : Str)
theorem sgn1_ok : TOk 100 sgn1 ∧ 0 < sgn1.length := ⟨.of (by decide +kernel), by decide +kernel⟩
theorem sgn2_ok : TOk 100 sgn2 := .of (by decide +kernel)
theorem imm_strs (ws : List Str) : immA (ws.map .str) = true := by
  induction ws with
  | nil => simp
  | cons w ws ih => rw [List.map_cons, immA_cons, ih]; rfl
theorem lines_len (LL : List (List Str)) : lenD (.lst (LL.map lineD)) = .ok (.int (LL.length : Int)) := by simp
theorem ix0_lines {LL : List (List Str)} {w0 : List Str} {Lt : List (List Str)} (h : LL = w0 :: Lt) : ixD (.lst (LL.map lineD)) (.int 0) = .ok (lineD w0) := by
  have := ix_lst_nat (LL.map lineD) 0
  rw [h] at this ⊢
  exact this
theorem ix0_line {w : Str} {ws Lt : List Str} (h : ws = w :: Lt) : ixD (lineD ws) (.int 0) = .ok (.str w) := by
  have := ix_lst_nat (ws.map D.str) 0
  rw [h] at this ⊢
  exact this
section
variable {S : D} {LL : List (List Str)} {W : Nat} {cell k : Int} {x4 x5 x6 x7 x8 x9 x10 : Option D}
/-- one word another -/
theorem step_put (h : LLok LL 4 4) (hW : ∀ ws ∈ LL, ws.length = W) : ∃ LL', LLok LL' 4 4 ∧
    (sIf (tE (e2 (eqD false) (e2 modD (eVar 3) (eC (.int 4))) (eC (.int 0)))) (sStore 1 (gSub 1 (e2 modD (eVar 2) (e1 lenD (eVar 1)))) (pSub 1 (e2 modD (eVar 2) (e1 lenD (eVar 1)))) (e2 modD (e2 divD (eVar 2) (eC (.int 4))) (e1 lenD (e2 ixD (eVar 1) (eC (.int 0))))) (e2 ixD (e2 catD (eVar 4) (eLst (aCons (eC (.str "# ")) (aCons (eC (.str "##")) aNil)))) (e2 modD (e2 divD (eVar 2) (eC (.int 16))) (eC (.int 18))))) sNx)
      [some S, some (.lst (LL.map lineD)), some (.int cell), some (.int k), some (.lst ((some1 ++ some2).map .str)), x5, x6, x7, x8, x9, x10] = .ok (.nx [some S, some (.lst (LL'.map lineD)), some (.int cell), some (.int k), some (.lst ((some1 ++ some2).map .str)), x5, x6, x7, x8, x9, x10]) := by
  by_cases hk : k % 4 = 0
  · have hR := h.l1
    obtain ⟨w0, Lt, hL0⟩ := List.exists_cons_of_ne_nil (List.ne_nil_of_length_pos hR)
    have hw0 := h.w w0 (by rw [hL0]; simp)
    have hWl := hW w0 (by rw [hL0]; simp)
    obtain ⟨a, ha⟩ := Int.eq_ofNat_of_zero_le (Int.emod_nonneg cell (b := (LL.length : Int)) (by omega))
    have ha' := Int.emod_lt_of_pos cell (b := (LL.length : Int)) (by omega)
    obtain ⟨b, hb⟩ := Int.eq_ofNat_of_zero_le (Int.emod_nonneg (cell / 4) (b := (w0.length : Int)) (by omega))
    have hb' := Int.emod_lt_of_pos (cell / 4) (b := (w0.length : Int)) (by omega)
    have haL : a < LL.length := by omega
    have hla : LL[a]? = some LL[a] := List.getElem?_eq_getElem haL
    have hma := List.getElem_mem haL
    generalize LL[a] = wa at *
    obtain ⟨w, hwm, hix⟩ := ix_modT (l := some1 ++ some2 ++ some3) (n := 18) rfl (by decide) (cell / 16)
    have hwt := some_ok w hwm
    have hlen := lines_len LL
    have hi0 := ix0_lines hL0
    have hl0 : lenD (lineD w0) = .ok (.int (w0.length : Int)) := by simp [lineD]
    have nz1 : ¬ (LL.length : Int) = 0 := by omega
    have nz2 : ¬ (w0.length : Int) = 0 := by omega
    have hcat := cat_eq (xs := (some1 ++ some2).map .str) (ys := some3.map .str) (by rw [List.length_map, List.length_map]; decide)
    rw [← List.map_append] at hcat
    have hst := store_gen (i := 1) (ρ := [some S, some (.lst (LL.map lineD)), some (.int cell), some (.int k), some (.lst ((some1 ++ some2).map .str)), x5, x6, x7, x8, x9, x10]) (fg := e2 modD (eVar 2) (e1 lenD (eVar 1))) (fe := e2 modD (e2 divD (eVar 2) (eC (.int 4))) (e1 lenD (e2 ixD (eVar 1) (eC (.int 0))))) (fv := e2 ixD (e2 catD (eVar 4) (eLst (aCons (eC (.str "# ")) (aCons (eC (.str "##")) aNil)))) (e2 modD (e2 divD (eVar 2) (eC (.int 16))) (eC (.int 18)))) (Ls := LL.map fun ws => ws.map D.str) (a := a) (b := b) (l := wa.map .str) (d := .str w)
      (by rw [List.map_map]; rfl) (by
        rw [e2_ap, e1_ap]
        simp only [eVar_s, eVar_zs, O.bind_ok, hlen]
        rw [← ha]
        have pL : 0 < LL.length := hR
        simp [pL]) (by rw [List.getElem?_map, hla]; rfl) (imm_strs wa) (by
        rw [e2_ap, e2_ap, e1_ap, e2_ap]
        simp only [eVar_s, eVar_zs, eC_ap, O.bind_ok, hi0, hl0]
        rw [← hb]
        have pw : 0 < w0.length := hw0.1
        simp [pw]) (by rw [List.length_map, hW wa hma, ← hWl]; omega) (by
        rw [e2_ap, e2_ap, e2_ap, e2_ap]
        rw [show (eLst (aCons (eC (.str "# ")) (aCons (eC (.str "##")) aNil))) [some S, some (.lst (LL.map lineD)), some (.int cell), some (.int k), some (.lst ((some1 ++ some2).map .str)), x5, x6, x7, x8, x9, x10] = .ok (.lst (some3.map .str)) from rfl]
        simp only [eVar_s, eVar_zs, eC_ap, O.bind_ok, hcat]
        rw [show divD (.int cell) (.int 16) = .ok (.int (cell / 16)) from by simp, O.bind_ok, show modD (.int (cell / 16)) (.int 18) = .ok (.int (cell / 16 % 18)) from by simp, O.bind_ok]
        exact hix) rfl
    refine ⟨LL.set a (wa.set b w), ⟨by rw [List.length_set]; exact hR, by rw [List.length_set]; exact h.l, fun ws hws => ?_⟩, ?_⟩
    · rcases List.mem_or_eq_of_mem_set hws with h1 | h1
      · exact h.w ws h1
      · have hwa := h.w wa hma
        rw [h1, List.length_set]
        refine ⟨hwa.1, hwa.2.1, fun x hx => ?_⟩
        rcases List.mem_or_eq_of_mem_set hx with h2 | h2
        · exact hwa.2.2 x h2
        · rw [h2]; exact hwt
    · rw [sIf_ap, show (tE (e2 (eqD false) (e2 modD (eVar 3) (eC (.int 4))) (eC (.int 0)))) [some S, some (.lst (LL.map lineD)), some (.int cell), some (.int k), some (.lst ((some1 ++ some2).map .str)), x5, x6, x7, x8, x9, x10] = .ok true from by
        generalize D.lst (LL.map lineD) = LD
        generalize D.lst ((some1 ++ some2).map .str) = SD
        simp [hk]]
      simp only [O.bind_ok, if_true]
      rw [hst, ← List.map_set, ← List.map_set, List.map_map]
      rfl
  · refine ⟨LL, h, ?_⟩
    generalize D.lst (LL.map lineD) = LD
    generalize D.lst ((some1 ++ some2).map .str) = SD
    simp [hk]
theorem many (cell : Int) : ∃ m : Nat, 30 + cell % 2 = (m : Int) ∧ 1 ≤ m ∧ m ≤ 31 := by
  have h1 := Int.emod_nonneg cell (b := 2) (by decide)
  have h2 := Int.emod_lt_of_pos cell (b := 2) (by decide)
  exact ⟨(30 + cell % 2).toNat, by omega, by omega, by omega⟩
/-- a line many times -/
theorem step_lines (h : LLok LL 4 4) : ∃ LL', LLok LL' 31 4 ∧
    (sIf (tE (e2 (eqD false) (e2 modD (eVar 3) (eC (.int 4))) (eC (.int 1)))) (sSet 1 (eLc (iRg1 (e2 addD (eC (.int 30)) (e2 modD (eVar 2) (eC (.int 2))))) 5 tTr g_law_text_1)) sNx)
      [some S, some (.lst (LL.map lineD)), some (.int cell), some (.int k), x4, x5, x6, x7, x8, x9, x10] = .ok (.nx [some S, some (.lst (LL'.map lineD)), some (.int cell), some (.int k), x4, x5, x6, x7, x8, x9, x10]) := by
  by_cases hk : k % 4 = 1
  · obtain ⟨m, hm, m1, m31⟩ := many cell
    obtain ⟨w0, Lt, hL0⟩ := List.exists_cons_of_ne_nil (List.ne_nil_of_length_pos h.l1)
    have hw0 := h.w w0 (by rw [hL0]; simp)
    have hi0 := ix0_lines hL0
    refine ⟨List.replicate m w0, ⟨by rw [List.length_replicate]; exact m1, by rw [List.length_replicate]; exact m31, fun ws hws => by rw [(List.mem_replicate.mp hws).2]; exact hw0⟩, ?_⟩
    have hlc : eLc (iRg1 (e2 addD (eC (.int 30)) (e2 modD (eVar 2) (eC (.int 2))))) 5 tTr g_law_text_1 [some S, some (.lst (LL.map lineD)), some (.int cell), some (.int k), x4, x5, x6, x7, x8, x9, x10] = .ok (.lst ((List.replicate m w0).map lineD)) := by
      refine eLc_eq (rg1_eq (n := m) ?_ (by omega)) (by simp) (by simp; omega) ?_
      · rw [← hm]
        generalize D.lst (LL.map lineD) = LD
        simp
      · rw [cGo_map (fun (j : Nat) => D.int (j : Int)) (fun _ => true) (fun _ => lineD w0)]
        · rw [List.filter_eq_self.mpr fun _ _ => rfl, List.map_const', List.length_range, List.map_replicate]
        · intro j _; simp
        · intro j _ _
          generalize D.lst (LL.map lineD) = LD at *
          simp [g_law_text_1, hi0]
    rw [sIf_ap, show (tE (e2 (eqD false) (e2 modD (eVar 3) (eC (.int 4))) (eC (.int 1)))) [some S, some (.lst (LL.map lineD)), some (.int cell), some (.int k), x4, x5, x6, x7, x8, x9, x10] = .ok true from by
      generalize D.lst (LL.map lineD) = LD
      simp [hk]]
    exact (set_eq (i := 1) hlc (by simp)).trans rfl
  · refine ⟨LL, ⟨h.l1, Nat.le_trans h.l (by decide), h.w⟩, ?_⟩
    generalize D.lst (LL.map lineD) = LD
    simp [hk]
/-- a word many times in each line -/
theorem step_words (h : LLok LL 31 4) : ∃ LL', LLok LL' 31 31 ∧
    (sIf (tAndF (tE (e2 (eqD false) (e2 modD (eVar 3) (eC (.int 4))) (eC (.int 2)))) (tE (e2 (eqD false) (e2 modD (e2 divD (eVar 3) (eC (.int 4))) (eC (.int 2))) (eC (.int 0))))) (sSet 1 (eLc (iSeq (eVar 1)) 6 tTr g_law_text_3)) sNx)
      [some S, some (.lst (LL.map lineD)), some (.int cell), some (.int k), x4, x5, x6, x7, x8, x9, x10] = .ok (.nx [some S, some (.lst (LL'.map lineD)), some (.int cell), some (.int k), x4, x5, x6, x7, x8, x9, x10]) := by
  by_cases hk : k % 4 = 2 ∧ k / 4 % 2 = 0
  · obtain ⟨m, hm, m1, m31⟩ := many cell
    refine ⟨LL.map fun ws => List.replicate m (ws.headD ("" : Str)), ⟨by rw [List.length_map]; exact h.l1, by rw [List.length_map]; exact h.l, fun ws hws => ?_⟩, ?_⟩
    · obtain ⟨v, hv, rfl⟩ := List.mem_map.mp hws
      rw [List.length_replicate]
      refine ⟨m1, m31, fun x hx => ?_⟩
      rw [(List.mem_replicate.mp hx).2]
      obtain ⟨y, Lt, hy⟩ := List.exists_cons_of_ne_nil (List.ne_nil_of_length_pos (h.w v hv).1)
      rw [hy]
      exact (h.w v hv).2.2 y (by rw [hy]; simp)
    · have hlc : eLc (iSeq (eVar 1)) 6 tTr g_law_text_3 [some S, some (.lst (LL.map lineD)), some (.int cell), some (.int k), x4, x5, x6, x7, x8, x9, x10] = .ok (.lst ((LL.map fun ws => List.replicate m (ws.headD ("" : Str))).map lineD)) := by
        refine eLc_eq (ds := LL.map lineD) rfl (by simp) (by rw [List.length_map]; have := h.l; omega) ?_
        rw [cGo_map lineD (fun _ => true) (fun ws => lineD (List.replicate m (ws.headD ("" : Str))))]
        · rw [List.filter_eq_self.mpr fun _ _ => rfl, List.map_map]
          rfl
        · intro j _; simp
        · intro ws hws _
          obtain ⟨y, Lt, hy⟩ := List.exists_cons_of_ne_nil (List.ne_nil_of_length_pos (h.w ws hws).1)
          have hi0 := ix0_line hy
          have hhd : ws.headD ("" : Str) = y := by rw [hy]; rfl
          rw [hhd]
          unfold g_law_text_3
          rw [show lineD (List.replicate m y) = .lst ((List.replicate m y).map .str) from rfl]
          refine eLc_eq (rg1_eq (n := m) ?_ (by omega)) (by simp) (by simp; omega) ?_
          · rw [← hm]
            generalize D.lst (LL.map lineD) = LD
            generalize lineD ws = WD at *
            simp
          · rw [cGo_map (fun (j : Nat) => D.int (j : Int)) (fun _ => true) (fun _ => D.str y)]
            · rw [List.filter_eq_self.mpr fun _ _ => rfl, List.map_const', List.length_range, List.map_replicate]
            · intro j _; simp
            · intro j _ _
              generalize D.lst (LL.map lineD) = LD at *
              generalize lineD ws = WD at *
              simp [g_law_text_2, hi0]
      rw [sIf_ap, show (tAndF (tE (e2 (eqD false) (e2 modD (eVar 3) (eC (.int 4))) (eC (.int 2)))) (tE (e2 (eqD false) (e2 modD (e2 divD (eVar 3) (eC (.int 4))) (eC (.int 2))) (eC (.int 0))))) [some S, some (.lst (LL.map lineD)), some (.int cell), some (.int k), x4, x5, x6, x7, x8, x9, x10] = .ok true from by
        generalize D.lst (LL.map lineD) = LD
        simp [hk.1, hk.2]]
      exact (set_eq (i := 1) hlc (by simp)).trans rfl
  · refine ⟨LL, ⟨h.l1, h.l, fun ws hws => ⟨(h.w ws hws).1, Nat.le_trans (h.w ws hws).2.1 (by decide), (h.w ws hws).2.2⟩⟩, ?_⟩
    generalize D.lst (LL.map lineD) = LD
    by_cases h1 : k % 4 = 2
    · have h2 : ¬ k / 4 % 2 = 0 := fun z => hk ⟨h1, z⟩
      simp [h1, h2]
    · simp [h1]
/-- the text -/
theorem step_text (h : LLok LL 31 31) : ∃ t, TOk 12600 t ∧ (sSet 7 (e1 (joinD (.str "\n")) (eLc (iSeq (eVar 1)) 6 tTr g_law_text_4)))
      [some S, some (.lst (LL.map lineD)), some (.int cell), some (.int k), x4, x5, x6, x7, x8, x9, x10] = .ok (.nx [some S, some (.lst (LL.map lineD)), some (.int cell), some (.int k), x4, x5, x6, some (.str t), x8, x9, x10]) := by
  have hbl : TOk 1 (" " : Str) := .of (by decide +kernel)
  have hnl : TOk 1 ("\n" : Str) := .of (by decide +kernel)
  have hj : ∀ ws ∈ LL, joinD (.str (" " : Str)) (lineD ws) = .ok (.str (Txt.join (" " : Str) ws)) ∧ TOk 403 (Txt.join (" " : Str) ws) := fun ws hws => by
    have hw := h.w ws hws
    exact ⟨joinD_eq _ _ (m := 12) (n := 31) (fun y hy => (hw.2.2 y hy).l) hw.2.1 (by have := hbl.l; omega), hbl.join (n := 12) (k := 31) hw.2.2 hw.2.1⟩
  have hj2 : joinD (.str ("\n" : Str)) (.lst ((LL.map fun ws => Txt.join (" " : Str) ws).map .str)) = .ok (.str (Txt.join ("\n" : Str) (LL.map fun ws => Txt.join (" " : Str) ws))) ∧ TOk 12524 (Txt.join ("\n" : Str) (LL.map fun ws => Txt.join (" " : Str) ws)) := by
    have hm : ∀ y ∈ LL.map fun ws => Txt.join (" " : Str) ws, TOk 403 y := fun y hy => by
      obtain ⟨ws, hws, rfl⟩ := List.mem_map.mp hy
      exact (hj ws hws).2
    exact ⟨joinD_eq _ _ (m := 403) (n := 31) (fun y hy => (hm y hy).l) (by rw [List.length_map]; exact h.l) (by have := hnl.l; omega), hnl.join (n := 403) (k := 31) hm (by rw [List.length_map]; exact h.l)⟩
  refine ⟨_, hj2.2.up (by omega), ?_⟩
  have hlc : eLc (iSeq (eVar 1)) 6 tTr g_law_text_4 [some S, some (.lst (LL.map lineD)), some (.int cell), some (.int k), x4, x5, x6, x7, x8, x9, x10] = .ok (.lst ((LL.map fun ws => Txt.join (" " : Str) ws).map .str)) := by
    refine eLc_eq (ds := LL.map lineD) rfl (by simp) (by rw [List.length_map]; have := h.l; omega) ?_
    rw [cGo_map lineD (fun _ => true) (fun ws => D.str (Txt.join (" " : Str) ws))]
    · rw [List.filter_eq_self.mpr fun _ _ => rfl, List.map_map]
      rfl
    · intro j _; simp
    · intro ws hws _
      have := (hj ws hws).1
      generalize D.lst (LL.map lineD) = LD at *
      generalize lineD ws = WD at *
      unfold g_law_text_4
      rw [e1_ap]
      simp only [List.set_cons_zero, List.set_cons_succ, eVar_s, eVar_zs, O.bind_ok, this]
  refine (set_eq (i := 7) (d := .str (Txt.join ("\n" : Str) (LL.map fun ws => Txt.join (" " : Str) ws))) ?_ (by simp)).trans rfl
  rw [e1_ap, hlc, O.bind_ok]
  exact hj2.1
/-- a sign put in, left out or exchanged -/
theorem step_sign {t : Str} (h : TOk 12600 t) : ∃ t', TOk 26000 t' ∧ ∃ y8 y9 y10, (sIf (tE (e2 (eqD false) (e2 modD (eVar 3) (eC (.int 4))) (eC (.int 3)))) (sSeq (sSet 8 (eC (.str " \n#*0123456789a-.+\t_!\"$&'(),/:;<=>?@ABCDEFGHIJKLMNOPQRSTUVWXYZ[\\]^`")))
    (sSeq (sSet 8 (e2 addD (eVar 8) (eC (.str "bcdefghijklmnopqrstuvwxyz{|}~"))))
    (sSeq (sSet 9 (e2 ixD (eVar 8) (e2 modD (e2 divD (eVar 2) (eC (.int 3))) (e1 lenD (eVar 8)))))
    (sSeq (sSet 10 (e2 modD (e2 divD (eVar 2) (eC (.int 291))) (e2 addD (e1 lenD (eVar 7)) (eC (.int 1)))))
    (sSet 7 (e2 addD (e2 addD (eSlS (eVar 7) pNo (pSo (eVar 10))) (e2 ixD (eLst (aCons (eVar 9) (aCons (eC (.str "")) (aCons (eVar 9) aNil)))) (e2 modD (eVar 2) (eC (.int 3))))) (eSlS (eVar 7) (pSo (e2 addD (eVar 10) (e2 ixD (eLst (aCons (eC (.int 0)) (aCons (eC (.int 1)) (aCons (eC (.int 1)) aNil)))) (e2 modD (eVar 2) (eC (.int 3)))))) pNo))))))) sNx)
      [some S, x6, some (.int cell), some (.int k), x4, x5, x9, some (.str t), none, none, none] = .ok (.nx [some S, x6, some (.int cell), some (.int k), x4, x5, x9, some (.str t'), y8, y9, y10]) := by
  by_cases hk : k % 4 = 3
  · have htl := h.l
    have hlen : lenD (.str t) = .ok (.int (t.length : Int)) := by
      show gd (decide (t.length ≤ 100000)) _ = _
      rw [decide_eq_true (by omega), gd_true]
    have sl : (sgn1 ++ sgn2).length ≤ 200 := by
      rw [Str.length_append]
      have := sgn1_ok.1.l
      have := sgn2_ok.l
      omega
    have sl0 : 0 < (sgn1 ++ sgn2).length := by
      rw [Str.length_append]
      have := sgn1_ok.2
      omega
    have hadd : addD (.str sgn1) (.str sgn2) = .ok (.str (sgn1 ++ sgn2)) := addS_eq (by rw [Str.length_append] at sl; omega)
    have st : TOk 200 (sgn1 ++ sgn2) := (sgn1_ok.1.app sgn2_ok).up (by omega)
    have e1' : ∀ ρ : Rho, (eC (.str " \n#*0123456789a-.+\t_!\"$&'(),/:;<=>?@ABCDEFGHIJKLMNOPQRSTUVWXYZ[\\]^`")) ρ = .ok (.str sgn1) := fun _ => rfl
    have e2' : ∀ ρ : Rho, (eC (.str "bcdefghijklmnopqrstuvwxyz{|}~")) ρ = .ok (.str sgn2) := fun _ => rfl
    generalize hSG : sgn1 ++ sgn2 = SG at *
    obtain ⟨ch, hch, hix⟩ := ix_modS sl0 (by omega) (cell / 3)
    have hsl : lenD (.str SG) = .ok (.int (SG.length : Int)) := by
      show gd (decide (SG.length ≤ 100000)) _ = _
      rw [decide_eq_true (by omega), gd_true]
    have t1 : TOk 1 ⟨#[ch]⟩ := st.one hch
    have nz : ¬ (SG.length : Int) = 0 := by omega
    have nz2 : ¬ (t.length : Int) + 1 = 0 := by omega
    obtain ⟨w, hwm, hw⟩ := ix_modT (l := [(⟨#[ch]⟩ : Str), ("" : Str), ⟨#[ch]⟩]) (n := 3) rfl (by decide) cell
    have wt : TOk 1 w := by
      simp only [List.mem_cons, List.mem_nil_iff, or_false] at hwm
      rcases hwm with rfl | rfl | rfl
      · exact t1
      · exact .of (by decide +kernel)
      · exact t1
    obtain ⟨de, hde, hdm⟩ := ix_modD (l := [.int 0, .int 1, .int 1]) (x := cell) (n := 3) rfl (by decide)
    obtain ⟨e, rfl⟩ : ∃ e : Int, de = .int e := by
      simp only [List.mem_cons, List.mem_nil_iff, or_false] at hdm
      rcases hdm with rfl | rfl | rfl <;> exact ⟨_, rfl⟩
    generalize hat : cell / 291 % ((t.length : Int) + 1) = at' at *
    have c1 := h.cut none (some at')
    have c2 := h.cut (some (at' + e)) none
    have a1 : addD (.str (cutS t none (some at'))) (.str w) = .ok (.str (cutS t none (some at') ++ w)) := addS_eq (by have := c1.l; have := wt.l; omega)
    have a2 : addD (.str (cutS t none (some at') ++ w)) (.str (cutS t (some (at' + e)) none)) = .ok (.str (cutS t none (some at') ++ w ++ cutS t (some (at' + e)) none)) := addS_eq (by rw [Str.length_append]; have := c1.l; have := wt.l; have := c2.l; omega)
    refine ⟨cutS t none (some at') ++ w ++ cutS t (some (at' + e)) none, ((c1.app wt).app c2).up (by omega), some (.str SG), some (.str ⟨#[ch]⟩), some (.int at'), ?_⟩
    rw [sIf_ap, show (tE (e2 (eqD false) (e2 modD (eVar 3) (eC (.int 4))) (eC (.int 3)))) [some S, x6, some (.int cell), some (.int k), x4, x5, x9, some (.str t), none, none, none] = .ok true from by
      generalize D.str t = TD
      simp [hk]]
    simp only [O.bind_ok, if_true]
    refine seq_to (ρ1 := [some S, x6, some (.int cell), some (.int k), x4, x5, x9, some (.str t), some (.str sgn1), none, none]) ((set_eq (i := 8) (e1' _) (by simp)).trans rfl) ?_
    refine seq_to (ρ1 := [some S, x6, some (.int cell), some (.int k), x4, x5, x9, some (.str t), some (.str SG), none, none]) ((set_eq (i := 8) (d := .str SG) (by
      rw [e2_ap, e2']
      simp only [eVar_s, eVar_zs, O.bind_ok, hadd]) (by simp)).trans rfl) ?_
    refine seq_to (ρ1 := [some S, x6, some (.int cell), some (.int k), x4, x5, x9, some (.str t), some (.str SG), some (.str ⟨#[ch]⟩), none]) ((set_eq (i := 9) (d := .str ⟨#[ch]⟩) (by
      rw [e2_ap, e2_ap, e2_ap, e1_ap]
      simp only [eVar_s, eVar_zs, eC_ap, O.bind_ok, hsl]
      rw [show divD (.int cell) (.int 3) = .ok (.int (cell / 3)) from by simp, O.bind_ok, show modD (.int (cell / 3)) (.int (SG.length : Int)) = .ok (.int (cell / 3 % (SG.length : Int))) from by simp [sl0], O.bind_ok]
      exact hix) (by simp)).trans rfl) ?_
    refine seq_to (ρ1 := [some S, x6, some (.int cell), some (.int k), x4, x5, x9, some (.str t), some (.str SG), some (.str ⟨#[ch]⟩), some (.int at')]) ((set_eq (i := 10) (d := .int at') (by
      rw [e2_ap, e2_ap, e2_ap, e1_ap]
      simp only [eVar_s, eVar_zs, eC_ap, O.bind_ok, hlen]
      rw [show divD (.int cell) (.int 291) = .ok (.int (cell / 291)) from by simp, O.bind_ok, show addD (.int (t.length : Int)) (.int 1) = .ok (.int ((t.length : Int) + 1)) from by simp, O.bind_ok, show modD (.int (cell / 291)) (.int ((t.length : Int) + 1)) = .ok (.int (cell / 291 % ((t.length : Int) + 1))) from by simp [nz2], hat]) (by simp)).trans rfl) ?_
    refine (set_eq (i := 7) (d := .str (cutS t none (some at') ++ w ++ cutS t (some (at' + e)) none)) ?_ (by simp)).trans rfl
    have s1 : (eSlS (eVar 7) pNo (pSo (eVar 10))) [some S, x6, some (.int cell), some (.int k), x4, x5, x9, some (.str t), some (.str SG), some (.str ⟨#[ch]⟩), some (.int at')] = .ok (.str (cutS t none (some at'))) := by
      show gd (decide (t.length ≤ 100000)) (O.ok (D.str (cutS t none (some at')))) = _
      rw [decide_eq_true (by omega), gd_true]
    have s2 : (e2 ixD (eLst (aCons (eVar 9) (aCons (eC (.str "")) (aCons (eVar 9) aNil)))) (e2 modD (eVar 2) (eC (.int 3)))) [some S, x6, some (.int cell), some (.int k), x4, x5, x9, some (.str t), some (.str SG), some (.str ⟨#[ch]⟩), some (.int at')] = .ok (.str w) := by
      rw [e2_ap, e2_ap]
      rw [show (eLst (aCons (eVar 9) (aCons (eC (.str "")) (aCons (eVar 9) aNil)))) [some S, x6, some (.int cell), some (.int k), x4, x5, x9, some (.str t), some (.str SG), some (.str ⟨#[ch]⟩), some (.int at')] = .ok (.lst ([(⟨#[ch]⟩ : Str), ("" : Str), ⟨#[ch]⟩].map .str)) from rfl]
      simp only [eVar_s, eVar_zs, eC_ap, O.bind_ok]
      rw [show modD (.int cell) (.int 3) = .ok (.int (cell % 3)) from by simp, O.bind_ok]
      exact hw
    have s3i : (pSo (e2 addD (eVar 10) (e2 ixD (eLst (aCons (eC (.int 0)) (aCons (eC (.int 1)) (aCons (eC (.int 1)) aNil)))) (e2 modD (eVar 2) (eC (.int 3)))))) [some S, x6, some (.int cell), some (.int k), x4, x5, x9, some (.str t), some (.str SG), some (.str ⟨#[ch]⟩), some (.int at')] = .ok (some (at' + e)) := by
      unfold pSo
      rw [e2_ap, e2_ap, e2_ap]
      rw [show (eLst (aCons (eC (.int 0)) (aCons (eC (.int 1)) (aCons (eC (.int 1)) aNil)))) [some S, x6, some (.int cell), some (.int k), x4, x5, x9, some (.str t), some (.str SG), some (.str ⟨#[ch]⟩), some (.int at')] = .ok (.lst [.int 0, .int 1, .int 1]) from rfl]
      simp only [eVar_s, eVar_zs, eC_ap, O.bind_ok]
      rw [show modD (.int cell) (.int 3) = .ok (.int (cell % 3)) from by simp, O.bind_ok]
      rw [show ixD (.lst [.int 0, .int 1, .int 1]) (.int (cell % 3)) = .ok (.int e) from hde, O.bind_ok]
      rfl
    have s3 : (eSlS (eVar 7) (pSo (e2 addD (eVar 10) (e2 ixD (eLst (aCons (eC (.int 0)) (aCons (eC (.int 1)) (aCons (eC (.int 1)) aNil)))) (e2 modD (eVar 2) (eC (.int 3)))))) pNo) [some S, x6, some (.int cell), some (.int k), x4, x5, x9, some (.str t), some (.str SG), some (.str ⟨#[ch]⟩), some (.int at')] = .ok (.str (cutS t (some (at' + e)) none)) := by
      unfold eSlS
      rw [s3i]
      show gd (decide (t.length ≤ 100000)) (O.ok (D.str (cutS t (some (at' + e)) none))) = _
      rw [decide_eq_true (by omega), gd_true]
    rw [e2_ap, s3, e2_ap, s1, s2]
    simp only [O.bind_ok, a1, a2]
  · refine ⟨t, h.up (by omega), none, none, none, ?_⟩
    generalize D.str t = TD
    simp [hk]
end
theorem text_eq (ns : List Int) : ∃ t, F_law_text [.lst (ns.map .int)] = .ok (.str t) ∧ TOk 26000 t := by
  have c1 : F_law_cell_at [.lst (ns.map .int), .int 1] = .ok (.int (ns.getD 1 0)) := cell_at_eq ns 1
  have c2 : F_law_cell_at [.lst (ns.map .int), .int 2] = .ok (.int (ns.getD 2 0)) := cell_at_eq ns 2
  obtain ⟨LL, W, hw, hl, hW⟩ := words_eq ns
  generalize ns.getD 1 0 = cell at c1
  generalize ns.getD 2 0 = k at c2
  generalize hS : D.lst (ns.map .int) = S at *
  have hcat := cat_eq (xs := some1.map .str) (ys := some2.map .str) (by rw [List.length_map, List.length_map]; decide)
  rw [← List.map_append] at hcat
  obtain ⟨L1, h1, s1⟩ := step_put (S := S) (cell := cell) (k := k) (x5 := none) (x6 := none) (x7 := none) (x8 := none) (x9 := none) (x10 := none) hl hW
  obtain ⟨L2, h2, s2⟩ := step_lines (S := S) (cell := cell) (k := k) (x4 := some (.lst ((some1 ++ some2).map .str))) (x5 := none) (x6 := none) (x7 := none) (x8 := none) (x9 := none) (x10 := none) h1
  obtain ⟨L3, h3, s3⟩ := step_words (S := S) (cell := cell) (k := k) (x4 := some (.lst ((some1 ++ some2).map .str))) (x5 := none) (x6 := none) (x7 := none) (x8 := none) (x9 := none) (x10 := none) h2
  obtain ⟨t, ht, s4⟩ := step_text (S := S) (cell := cell) (k := k) (x4 := some (.lst ((some1 ++ some2).map .str))) (x5 := none) (x6 := none) (x7 := none) (x8 := none) (x9 := none) (x10 := none) h3
  obtain ⟨t', ht', y8, y9, y10, s5⟩ := step_sign (S := S) (cell := cell) (k := k) (x6 := some (.lst (L3.map lineD))) (x4 := some (.lst ((some1 ++ some2).map .str))) (x5 := none) (x9 := none) ht
  refine ⟨t', ?_, ht'⟩
  refine runF_rt rfl (by decide) (ρ := [some S, some (.lst (L3.map lineD)), some (.int cell), some (.int k), some (.lst ((some1 ++ some2).map .str)), none, none, some (.str t'), y8, y9, y10]) ?_
  unfold g_law_text
  refine seq_to (ρ1 := [some S, some (.lst (LL.map lineD)), none, none, none, none, none, none, none, none, none]) (by
    generalize D.lst (LL.map lineD) = LD at *
    simp [startD, hw]) ?_
  refine seq_to (ρ1 := [some S, some (.lst (LL.map lineD)), some (.int cell), none, none, none, none, none, none, none, none]) (by
    generalize D.lst (LL.map lineD) = LD at *
    simp [c1]) ?_
  refine seq_to (ρ1 := [some S, some (.lst (LL.map lineD)), some (.int cell), some (.int k), none, none, none, none, none, none, none]) (by
    generalize D.lst (LL.map lineD) = LD at *
    simp [c2]) ?_
  refine seq_to (ρ1 := [some S, some (.lst (LL.map lineD)), some (.int cell), some (.int k), some (.lst (some1.map .str)), none, none, none, none, none, none]) rfl ?_
  refine seq_to (ρ1 := [some S, some (.lst (LL.map lineD)), some (.int cell), some (.int k), some (.lst ((some1 ++ some2).map .str)), none, none, none, none, none, none]) ?_ ?_
  · refine (set_eq (i := 4) (d := .lst ((some1 ++ some2).map .str)) ?_ (by simp)).trans rfl
    rw [e2_ap]
    rw [show (eLst (aCons (eC (.str "+1")) (aCons (eC (.str "1000000001")) (aCons (eC (.str "00000000001")) (aCons (eC (.str "a")) (aCons (eC (.str "9999999999")) (aCons (eC (.str " ")) (aCons (eC (.str "1000000002")) aNil)))))))) [some S, some (.lst (LL.map lineD)), some (.int cell), some (.int k), some (.lst (some1.map .str)), none, none, none, none, none, none] = .ok (.lst (some2.map .str)) from rfl]
    simp only [eVar_s, eVar_zs, O.bind_ok, hcat]
  refine seq_to s1 (seq_to s2 (seq_to s3 (seq_to s4 (seq_to s5 ?_))))
  rfl
theorem law_true (ns : List Int) (h : ns.length ≤ 63) : F_law [.lst (ns.map .int)] = .ok (.bl true) := by
  have c3 : F_law_cell_at [.lst (ns.map .int), .int 3] = .ok (.int (ns.getD 3 0)) := cell_at_eq ns 3
  obtain ⟨t, ht, hok⟩ := text_eq ns
  generalize ns.getD 3 0 = x at c3
  generalize hS : D.lst (ns.map .int) = S at *
  have hdue := land_of_eq (Nat.le_refl _) hok
  obtain ⟨hf, hr⟩ := found_eq (Nat.le_refl _) hok
  have heq := eq_due t
  obtain ⟨d, hd, hdm⟩ := ix_modD (l := [.non, .int 7, .bl true, .lst [.str ("1" : Str)]]) (x := x) (n := 4) rfl (by decide)
  have hdr : F_law_is_refused [d] = .ok (.bl true) := by
    simp only [List.mem_cons, List.mem_nil_iff, or_false] at hdm
    rcases hdm with rfl | rfl | rfl | rfl <;> exact refused_eq (read_not (by simp [isTD, tyN, isTy]))
  have hdue2 : (goodT t = true ∧ isND false (dueD t) .non = .ok (.bl false)) ∨ (goodT t = false ∧ isND false (dueD t) .non = .ok (.bl true)) := by
    unfold dueD
    cases goodT t with
    | true => exact .inl ⟨rfl, by simp⟩
    | false => exact .inr ⟨rfl, by simp⟩
  generalize hT : D.str t = T at *
  generalize dueD t = DU at *
  refine runF_rt rfl (by decide) (ρ := [some S, some T, some DU, some DU]) ?_
  unfold g_law
  refine seq_to (ρ1 := [some S, some T, none, none]) (by simp [startD, ht]) ?_
  refine seq_to (ρ1 := [some S, some T, some DU, none]) (by simp [hdue]) ?_
  refine seq_to (ρ1 := [some S, some T, some DU, some DU]) (by simp [hf]) ?_
  refine seq_to (ρ1 := [some S, some T, some DU, some DU]) ?_ ?_
  · rcases hdue2 with ⟨_, hi⟩ | ⟨hb, hi⟩
    · simp [hi]
    · simp [hi, hr hb]
  refine seq_to (ρ1 := [some S, some T, some DU, some DU]) ?_ ?_
  · have harg : (e2 ixD (eLst (aCons (eC .non) (aCons (eC (.int 7)) (aCons (eC (.bl true)) (aCons (eLst (aCons (eC (.str "1")) aNil)) aNil))))) (e2 modD (eCall (aCons (eVar 0) (aCons (eC (.int 3)) aNil)) F_law_cell_at) (eC (.int 4)))) [some S, some T, some DU, some DU] = .ok d := by
      rw [e2_ap, e2_ap]
      rw [show (eLst (aCons (eC .non) (aCons (eC (.int 7)) (aCons (eC (.bl true)) (aCons (eLst (aCons (eC (.str "1")) aNil)) aNil))))) [some S, some T, some DU, some DU] = .ok (.lst [.non, .int 7, .bl true, .lst [.str ("1" : Str)]]) from rfl]
      rw [show (eCall (aCons (eVar 0) (aCons (eC (.int 3)) aNil)) F_law_cell_at) [some S, some T, some DU, some DU] = .ok (.int x) from by simp [c3]]
      simp only [eC_ap, O.bind_ok]
      rw [show modD (.int x) (.int 4) = .ok (.int (x % 4)) from by simp, O.bind_ok]
      exact hd
    rw [sIf_ap, tNotF_ap, tE_ap]
    rw [show (eCall (aCons (e2 ixD (eLst (aCons (eC .non) (aCons (eC (.int 7)) (aCons (eC (.bl true)) (aCons (eLst (aCons (eC (.str "1")) aNil)) aNil))))) (e2 modD (eCall (aCons (eVar 0) (aCons (eC (.int 3)) aNil)) F_law_cell_at) (eC (.int 4)))) aNil) F_law_is_refused) [some S, some T, some DU, some DU] = .ok (.bl true) from by
      show O.bind (aCons _ aNil _) F_law_is_refused = _
      rw [aCons_ap, harg]
      exact hdr]
    rfl
  · refine ret_eq ?_
    rw [e2_ap]
    simp only [eVar_s, eVar_zs, O.bind_ok, heq]
end VS
set_option Elab.async false
set_option linter.all false
set_option maxRecDepth 100000
set_option maxHeartbeats 2000000
namespace Pg
open PySem L2 VS
theorem fin {P : Program} {w : World} {K : PySem.W.Frag} {mg : Str → Option Value} {fa : Addr} {CL e_LandError e_NoLand e_NoHeight e_NoDrain e_NoCell e_NoWay e_NoRain : Addr} (hfa : mg "law" = some (.ref fa)) (bn : Bn mg) (lk : LandK K CL)
    (f_law_cell_at : Fact K mg "_law_cell_at" s_law_cell_at ["_law_script", "_law_k"])
    (f_law_words : Fact K mg "_law_words" s_law_words ["_law_script"])
    (f_law_text : Fact K mg "_law_text" s_law_text ["_law_script"])
    (f_law_height_of : Fact K mg "_law_height_of" s_law_height_of ["_law_word"])
    (f_law_land_of : Fact K mg "_law_land_of" s_law_land_of ["_law_text_here"])
    (f_number_of : Fact K mg "number_of" s_number_of ["word"])
    (f_is_whole : Fact K mg "is_whole" s_is_whole ["thing"])
    (f_is_height : Fact K mg "is_height" s_is_height ["thing"])
    (f_Land_init : FactI K mg "Land" CL "Land.__init__" s_Land_init ["self", "heights"])
    (f_lies_in : Fact K mg "lies_in" s_lies_in ["rows", "columns", "cell"])
    (f_Land_need : FactM K CL "need" "Land.need" s_Land_need ["self", "cell"])
    (f_Land_opened : FactM K CL "opened" "Land.opened" s_Land_opened ["self", "cell"])
    (f_with_drains : Fact K mg "with_drains" s_with_drains ["heights", "drains"])
    (f_read : Fact K mg "read" s_read ["text"])
    (f_law_word_of : Fact K mg "_law_word_of" s_law_word_of ["_law_error"])
    (f_all_cells : Fact K mg "all_cells" s_all_cells ["rows", "columns"])
    (f_Land_is_drain : FactM K CL "is_drain" "Land.is_drain" s_Land_is_drain ["self", "cell"])
    (f_Land_drains : FactM K CL "drains" "Land.drains" s_Land_drains ["self"])
    (f_Land_heights : FactM K CL "heights" "Land.heights" s_Land_heights ["self"])
    (f_law_found : Fact K mg "_law_found" s_law_found ["_law_text_here"])
    (f_law_is_refused : Fact K mg "_law_is_refused" s_law_is_refused ["_law_text_here"])
    (f_law : Fact K mg "law" s_law ["_law_script"]) {t_MOST_FIGURES : Tok} (c_MOST_FIGURES : mg "MOST_FIGURES" = some (.int 10 t_MOST_FIGURES)) {t_MOST_SIDE : Tok} (c_MOST_SIDE : mg "MOST_SIDE" = some (.int 30 t_MOST_SIDE)) {t_MOST_HEIGHT : Tok} (c_MOST_HEIGHT : mg "MOST_HEIGHT" = some (.int 1000000000 t_MOST_HEIGHT)) (x_LandError : ExK K mg "LandError" e_LandError) (x_NoLand : ExK K mg "NoLand" e_NoLand) (x_NoHeight : ExK K mg "NoHeight" e_NoHeight) (x_NoDrain : ExK K mg "NoDrain" e_NoDrain) (x_NoCell : ExK K mg "NoCell" e_NoCell) (x_NoWay : ExK K mg "NoWay" e_NoWay) (x_NoRain : ExK K mg "NoRain" e_NoRain)
    (hnd : [e_NoLand, e_NoHeight, e_NoCell, e_NoDrain, e_NoWay, e_NoRain].Nodup) (hdL : PySem.W.hasDictIn K e_LandError = true) (f_NoLand : ErrF K e_LandError e_NoLand e_NoHeight e_NoCell e_NoDrain e_NoWay e_NoRain e_NoLand true false false false false false) (f_NoHeight : ErrF K e_LandError e_NoLand e_NoHeight e_NoCell e_NoDrain e_NoWay e_NoRain e_NoHeight false true false false false false) (f_NoCell : ErrF K e_LandError e_NoLand e_NoHeight e_NoCell e_NoDrain e_NoWay e_NoRain e_NoCell false false true false false false) (f_NoDrain : ErrF K e_LandError e_NoLand e_NoHeight e_NoCell e_NoDrain e_NoWay e_NoRain e_NoDrain false false false true false false) (f_NoWay : ErrF K e_LandError e_NoLand e_NoHeight e_NoCell e_NoDrain e_NoWay e_NoRain e_NoWay false false false false true false) (f_NoRain : ErrF K e_LandError e_NoLand e_NoHeight e_NoCell e_NoDrain e_NoWay e_NoRain e_NoRain false false false false false true) :
    ∃ fd : FuncData, (∀ (s : Shared) (u : Value), BindsTo s fd ⟨[u], []⟩ [("_law_script", u)]) ∧ ∃ (c : Ct) (F : List D → O D), c.K = K ∧ (∀ ns : List Int, ns.length ≤ 63 → F [.lst (ns.map .int)] = .ok (.bl true)) ∧ ∀ base : Heap, FnOk P w K mg base (L2N.CX P w) 8 fa fd ["_law_script"] (spP c .fz F) := by
  letI ex : Exl := exl e_LandError e_NoLand e_NoHeight e_NoCell e_NoDrain e_NoWay e_NoRain hnd
  have xw := exl_word hnd x_LandError.b x_LandError.t hdL f_NoLand f_NoHeight f_NoCell f_NoDrain f_NoWay f_NoRain
  obtain ⟨f, fd, F, hm, hb⟩ := f_law.ex
  have e := hfa.symm.trans hm
  cases e
  refine ⟨fd, fun s u => ?_, ⟨K, CL, 0⟩, F_law, rfl, law_true, fun base => ?_⟩
  · obtain ⟨oc, od, kV, doc, pm, an, cdv, ct, osl, rfl, lk, hcd⟩ := F.ex
    exact .of_eq rfl
  have d_law_cell_at := d_law_cell_at (P := P) (w := w) (base := base) (c := ⟨K, CL, 0⟩) rfl bn f_law_cell_at lk
  have d_law_words := d_law_words (P := P) (w := w) (base := base) (c := ⟨K, CL, 0⟩) rfl bn f_law_words lk d_law_cell_at
  have d_law_text := d_law_text (P := P) (w := w) (base := base) (c := ⟨K, CL, 0⟩) rfl bn f_law_text lk d_law_words d_law_cell_at
  have d_law_height_of := d_law_height_of (P := P) (w := w) (base := base) (c := ⟨K, CL, 0⟩) rfl bn f_law_height_of lk
  have d_law_land_of := d_law_land_of (P := P) (w := w) (base := base) (c := ⟨K, CL, 0⟩) rfl bn f_law_land_of lk d_law_height_of
  have d_number_of := d_number_of (P := P) (w := w) (base := base) (c := ⟨K, CL, 0⟩) rfl bn f_number_of lk c_MOST_FIGURES
  have d_is_whole := d_is_whole (P := P) (w := w) (base := base) (c := ⟨K, CL, 0⟩) rfl bn f_is_whole lk
  have d_is_height := d_is_height (P := P) (w := w) (base := base) (c := ⟨K, CL, 0⟩) rfl bn f_is_height lk d_is_whole c_MOST_HEIGHT
  have d_Land_init := d_Land_init (P := P) (w := w) (base := base) (c := ⟨K, CL, 0⟩) rfl bn f_Land_init lk d_is_height c_MOST_SIDE x_NoLand x_NoHeight
  have d_lies_in := d_lies_in (P := P) (w := w) (base := base) (c := ⟨K, CL, 0⟩) rfl bn f_lies_in lk d_is_whole
  have d_Land_need := d_Land_need (P := P) (w := w) (base := base) (c := ⟨K, CL, 0⟩) rfl bn f_Land_need lk d_lies_in x_NoCell
  have d_Land_opened := d_Land_opened (P := P) (w := w) (base := base) (c := ⟨K, CL, 0⟩) rfl bn f_Land_opened lk d_Land_need x_NoDrain
  have d_with_drains := d_with_drains (P := P) (w := w) (base := base) (c := ⟨K, CL, 0⟩) rfl bn f_with_drains lk d_Land_init d_Land_opened x_LandError x_NoLand xw
  have d_read := d_read (P := P) (w := w) (base := base) (c := ⟨K, CL, 0⟩) rfl bn f_read lk d_number_of d_with_drains x_NoLand
  have d_law_word_of := d_law_word_of (P := P) (w := w) (base := base) (c := ⟨K, CL, 0⟩) rfl bn f_law_word_of lk x_NoLand x_NoHeight x_NoCell x_NoDrain x_NoWay x_NoRain xw
  have d_all_cells := d_all_cells (P := P) (w := w) (base := base) (c := ⟨K, CL, 0⟩) rfl bn f_all_cells lk
  have d_Land_is_drain := d_Land_is_drain (P := P) (w := w) (base := base) (c := ⟨K, CL, 0⟩) rfl bn f_Land_is_drain lk d_Land_need
  have d_Land_drains := d_Land_drains (P := P) (w := w) (base := base) (c := ⟨K, CL, 0⟩) rfl bn f_Land_drains lk d_all_cells d_Land_is_drain
  have d_Land_heights := d_Land_heights (P := P) (w := w) (base := base) (c := ⟨K, CL, 0⟩) rfl bn f_Land_heights lk
  have d_law_found := d_law_found (P := P) (w := w) (base := base) (c := ⟨K, CL, 0⟩) rfl bn f_law_found lk d_read d_law_word_of d_Land_drains d_Land_heights x_LandError xw
  have d_law_is_refused := d_law_is_refused (P := P) (w := w) (base := base) (c := ⟨K, CL, 0⟩) rfl bn f_law_is_refused lk d_read d_law_word_of x_LandError xw
  exact d_law rfl bn F lk d_law_text d_law_land_of d_law_found d_law_is_refused d_law_cell_at
end Pg
open PySem PySem.W PyProof.Rows
set_option maxRecDepth 100000 in
set_option maxHeartbeats 0 in
theorem PySem.Challenge.cw_basin_k13_texts_refused_holds : PySem.Challenge.rw_basin_k13_texts_refused.Holds := by
  w_on; o_law; k_head; (case hw => w_witness2)
  k_fill
  refine VS.walk_law (l := PySem.Challenge.rw_basin_k13_texts_refused) (lv := 8) rfl rfl (by decide) (by decide) (fun w h Y => PySem.W.kIn_of Y) ?F
  case F =>
    intro w mg fa h KX G hmg
    refine' Pg.fin hmg ⟨(PySem.W.mg_none_of KX G ?b0), (PySem.W.mg_none_of KX G ?b1), (PySem.W.mg_none_of KX G ?b2), (PySem.W.mg_none_of KX G ?b3), (PySem.W.mg_none_of KX G ?b4), (PySem.W.mg_none_of KX G ?b5), (PySem.W.mg_none_of KX G ?b6), (PySem.W.mg_none_of KX G ?b7), (PySem.W.mg_none_of KX G ?b8), (PySem.W.mg_none_of KX G ?b9), (PySem.W.mg_none_of KX G ?b10), (PySem.W.mg_none_of KX G ?b11), (PySem.W.mg_none_of KX G ?b12), (PySem.W.mg_none_of KX G ?b13), (PySem.W.mg_none_of KX G ?b14), (PySem.W.mg_none_of KX G ?b15), (PySem.W.mg_none_of KX G ?b16), (PySem.W.mg_none_of KX G ?b17)⟩
      (VS.landK_mk ?Lpg ?Lhd ?Lpo ?Lsa ?Lg ?Lr ?Lc ?Lo)
      (VS.fact_mk KX G (fun F => F.binds fun _ _ _ _ _ _ us hl => match us, hl with | [_, _], _ => rfl) ?a0 ?l0 ?c0 ?k0)
      (VS.fact_mk KX G (fun F => F.binds fun _ _ _ _ _ _ us hl => match us, hl with | [_], _ => rfl) ?a1 ?l1 ?c1 ?k1)
      (VS.fact_mk KX G (fun F => F.binds fun _ _ _ _ _ _ us hl => match us, hl with | [_], _ => rfl) ?a2 ?l2 ?c2 ?k2)
      (VS.fact_mk KX G (fun F => F.binds fun _ _ _ _ _ _ us hl => match us, hl with | [_], _ => rfl) ?a3 ?l3 ?c3 ?k3)
      (VS.fact_mk KX G (fun F => F.binds fun _ _ _ _ _ _ us hl => match us, hl with | [_], _ => rfl) ?a4 ?l4 ?c4 ?k4)
      (VS.fact_mk KX G (fun F => F.binds fun _ _ _ _ _ _ us hl => match us, hl with | [_], _ => rfl) ?a5 ?l5 ?c5 ?k5)
      (VS.fact_mk KX G (fun F => F.binds fun _ _ _ _ _ _ us hl => match us, hl with | [_], _ => rfl) ?a6 ?l6 ?c6 ?k6)
      (VS.fact_mk KX G (fun F => F.binds fun _ _ _ _ _ _ us hl => match us, hl with | [_], _ => rfl) ?a7 ?l7 ?c7 ?k7)
      (VS.factI_mk (fun F => F.binds fun _ _ _ _ _ _ us hl => match us, hl with | [_, _], _ => rfl) (PySem.W.mg_of KX G ?g8) ?mk8 ?a8 ?i8 ?kc8 ?l8 ?c8 ?k8)
      (VS.fact_mk KX G (fun F => F.binds fun _ _ _ _ _ _ us hl => match us, hl with | [_, _, _], _ => rfl) ?a9 ?l9 ?c9 ?k9)
      (VS.factM_mk (fun F => F.binds fun _ _ _ _ _ _ us hl => match us, hl with | [_, _], _ => rfl) ?a10 ?i10 ?l10 ?c10 ?k10)
      (VS.factM_mk (fun F => F.binds fun _ _ _ _ _ _ us hl => match us, hl with | [_, _], _ => rfl) ?a11 ?i11 ?l11 ?c11 ?k11)
      (VS.fact_mk KX G (fun F => F.binds fun _ _ _ _ _ _ us hl => match us, hl with | [_, _], _ => rfl) ?a12 ?l12 ?c12 ?k12)
      (VS.fact_mk KX G (fun F => F.binds fun _ _ _ _ _ _ us hl => match us, hl with | [_], _ => rfl) ?a13 ?l13 ?c13 ?k13)
      (VS.fact_mk KX G (fun F => F.binds fun _ _ _ _ _ _ us hl => match us, hl with | [_], _ => rfl) ?a14 ?l14 ?c14 ?k14)
      (VS.fact_mk KX G (fun F => F.binds fun _ _ _ _ _ _ us hl => match us, hl with | [_, _], _ => rfl) ?a15 ?l15 ?c15 ?k15)
      (VS.factM_mk (fun F => F.binds fun _ _ _ _ _ _ us hl => match us, hl with | [_, _], _ => rfl) ?a16 ?i16 ?l16 ?c16 ?k16)
      (VS.factM_mk (fun F => F.binds fun _ _ _ _ _ _ us hl => match us, hl with | [_], _ => rfl) ?a17 ?i17 ?l17 ?c17 ?k17)
      (VS.factM_mk (fun F => F.binds fun _ _ _ _ _ _ us hl => match us, hl with | [_], _ => rfl) ?a18 ?i18 ?l18 ?c18 ?k18)
      (VS.fact_mk KX G (fun F => F.binds fun _ _ _ _ _ _ us hl => match us, hl with | [_], _ => rfl) ?a19 ?l19 ?c19 ?k19)
      (VS.fact_mk KX G (fun F => F.binds fun _ _ _ _ _ _ us hl => match us, hl with | [_], _ => rfl) ?a20 ?l20 ?c20 ?k20)
      (VS.fact_mk KX G (fun F => F.binds fun _ _ _ _ _ _ us hl => match us, hl with | [_], _ => rfl) ?a21 ?l21 ?c21 ?k21)
      (PySem.W.mg_of KX G ?m0)
      (PySem.W.mg_of KX G ?m1)
      (PySem.W.mg_of KX G ?m2)
      ⟨PySem.W.mg_of KX G ?eg0, ?eq0, ?ek0, ?eb0, ?et0⟩
      ⟨PySem.W.mg_of KX G ?eg1, ?eq1, ?ek1, ?eb1, ?et1⟩
      ⟨PySem.W.mg_of KX G ?eg2, ?eq2, ?ek2, ?eb2, ?et2⟩
      ⟨PySem.W.mg_of KX G ?eg3, ?eq3, ?ek3, ?eb3, ?et3⟩
      ⟨PySem.W.mg_of KX G ?eg4, ?eq4, ?ek4, ?eb4, ?et4⟩
      ⟨PySem.W.mg_of KX G ?eg5, ?eq5, ?ek5, ?eb5, ?et5⟩
      ⟨PySem.W.mg_of KX G ?eg6, ?eq6, ?ek6, ?eb6, ?et6⟩
      ?hnd ?hdL
      ⟨?w0_0, ?w0_1, ?w0_2, ?w0_3, ?w0_4, ?w0_5, ?w0_6, ?w0_7, ?w0_8, ?w0_9, ?w0_10, ?w0_11, ?w0_12, ?w0_13, ?w0_14, ?w0_15, ?w0_16⟩
      ⟨?w1_0, ?w1_1, ?w1_2, ?w1_3, ?w1_4, ?w1_5, ?w1_6, ?w1_7, ?w1_8, ?w1_9, ?w1_10, ?w1_11, ?w1_12, ?w1_13, ?w1_14, ?w1_15, ?w1_16⟩
      ⟨?w2_0, ?w2_1, ?w2_2, ?w2_3, ?w2_4, ?w2_5, ?w2_6, ?w2_7, ?w2_8, ?w2_9, ?w2_10, ?w2_11, ?w2_12, ?w2_13, ?w2_14, ?w2_15, ?w2_16⟩
      ⟨?w3_0, ?w3_1, ?w3_2, ?w3_3, ?w3_4, ?w3_5, ?w3_6, ?w3_7, ?w3_8, ?w3_9, ?w3_10, ?w3_11, ?w3_12, ?w3_13, ?w3_14, ?w3_15, ?w3_16⟩
      ⟨?w4_0, ?w4_1, ?w4_2, ?w4_3, ?w4_4, ?w4_5, ?w4_6, ?w4_7, ?w4_8, ?w4_9, ?w4_10, ?w4_11, ?w4_12, ?w4_13, ?w4_14, ?w4_15, ?w4_16⟩
      ⟨?w5_0, ?w5_1, ?w5_2, ?w5_3, ?w5_4, ?w5_5, ?w5_6, ?w5_7, ?w5_8, ?w5_9, ?w5_10, ?w5_11, ?w5_12, ?w5_13, ?w5_14, ?w5_15, ?w5_16⟩
    (case g8 => k_is)
    (case b0 => k_is)
    (case b1 => k_is)
    (case b2 => k_is)
    (case b3 => k_is)
    (case b4 => k_is)
    (case b5 => k_is)
    (case b6 => k_is)
    (case b7 => k_is)
    (case b8 => k_is)
    (case b9 => k_is)
    (case b10 => k_is)
    (case b11 => k_is)
    (case b12 => k_is)
    (case b13 => k_is)
    (case b14 => k_is)
    (case b15 => k_is)
    (case b16 => k_is)
    (case b17 => k_is)
    (case a0 => k_is)
    (case l0 => k_is)
    (case c0 => k_is)
    (case k0 => k_is)
    (case a1 => k_is)
    (case l1 => k_is)
    (case c1 => k_is)
    (case k1 => k_is)
    (case a2 => k_is)
    (case l2 => k_is)
    (case c2 => k_is)
    (case k2 => k_is)
    (case a3 => k_is)
    (case l3 => k_is)
    (case c3 => k_is)
    (case k3 => k_is)
    (case a4 => k_is)
    (case l4 => k_is)
    (case c4 => k_is)
    (case k4 => k_is)
    (case a5 => k_is)
    (case l5 => k_is)
    (case c5 => k_is)
    (case k5 => k_is)
    (case a6 => k_is)
    (case l6 => k_is)
    (case c6 => k_is)
    (case k6 => k_is)
    (case a7 => k_is)
    (case l7 => k_is)
    (case c7 => k_is)
    (case k7 => k_is)
    (case mk8 => k_is)
    (case a8 => k_is)
    (case i8 => k_is)
    (case kc8 => k_is)
    (case l8 => k_is)
    (case c8 => k_is)
    (case k8 => k_is)
    (case a9 => k_is)
    (case l9 => k_is)
    (case c9 => k_is)
    (case k9 => k_is)
    (case a10 => k_is)
    (case i10 => k_is)
    (case l10 => k_is)
    (case c10 => k_is)
    (case k10 => k_is)
    (case a11 => k_is)
    (case i11 => k_is)
    (case l11 => k_is)
    (case c11 => k_is)
    (case k11 => k_is)
    (case a12 => k_is)
    (case l12 => k_is)
    (case c12 => k_is)
    (case k12 => k_is)
    (case a13 => k_is)
    (case l13 => k_is)
    (case c13 => k_is)
    (case k13 => k_is)
    (case a14 => k_is)
    (case l14 => k_is)
    (case c14 => k_is)
    (case k14 => k_is)
    (case a15 => k_is)
    (case l15 => k_is)
    (case c15 => k_is)
    (case k15 => k_is)
    (case a16 => k_is)
    (case i16 => k_is)
    (case l16 => k_is)
    (case c16 => k_is)
    (case k16 => k_is)
    (case a17 => k_is)
    (case i17 => k_is)
    (case l17 => k_is)
    (case c17 => k_is)
    (case k17 => k_is)
    (case a18 => k_is)
    (case i18 => k_is)
    (case l18 => k_is)
    (case c18 => k_is)
    (case k18 => k_is)
    (case a19 => k_is)
    (case l19 => k_is)
    (case c19 => k_is)
    (case k19 => k_is)
    (case a20 => k_is)
    (case l20 => k_is)
    (case c20 => k_is)
    (case k20 => k_is)
    (case a21 => k_is)
    (case l21 => k_is)
    (case c21 => k_is)
    (case k21 => k_is)
    (case Lpg => k_is)
    (case Lhd => k_is)
    (case Lpo => k_is)
    (case Lsa => k_is)
    (case Lg => k_is)
    (case Lr => k_is)
    (case Lc => k_is)
    (case Lo => k_is)
    (case m0 => k_is)
    (case m1 => k_is)
    (case m2 => k_is)
    (case eg0 => k_is)
    (case eq0 => k_exc)
    (case ek0 => k_is)
    (case eb0 => k_is)
    (case et0 => k_is)
    (case eg1 => k_is)
    (case eq1 => k_exc)
    (case ek1 => k_is)
    (case eb1 => k_is)
    (case et1 => k_is)
    (case eg2 => k_is)
    (case eq2 => k_exc)
    (case ek2 => k_is)
    (case eb2 => k_is)
    (case et2 => k_is)
    (case eg3 => k_is)
    (case eq3 => k_exc)
    (case ek3 => k_is)
    (case eb3 => k_is)
    (case et3 => k_is)
    (case eg4 => k_is)
    (case eq4 => k_exc)
    (case ek4 => k_is)
    (case eb4 => k_is)
    (case et4 => k_is)
    (case eg5 => k_is)
    (case eq5 => k_exc)
    (case ek5 => k_is)
    (case eb5 => k_is)
    (case et5 => k_is)
    (case eg6 => k_is)
    (case eq6 => k_exc)
    (case ek6 => k_is)
    (case eb6 => k_is)
    (case et6 => k_is)
    (case hdL => k_is)
    (case w0_0 => k_is)
    (case w0_1 => k_is)
    (case w0_2 => k_is)
    (case w0_3 => k_is)
    (case w0_4 => k_is)
    (case w0_5 => k_is)
    (case w0_6 => k_is)
    (case w0_7 => k_is)
    (case w0_8 => k_is)
    (case w0_9 => k_is)
    (case w0_10 => k_is)
    (case w0_11 => k_is)
    (case w0_12 => k_is)
    (case w0_13 => k_is)
    (case w0_14 => k_is)
    (case w0_15 => k_is)
    (case w0_16 => k_is)
    (case w1_0 => k_is)
    (case w1_1 => k_is)
    (case w1_2 => k_is)
    (case w1_3 => k_is)
    (case w1_4 => k_is)
    (case w1_5 => k_is)
    (case w1_6 => k_is)
    (case w1_7 => k_is)
    (case w1_8 => k_is)
    (case w1_9 => k_is)
    (case w1_10 => k_is)
    (case w1_11 => k_is)
    (case w1_12 => k_is)
    (case w1_13 => k_is)
    (case w1_14 => k_is)
    (case w1_15 => k_is)
    (case w1_16 => k_is)
    (case w2_0 => k_is)
    (case w2_1 => k_is)
    (case w2_2 => k_is)
    (case w2_3 => k_is)
    (case w2_4 => k_is)
    (case w2_5 => k_is)
    (case w2_6 => k_is)
    (case w2_7 => k_is)
    (case w2_8 => k_is)
    (case w2_9 => k_is)
    (case w2_10 => k_is)
    (case w2_11 => k_is)
    (case w2_12 => k_is)
    (case w2_13 => k_is)
    (case w2_14 => k_is)
    (case w2_15 => k_is)
    (case w2_16 => k_is)
    (case w3_0 => k_is)
    (case w3_1 => k_is)
    (case w3_2 => k_is)
    (case w3_3 => k_is)
    (case w3_4 => k_is)
    (case w3_5 => k_is)
    (case w3_6 => k_is)
    (case w3_7 => k_is)
    (case w3_8 => k_is)
    (case w3_9 => k_is)
    (case w3_10 => k_is)
    (case w3_11 => k_is)
    (case w3_12 => k_is)
    (case w3_13 => k_is)
    (case w3_14 => k_is)
    (case w3_15 => k_is)
    (case w3_16 => k_is)
    (case w4_0 => k_is)
    (case w4_1 => k_is)
    (case w4_2 => k_is)
    (case w4_3 => k_is)
    (case w4_4 => k_is)
    (case w4_5 => k_is)
    (case w4_6 => k_is)
    (case w4_7 => k_is)
    (case w4_8 => k_is)
    (case w4_9 => k_is)
    (case w4_10 => k_is)
    (case w4_11 => k_is)
    (case w4_12 => k_is)
    (case w4_13 => k_is)
    (case w4_14 => k_is)
    (case w4_15 => k_is)
    (case w4_16 => k_is)
    (case w5_0 => k_is)
    (case w5_1 => k_is)
    (case w5_2 => k_is)
    (case w5_3 => k_is)
    (case w5_4 => k_is)
    (case w5_5 => k_is)
    (case w5_6 => k_is)
    (case w5_7 => k_is)
    (case w5_8 => k_is)
    (case w5_9 => k_is)
    (case w5_10 => k_is)
    (case w5_11 => k_is)
    (case w5_12 => k_is)
    (case w5_13 => k_is)
    (case w5_14 => k_is)
    (case w5_15 => k_is)
    (case w5_16 => k_is)
    (case hnd => decide)
