import PyProof.Rows.All
import Wide.All
import OpenK.AllK
import Wide.FinOn
import HandS.ForMost
import HandS.ForExc
import HandS.IsInst
import HandS.Walk
import HandS.Style
import HandS.Deep
import HandS.TupLen
import HandS.ExcCtx
import KE.LtData
import KE.DataMinMax
import KE.SortData
import HandS.Zip
import HandS.HotCalls
import HandS.ExcIs
import HandS.Conv
import HandS.SuiteRaise
import KE.DataFind
import HandS.TryOnly
import HandS.Text
import HandS.TupSets
import HandS.RaiseMore
import HandS.Iter
import HandS.Finally
import KE.KDictKeyed
import KE.KDictDisplayH
import PySem.Challenge.RW_basin_k10_pools_and_depths
set_option Elab.async false
set_option linter.all false
set_option maxRecDepth 100000
set_option maxHeartbeats 2000000
/-! VA: data without addresses (D), how they lie in the abstract heap (Is, Own), and the plain meaning of expressions. -/
namespace VS
open PySem L2

/-- a land, told by its rows and its table of drains -/
structure LandD where
  g : List (List (Option Int))
  o : List (List Key × Bool)

/-- data -/
inductive D where
  | non
  | bl (b : Bool)
  | int (i : Int)
  | str (s : Str)
  | lst (l : List D)
  | tup (l : List D)
  | dct (m : List (List Key × D))
  | fd (m : List (List Key × D))
  | land (L : LandD)
  | pile (l : List D)
  | raw

/-- outcomes -/
inductive O (α : Type) where
  | bad
  | exc (k : Value)
  | ok (a : α)
def O.bind {α β : Type} (x : O α) (f : α → O β) : O β := match x with
  | .bad => .bad
  | .exc k => .exc k
  | .ok a => f a
@[simp] theorem O.bind_ok {α β : Type} (a : α) (f : α → O β) : (O.ok a).bind f = f a := Eq.trans rfl rfl
@[simp] theorem O.bind_bad {α β : Type} (f : α → O β) : (O.bad : O α).bind f = .bad := rfl
@[simp] theorem O.bind_exc {α β : Type} (k : Value) (f : α → O β) : (O.exc k : O α).bind f = .exc k := rfl

/-- what is wanted of an outcome -/
def Po {α : Type} (r : O α) (P : α → Prop) (E : Value → Prop) : Prop := match r with
  | .bad => False
  | .exc k => E k
  | .ok a => P a
theorem Po.bind {α β : Type} {r : O α} {f : α → O β} {P : β → Prop} {E : Value → Prop} (h : Po (r.bind f) P E) : Po r (fun a => Po (f a) P E) E := by
  cases r with
  | bad => exact h
  | exc k => exact h
  | ok a => exact h
theorem Po.imp {α : Type} {r : O α} {P P' : α → Prop} {E E' : Value → Prop} (h : Po r P E) (hp : ∀ a, r = .ok a → P a → P' a) (he : ∀ k, r = .exc k → E k → E' k) : Po r P' E' := by
  cases r with
  | bad => exact h
  | exc k => exact he k rfl h
  | ok a => exact hp a rfl h
/-- a condition of the meaning -/
def gd {α : Type} (b : Bool) (x : O α) : O α := bif b then x else .bad
@[simp] theorem gd_true {α : Type} (x : O α) : gd true x = x := rfl
@[simp] theorem gd_false {α : Type} (x : O α) : gd false x = .bad := rfl
theorem Po.gd {α : Type} {b : Bool} {x : O α} {P : α → Prop} {E : Value → Prop} (h : Po (gd b x) P E) : b = true ∧ Po x P E := by
  cases b with
  | true => exact ⟨rfl, h⟩
  | false => exact h.elim
def ofO {α : Type} : Option α → O α
  | some a => .ok a
  | none => .bad
@[simp] theorem ofO_some {α : Type} (a : α) : ofO (some a) = .ok a := rfl
@[simp] theorem ofO_none {α : Type} : ofO (none : Option α) = .bad := rfl
theorem Po.ofO {α : Type} {o : Option α} {P : α → Prop} {E : Value → Prop} (h : Po (ofO o) P E) : ∃ a, o = some a ∧ P a := by
  cases o with
  | some a => exact ⟨a, rfl, h⟩
  | none => exact h.elim
theorem Po.ok {α : Type} {a : α} {P : α → Prop} {E : Value → Prop} (h : P a) : Po (.ok a) P E := h

structure Ct where
  K : PySem.W.Frag
  CL : Addr
  CP : Addr

/-- objects that never change -/
def sta : HO → Prop
  | .tup _ => True
  | .frz _ _ => True
  | _ => False

def hV : Option Int → V
  | none => .non
  | some i => .int i
def rowV (r : List (Option Int)) : List V := r.map hV
/-- a list of the written part -/
def KL (K : PySem.W.Frag) (a : Addr) (xs : List V) : Prop :=
  ∃ (o : Obj) (its : Array Value) (n : Nat), K.lookup a = some o ∧ o.cls = .type "list" ∧ o.dict = none ∧ o.data = .seq its n ∧ its.size ≤ sizeLine ∧ Vals xs its.toList

def landF (L : LandD) (g od : Addr) : List (Str × V) :=
  [("grid", .ref g), ("rows", .int L.g.length), ("columns", .int (L.g.headD []).length), ("open_at", .ref od)]
/-- a land at a, its objects F -/
def LandAt (c : Ct) (H : Hp) (a : Addr) (L : LandD) (F : List Addr) : Prop :=
  ∃ (dx g od : Addr) (rs : List Addr), H a = some (.ins c.CL dx (landF L g od)) ∧ H g = some (.lst (rs.map V.ref)) ∧ H od = some (.dT (L.o.map fun p => (p.1, V.bl p.2))) ∧
    Paired (fun r row => H r = some (.lst (rowV row))) rs L.g ∧ F = a :: g :: od :: rs

mutual
/-- v is the datum d in H; what can change of it lies in W -/
inductive Is (c : Ct) (W : Addr → Prop) (H : Hp) : V → D → Prop
  | non : Is c W H .non .non
  | bl (b : Bool) : Is c W H (.bl b) (.bl b)
  | int (i : Int) : Is c W H (.int i) (.int i)
  | str (x : Str) : Is c W H (.str x) (.str x)
  | lst {a : Addr} {xs : List V} {ds : List D} : W a → Rd H a (.lst xs) → IsA c W H xs ds → Is c W H (.ref a) (.lst ds)
  | lstK {a : Addr} {xs : List V} {ds : List D} : KL c.K a xs → IsA c W H xs ds → Is c W H (.ref a) (.lst ds)
  | tup {a : Addr} {xs : List V} {ds : List D} : H a = some (.tup xs) → IsA c W H xs ds → Is c W H (.ref a) (.tup ds)
  | dct {a : Addr} {ks : List (List Key)} {vs : List V} {ds : List D} : W a → H a = some (.dT (ks.zip vs)) → vs.length = ks.length → IsA c W H vs ds → Is c W H (.ref a) (.dct (ks.zip ds))
  | fd {a : Addr} {o : Obj} {ks : List (List Key)} {vs : List V} {ds : List D} : H a = some (.frz o (.dT (ks.zip vs))) → vs.length = ks.length → IsA c W H vs ds → Is c W H (.ref a) (.fd (ks.zip ds))
  | land {a : Addr} {L : LandD} {F : List Addr} : LandAt c H a L F → (∀ x ∈ F, W x) → Is c W H (.ref a) (.land L)
  | pile {a dx r : Addr} {xs : List V} {ds : List D} : W a → W r → H a = some (.ins c.CP dx [("row", .ref r)]) → H r = some (.lst xs) → IsA c W H xs ds → Is c W H (.ref a) (.pile ds)
  | raw {a C dx : Addr} : W a → H a = some (.ins C dx []) → Is c W H (.ref a) .raw
inductive IsA (c : Ct) (W : Addr → Prop) (H : Hp) : List V → List D → Prop
  | nil : IsA c W H [] []
  | cons {v : V} {vs : List V} {d : D} {ds : List D} : Is c W H v d → IsA c W H vs ds → IsA c W H (v :: vs) (d :: ds)
end

section
variable {c : Ct} {W W' : Addr → Prop} {H H' : Hp}
theorem Rd.carry {a : Addr} {xs : List V} (k : ∀ a o, (W a ∨ sta o) → H a = some o → H' a = some o) (w : W a) (h : Rd H a (.lst xs)) : Rd H' a (.lst xs) := by
  rcases h with h | ⟨o, h⟩
  · exact .inl (k _ _ (.inl w) h)
  · exact .inr ⟨o, k _ _ (.inl w) h⟩
theorem LandAt.carry {a : Addr} {L : LandD} {F : List Addr} (h : LandAt c H a L F) (k : ∀ x ∈ F, ∀ o, H x = some o → H' x = some o) : LandAt c H' a L F := by
  obtain ⟨dx, g, od, rs, h1, h2, h3, h4, rfl⟩ := h
  refine ⟨dx, g, od, rs, k _ (by simp) _ h1, k _ (by simp) _ h2, k _ (by simp) _ h3, ?_, rfl⟩
  have : ∀ (rs : List Addr) (gg : List (List (Option Int))), (∀ x ∈ rs, ∀ o, H x = some o → H' x = some o) → Paired (fun r row => H r = some (.lst (rowV row))) rs gg → Paired (fun r row => H' r = some (.lst (rowV row))) rs gg := by
    intro rs gg hk hp
    induction hp with
    | nil => exact .nil
    | cons p t ih => exact .cons (hk _ (by simp) _ p) (ih fun x hx => hk x (by simp [hx]))
  exact this rs L.g (fun x hx => k x (by simp [hx])) h4
mutual
theorem Is.mono (w : ∀ a, W a → W' a) (k : ∀ a o, (W a ∨ sta o) → H a = some o → H' a = some o) : ∀ {v : V} {d : D}, Is c W H v d → Is c W' H' v d
  | _, _, .non => .non
  | _, _, .bl b => .bl b
  | _, _, .int i => .int i
  | _, _, .str x => .str x
  | _, _, .lst h1 h2 h3 => .lst (w _ h1) (Rd.carry k h1 h2) (IsA.mono w k h3)
  | _, _, .lstK h2 h3 => .lstK h2 (IsA.mono w k h3)
  | _, _, .tup h1 h2 => .tup (k _ _ (.inr trivial) h1) (IsA.mono w k h2)
  | _, _, .dct h1 h2 h3 h4 => .dct (w _ h1) (k _ _ (.inl h1) h2) h3 (IsA.mono w k h4)
  | _, _, .fd h2 h3 h4 => .fd (k _ _ (.inr trivial) h2) h3 (IsA.mono w k h4)
  | _, _, .land h1 h2 => .land (h1.carry fun x hx o => k x o (.inl (h2 x hx))) fun x hx => w x (h2 x hx)
  | _, _, .pile h1 h2 h3 h4 h5 => .pile (w _ h1) (w _ h2) (k _ _ (.inl h1) h3) (k _ _ (.inl h2) h4) (IsA.mono w k h5)
  | _, _, .raw h1 h2 => .raw (w _ h1) (k _ _ (.inl h1) h2)
theorem IsA.mono (w : ∀ a, W a → W' a) (k : ∀ a o, (W a ∨ sta o) → H a = some o → H' a = some o) : ∀ {vs : List V} {ds : List D}, IsA c W H vs ds → IsA c W' H' vs ds
  | _, _, .nil => .nil
  | _, _, .cons h t => .cons (Is.mono w k h) (IsA.mono w k t)
end
theorem IsA.length : ∀ {vs : List V} {ds : List D}, IsA c W H vs ds → vs.length = ds.length
  | _, _, .nil => rfl
  | _, _, .cons _ t => by simp [IsA.length t]
theorem IsA.get : ∀ {vs : List V} {ds : List D} {i : Nat} {v : V}, IsA c W H vs ds → vs[i]? = some v → ∃ d, ds[i]? = some d ∧ Is c W H v d
  | _, _, _, _, .nil, e => by simp at e
  | _, _, 0, v, .cons h _, e => by simp at e; subst e; exact ⟨_, rfl, h⟩
  | _, _, i + 1, v, .cons _ t, e => by
    obtain ⟨d, h1, h2⟩ := IsA.get (i := i) (v := v) t (by simpa using e)
    exact ⟨d, by simpa using h1, h2⟩
theorem IsA.getD : ∀ {vs : List V} {ds : List D} {i : Nat} {d : D}, IsA c W H vs ds → ds[i]? = some d → ∃ v, vs[i]? = some v ∧ Is c W H v d
  | _, _, _, _, .nil, e => by simp at e
  | _, _, 0, d, .cons h _, e => by simp at e; subst e; exact ⟨_, rfl, h⟩
  | _, _, i + 1, d, .cons _ t, e => by
    obtain ⟨v, h1, h2⟩ := IsA.getD (i := i) (d := d) t (by simpa using e)
    exact ⟨v, by simpa using h1, h2⟩
theorem IsA.append : ∀ {vs us : List V} {ds es : List D}, IsA c W H vs ds → IsA c W H us es → IsA c W H (vs ++ us) (ds ++ es)
  | _, _, _, _, .nil, h => h
  | _, _, _, _, .cons h t, h' => .cons h (IsA.append t h')
theorem IsA.take (n : Nat) : ∀ {vs : List V} {ds : List D}, IsA c W H vs ds → IsA c W H (vs.take n) (ds.take n) := by
  induction n with
  | zero => intro vs ds _; exact .nil
  | succ n ih =>
    intro vs ds h
    cases h with
    | nil => exact .nil
    | cons h t => exact .cons h (ih t)
theorem IsA.drop (n : Nat) : ∀ {vs : List V} {ds : List D}, IsA c W H vs ds → IsA c W H (vs.drop n) (ds.drop n) := by
  induction n with
  | zero => intro vs ds h; exact h
  | succ n ih =>
    intro vs ds h
    cases h with
    | nil => exact .nil
    | cons h t => exact ih t
theorem IsA.set {v : V} {d : D} (hv : Is c W H v d) : ∀ {vs : List V} {ds : List D} (i : Nat), IsA c W H vs ds → IsA c W H (vs.set i v) (ds.set i d)
  | _, _, _, .nil => .nil
  | _, _, 0, .cons _ t => .cons hv t
  | _, _, i + 1, .cons h t => .cons h (IsA.set hv i t)
theorem IsA.all_mono : ∀ {vs : List V} {ds : List D}, (∀ v d, d ∈ ds → Is c W H v d → Is c W' H' v d) → IsA c W H vs ds → IsA c W' H' vs ds
  | _, _, _, .nil => .nil
  | _, _, f, .cons h t => .cons (f _ _ (by simp) h) (IsA.all_mono (fun v d hd => f v d (by simp [hd])) t)
end

/-! ### what never changes -/
mutual
def D.imm : D → Bool
  | .non => true
  | .bl _ => true
  | .int _ => true
  | .str _ => true
  | .tup l => immA l
  | .lst _ => false
  | .dct _ => false
  | .fd _ => false
  | .land _ => false
  | .pile _ => false
  | .raw => false
def immA : List D → Bool
  | [] => true
  | d :: ds => d.imm && immA ds
end
@[simp] theorem imm_non : D.imm .non = true := by simp only [D.imm]
@[simp] theorem imm_bl (b) : D.imm (.bl b) = true := by simp only [D.imm]
@[simp] theorem imm_int (i) : D.imm (.int i) = true := by simp only [D.imm]
@[simp] theorem imm_str (s) : D.imm (.str s) = true := by simp only [D.imm]
@[simp] theorem imm_tup (l) : D.imm (.tup l) = immA l := by simp only [D.imm]
@[simp] theorem imm_lst (l) : D.imm (.lst l) = false := by simp only [D.imm]
@[simp] theorem imm_dct (l) : D.imm (.dct l) = false := by simp only [D.imm]
@[simp] theorem imm_fd (l) : D.imm (.fd l) = false := by simp only [D.imm]
@[simp] theorem imm_land (l) : D.imm (.land l) = false := by simp only [D.imm]
@[simp] theorem imm_pile (l) : D.imm (.pile l) = false := by simp only [D.imm]
@[simp] theorem imm_raw : D.imm .raw = false := by simp only [D.imm]
@[simp] theorem immA_nil : immA [] = true := by simp only [immA]
@[simp] theorem immA_cons (d ds) : immA (d :: ds) = (d.imm && immA ds) := by simp only [immA]
section
variable {c : Ct} {W W' : Addr → Prop} {H H' : Hp}
mutual
theorem Is.imm (k : ∀ a o, sta o → H a = some o → H' a = some o) {v : V} {d : D} (h : Is c W H v d) (e : d.imm = true) : Is c W' H' v d := by
  match h with
  | .non => exact .non
  | .bl b => exact .bl b
  | .int i => exact .int i
  | .str x => exact .str x
  | .tup h1 h2 => exact .tup (k _ _ trivial h1) (IsA.imm k h2 (by rw [imm_tup] at e; exact e))
  | .lst _ _ _ => rw [imm_lst] at e; cases e
  | .lstK _ _ => rw [imm_lst] at e; cases e
  | .dct _ _ _ _ => rw [imm_dct] at e; cases e
  | .fd _ _ _ => rw [imm_fd] at e; cases e
  | .land _ _ => rw [imm_land] at e; cases e
  | .pile _ _ _ _ _ => rw [imm_pile] at e; cases e
  | .raw _ _ => rw [imm_raw] at e; cases e
theorem IsA.imm (k : ∀ a o, sta o → H a = some o → H' a = some o) {vs : List V} {ds : List D} (h : IsA c W H vs ds) (e : immA ds = true) : IsA c W' H' vs ds := by
  match h with
  | .nil => exact .nil
  | .cons h t =>
    rw [immA_cons, Bool.and_eq_true] at e
    exact .cons (Is.imm k h e.1) (IsA.imm k t e.2)
end
end

section
variable {c : Ct} {W W' : Addr → Prop} {H H' : Hp}
mutual
/-- what can change of it stands in H -/
theorem Is.track : ∀ {v : V} {d : D}, Is c W H v d → Is c (fun a => W a ∧ H a ≠ none) H v d
  | _, _, .non => .non
  | _, _, .bl b => .bl b
  | _, _, .int i => .int i
  | _, _, .str x => .str x
  | _, _, .lst h1 h2 h3 => .lst ⟨h1, by rcases h2 with h | ⟨o, h⟩ <;> rw [h] <;> simp⟩ h2 (IsA.track h3)
  | _, _, .lstK h2 h3 => .lstK h2 (IsA.track h3)
  | _, _, .tup h1 h2 => .tup h1 (IsA.track h2)
  | _, _, .dct h1 h2 h3 h4 => .dct ⟨h1, by rw [h2]; simp⟩ h2 h3 (IsA.track h4)
  | _, _, .fd h2 h3 h4 => .fd h2 h3 (IsA.track h4)
  | _, _, .land h1 h2 => .land h1 fun x hx => ⟨h2 x hx, by
      obtain ⟨dx, g, od, rs, e1, e2, e3, e4, rfl⟩ := h1
      rcases (by simpa using hx : _ ∨ x = g ∨ x = od ∨ x ∈ rs) with e | e | e | e
      · rw [e, e1]; simp
      · rw [e, e2]; simp
      · rw [e, e3]; simp
      · have : ∀ {rs : List Addr} {gg : List (List (Option Int))}, Paired (fun r row => H r = some (.lst (rowV row))) rs gg → x ∈ rs → H x ≠ none := by
          intro rs gg p hm
          induction p with
          | nil => simp at hm
          | cons h t ih =>
            rcases List.mem_cons.mp hm with e | hm
            · rw [e, h]; simp
            · exact ih hm
        exact this e4 e⟩
  | _, _, .pile h1 h2 h3 h4 h5 => .pile ⟨h1, by rw [h3]; simp⟩ ⟨h2, by rw [h4]; simp⟩ h3 h4 (IsA.track h5)
  | _, _, .raw h1 h2 => .raw ⟨h1, by rw [h2]; simp⟩ h2
theorem IsA.track : ∀ {vs : List V} {ds : List D}, IsA c W H vs ds → IsA c (fun a => W a ∧ H a ≠ none) H vs ds
  | _, _, .nil => .nil
  | _, _, .cons h t => .cons (Is.track h) (IsA.track t)
end
end

/-! ### data as the library's data -/
mutual
def toPy : D → PyData
  | .non => .none
  | .bl b => .bool b
  | .int i => .int i
  | .str s => .str s
  | .lst l => .list (toPyA l)
  | .tup l => .tuple (toPyA l)
  | .dct _ => .dict []
  | .fd _ => .dict []
  | .land _ => .dict []
  | .pile _ => .dict []
  | .raw => .dict []
def toPyA : List D → List PyData
  | [] => []
  | d :: ds => toPy d :: toPyA ds
end
@[simp] theorem toPy_non : toPy .non = .none := by simp only [toPy]
@[simp] theorem toPy_bl (b) : toPy (.bl b) = .bool b := by simp only [toPy]
@[simp] theorem toPy_int (b) : toPy (.int b) = .int b := by simp only [toPy]
@[simp] theorem toPy_str (b) : toPy (.str b) = .str b := by simp only [toPy]
@[simp] theorem toPy_lst (b) : toPy (.lst b) = .list (toPyA b) := by simp only [toPy]
@[simp] theorem toPy_tup (b) : toPy (.tup b) = .tuple (toPyA b) := by simp only [toPy]
@[simp] theorem toPy_dct (b) : toPy (.dct b) = .dict [] := by simp only [toPy]
@[simp] theorem toPy_fd (b) : toPy (.fd b) = .dict [] := by simp only [toPy]
@[simp] theorem toPy_land (b) : toPy (.land b) = .dict [] := by simp only [toPy]
@[simp] theorem toPy_pile (b) : toPy (.pile b) = .dict [] := by simp only [toPy]
@[simp] theorem toPy_raw : toPy .raw = .dict [] := by simp only [toPy]
theorem toPyA_map : ∀ l, toPyA l = l.map toPy
  | [] => by simp only [toPyA, List.map_nil]
  | d :: ds => by simp only [toPyA, List.map_cons, toPyA_map ds]
section
variable {c : Ct} {W W' : Addr → Prop} {H H' : Hp}
mutual
theorem Is.dp : ∀ {v : V} {d : D}, Is c W H v d → (toPy d).canLay0 = true → Dp c.K H v (toPy d)
  | _, _, .non, _ => by rw [toPy_non]; exact .non
  | _, _, .bl b, _ => by rw [toPy_bl]; exact .bl b
  | _, _, .int i, _ => by rw [toPy_int]; exact .int i
  | _, _, .str x, _ => by rw [toPy_str]; exact .str x
  | _, _, .lst h1 h2 h3, e => by
    rw [toPy_lst] at e ⊢
    simp only [PyData.canLay0] at e
    exact .lst (.inl h2) (IsA.dp h3 e)
  | _, _, .lstK h2 h3, e => by
    rw [toPy_lst] at e ⊢
    simp only [PyData.canLay0] at e
    exact .lst (.inr h2) (IsA.dp h3 e)
  | _, _, .tup h1 h2, e => by
    rw [toPy_tup] at e ⊢
    simp only [PyData.canLay0] at e
    exact .tup (.of h1) (IsA.dp h2 e)
  | _, _, .dct _ _ _ _, e => by rw [toPy_dct] at e; simp only [PyData.canLay0] at e; cases e
  | _, _, .fd _ _ _, e => by rw [toPy_fd] at e; simp only [PyData.canLay0] at e; cases e
  | _, _, .land _ _, e => by rw [toPy_land] at e; simp only [PyData.canLay0] at e; cases e
  | _, _, .pile _ _ _ _ _, e => by rw [toPy_pile] at e; simp only [PyData.canLay0] at e; cases e
  | _, _, .raw _ _, e => by rw [toPy_raw] at e; simp only [PyData.canLay0] at e; cases e
theorem IsA.dp : ∀ {vs : List V} {ds : List D}, IsA c W H vs ds → PyData.canLayAll0 (toPyA ds) = true → DpAll c.K H vs (toPyA ds)
  | _, _, .nil, _ => by simp only [toPyA]; exact .nil
  | _, _, .cons h t, e => by
    simp only [toPyA, PyData.canLayAll0, Bool.and_eq_true] at e ⊢
    exact .cons (Is.dp h e.1) (IsA.dp t e.2)
end
end

/-! ### what is owned -/
inductive Sh where
  | fz
  | l (s : Sh)
  | d
  | land
  | pile
  | m
  | tl
  deriving DecidableEq
inductive P3 (P : V → D → List Addr → Prop) : List V → List D → List (List Addr) → Prop
  | nil : P3 P [] [] []
  | cons {v vs d ds F Fs} : P v d F → P3 P vs ds Fs → P3 P (v :: vs) (d :: ds) (F :: Fs)
/-- v is d, and the objects F are its own -/
def Own (c : Ct) (W : Addr → Prop) (H : Hp) : Sh → V → D → List Addr → Prop
  | .fz, v, d, F => F = [] ∧ Is c W H v d
  | .l s, v, d, F => ∃ (a : Addr) (xs : List V) (ds : List D) (Gs : List (List Addr)), v = .ref a ∧ d = .lst ds ∧ H a = some (.lst xs) ∧ P3 (Own c W H s) xs ds Gs ∧ F = a :: Gs.flatten
  | .d, v, d, F => ∃ (a : Addr) (ks : List (List Key)) (vs : List V) (ds : List D), v = .ref a ∧ d = .dct (ks.zip ds) ∧ H a = some (.dT (ks.zip vs)) ∧ vs.length = ks.length ∧ IsA c W H vs ds ∧ F = [a]
  | .land, v, d, F => ∃ (a : Addr), v = .ref a ∧ ((∃ (L : LandD), d = .land L ∧ LandAt c H a L F) ∨ (∃ dx, d = .raw ∧ H a = some (.ins c.CL dx []) ∧ F = [a]))
  | .pile, v, d, F => ∃ (a : Addr), v = .ref a ∧ ((∃ (dx r : Addr) (xs : List V) (ds : List D), d = .pile ds ∧ H a = some (.ins c.CP dx [("row", .ref r)]) ∧ H r = some (.lst xs) ∧ IsA c W H xs ds ∧ F = [a, r]) ∨ (∃ dx, d = .raw ∧ H a = some (.ins c.CP dx []) ∧ F = [a]))
  | .m, v, d, F => (F = [] ∧ d.imm = true ∧ Is c W H v d) ∨ ∃ (a : Addr) (xs : List V) (ds : List D), v = .ref a ∧ d = .lst ds ∧ H a = some (.lst xs) ∧ IsA c W H xs ds ∧ F = [a]
  | .tl, v, d, F => ∃ (t a : Addr) (xs : List V) (ds : List D) (vs : List V) (es : List D), v = .ref t ∧ d = .tup (.lst ds :: es) ∧ H t = some (.tup (.ref a :: vs)) ∧ H a = some (.lst xs) ∧ IsA c W H xs ds ∧ IsA c W H vs es ∧ F = [a]
section
variable {c : Ct} {W W' : Addr → Prop} {H H' : Hp} {P P' : V → D → List Addr → Prop}
theorem P3.imp : ∀ {vs ds Fs}, P3 P vs ds Fs → (∀ v d F, F ∈ Fs → P v d F → P' v d F) → P3 P' vs ds Fs
  | _, _, _, .nil, _ => .nil
  | _, _, _, .cons h t, f => .cons (f _ _ _ (by simp) h) (t.imp fun v d F hF => f v d F (by simp [hF]))
theorem P3.toA : ∀ {vs ds Fs}, P3 P vs ds Fs → (∀ v d F, F ∈ Fs → P v d F → Is c W H v d) → IsA c W H vs ds
  | _, _, _, .nil, _ => .nil
  | _, _, _, .cons h t, f => .cons (f _ _ _ (by simp) h) (t.toA fun v d F hF => f v d F (by simp [hF]))
theorem P3.length : ∀ {vs ds Fs}, P3 P vs ds Fs → vs.length = ds.length ∧ Fs.length = ds.length
  | _, _, _, .nil => ⟨rfl, rfl⟩
  | _, _, _, .cons _ t => by simp [t.length.1, t.length.2]
theorem P3.append : ∀ {vs ds Fs us es Gs}, P3 P vs ds Fs → P3 P us es Gs → P3 P (vs ++ us) (ds ++ es) (Fs ++ Gs)
  | _, _, _, _, _, _, .nil, h => h
  | _, _, _, _, _, _, .cons h t, h' => .cons h (t.append h')
theorem P3.get : ∀ {vs ds Fs} {i : Nat} {v : V}, P3 P vs ds Fs → vs[i]? = some v → ∃ d F, ds[i]? = some d ∧ Fs[i]? = some F ∧ P v d F
  | _, _, _, _, _, .nil, e => by simp at e
  | _, _, _, 0, v, .cons h _, e => by simp at e; subst e; exact ⟨_, _, rfl, rfl, h⟩
  | _, _, _, i + 1, v, .cons _ t, e => by
    obtain ⟨d, F, h1, h2, h3⟩ := P3.get (i := i) (v := v) t (by simpa using e)
    exact ⟨d, F, by simpa using h1, by simpa using h2, h3⟩
theorem P3.set {v : V} {d : D} {F : List Addr} (hv : P v d F) : ∀ {vs ds Fs} (i : Nat), P3 P vs ds Fs → P3 P (vs.set i v) (ds.set i d) (Fs.set i F)
  | _, _, _, _, .nil => .nil
  | _, _, _, 0, .cons _ t => .cons hv t
  | _, _, _, i + 1, .cons h t => .cons h (P3.set hv i t)
theorem IsA.toP3 : ∀ {vs ds}, IsA c W H vs ds → ∃ Gs, P3 (Own c W H .fz) vs ds Gs ∧ Gs.flatten = []
  | _, _, .nil => ⟨[], .nil, rfl⟩
  | _, _, .cons h t => by
    obtain ⟨Gs, h1, h2⟩ := IsA.toP3 t
    exact ⟨[] :: Gs, .cons ⟨rfl, h⟩ h1, by simpa using h2⟩
theorem P3.ofFz : ∀ {vs ds Fs}, P3 (Own c W H .fz) vs ds Fs → IsA c W H vs ds ∧ Fs.flatten = []
  | _, _, _, .nil => ⟨.nil, rfl⟩
  | _, _, _, .cons h t => ⟨.cons h.2 t.ofFz.1, by
    have e1 := h.1
    have e2 := t.ofFz.2
    subst e1
    simpa using e2⟩
theorem mem_flat {Gs : List (List Addr)} {G : List Addr} (h : G ∈ Gs) {x : Addr} (hx : x ∈ G) : x ∈ Gs.flatten := List.mem_flatten.mpr ⟨G, h, hx⟩
theorem Own.mono (w : ∀ a, W a → W' a) : ∀ {s : Sh} {v : V} {d : D} {F : List Addr}, (∀ a o, (W a ∨ a ∈ F ∨ sta o) → H a = some o → H' a = some o) → Own c W H s v d F → Own c W' H' s v d F
  | .fz, v, d, F, k, ⟨e, h⟩ => ⟨e, h.mono w fun a o x => k a o (x.elim .inl fun y => .inr (.inr y))⟩
  | .l s, v, d, F, k, ⟨a, xs, ds, Gs, e1, e2, h1, h2, e3⟩ => by
    subst e3
    refine ⟨a, xs, ds, Gs, e1, e2, k _ _ (.inr (.inl (by simp))) h1, h2.imp fun v d F hF h => ?_, rfl⟩
    exact Own.mono w (fun b o x => k b o (by
      rcases x with x | x | x
      · exact .inl x
      · exact .inr (.inl (List.mem_cons_of_mem _ (mem_flat hF x)))
      · exact .inr (.inr x))) h
  | .d, v, d, F, k, ⟨a, ks, vs, ds, e1, e2, h1, h2, h3, e3⟩ => by
    subst e3
    exact ⟨a, ks, vs, ds, e1, e2, k _ _ (.inr (.inl (by simp))) h1, h2, h3.mono w fun a o x => k a o (x.elim .inl fun y => .inr (.inr y)), rfl⟩
  | .land, v, d, F, k, ⟨a, e1, .inl ⟨L, e2, h⟩⟩ => ⟨a, e1, .inl ⟨L, e2, h.carry fun x hx o => k x o (.inr (.inl hx))⟩⟩
  | .land, v, d, F, k, ⟨a, e1, .inr ⟨dx, e2, h, e3⟩⟩ => by
    subst e3
    exact ⟨a, e1, .inr ⟨dx, e2, k _ _ (.inr (.inl (by simp))) h, rfl⟩⟩
  | .pile, v, d, F, k, ⟨a, e1, .inl ⟨dx, r, xs, ds, e2, h1, h2, h3, e3⟩⟩ => by
    subst e3
    exact ⟨a, e1, .inl ⟨dx, r, xs, ds, e2, k _ _ (.inr (.inl (by simp))) h1, k _ _ (.inr (.inl (by simp))) h2, h3.mono w fun a o x => k a o (x.elim .inl fun y => .inr (.inr y)), rfl⟩⟩
  | .pile, v, d, F, k, ⟨a, e1, .inr ⟨dx, e2, h, e3⟩⟩ => by
    subst e3
    exact ⟨a, e1, .inr ⟨dx, e2, k _ _ (.inr (.inl (by simp))) h, rfl⟩⟩
  | .m, v, d, F, k, .inl ⟨e, hd, h⟩ => .inl ⟨e, hd, h.mono w fun a o x => k a o (x.elim .inl fun y => .inr (.inr y))⟩
  | .m, v, d, F, k, .inr ⟨a, xs, ds, e1, e2, h1, h2, e3⟩ => by
    subst e3
    exact .inr ⟨a, xs, ds, e1, e2, k _ _ (.inr (.inl (by simp))) h1, h2.mono w fun a o x => k a o (x.elim .inl fun y => .inr (.inr y)), rfl⟩
  | .tl, v, d, F, k, ⟨t, a, xs, ds, vs, es, e1, e2, h0, h1, h2, h3, e3⟩ => by
    subst e3
    exact ⟨t, a, xs, ds, vs, es, e1, e2, k _ _ (.inr (.inr trivial)) h0, k _ _ (.inr (.inl (by simp))) h1, h2.mono w fun a o x => k a o (x.elim .inl fun y => .inr (.inr y)), h3.mono w fun a o x => k a o (x.elim .inl fun y => .inr (.inr y)), rfl⟩
/-- what is owned may be read -/
theorem Own.toIs (w : ∀ a, W a → W' a) : ∀ {s : Sh} {v : V} {d : D} {F : List Addr}, (∀ a ∈ F, W' a) → Own c W H s v d F → Is c W' H v d
  | .fz, v, d, F, k, ⟨e, h⟩ => h.mono w fun a o _ x => x
  | .l s, v, d, F, k, ⟨a, xs, ds, Gs, e1, e2, h1, h2, e3⟩ => by
    subst e3 e1 e2
    refine .lst (k _ (by simp)) (.inl h1) (h2.toA fun v d F hF h => Own.toIs w (fun x hx => k x (List.mem_cons_of_mem _ (mem_flat hF hx))) h)
  | .d, v, d, F, k, ⟨a, ks, vs, ds, e1, e2, h1, h2, h3, e3⟩ => by
    subst e3 e1 e2
    exact .dct (k _ (by simp)) h1 h2 (h3.mono w fun a o _ x => x)
  | .land, v, d, F, k, ⟨a, e1, .inl ⟨L, e2, h⟩⟩ => by
    subst e1 e2
    exact .land h k
  | .land, v, d, F, k, ⟨a, e1, .inr ⟨dx, e2, h, e3⟩⟩ => by
    subst e3 e1 e2
    exact .raw (k _ (by simp)) h
  | .pile, v, d, F, k, ⟨a, e1, .inl ⟨dx, r, xs, ds, e2, h1, h2, h3, e3⟩⟩ => by
    subst e3 e1 e2
    exact .pile (k _ (by simp)) (k _ (by simp)) h1 h2 (h3.mono w fun a o _ x => x)
  | .pile, v, d, F, k, ⟨a, e1, .inr ⟨dx, e2, h, e3⟩⟩ => by
    subst e3 e1 e2
    exact .raw (k _ (by simp)) h
  | .m, v, d, F, k, .inl ⟨e, hd, h⟩ => h.mono w fun a o _ x => x
  | .m, v, d, F, k, .inr ⟨a, xs, ds, e1, e2, h1, h2, e3⟩ => by
    subst e3 e1 e2
    exact .lst (k _ (by simp)) (.inl h1) (h2.mono w fun a o _ x => x)
  | .tl, v, d, F, k, ⟨t, a, xs, ds, vs, es, e1, e2, h0, h1, h2, h3, e3⟩ => by
    subst e3 e1 e2
    exact .tup h0 (.cons (.lst (k _ (by simp)) (.inl h1) (h2.mono w fun a o _ x => x)) (h3.mono w fun a o _ x => x))
theorem P3.mem {P : V → D → List Addr → Prop} : ∀ {vs ds Fs} {F : List Addr}, P3 P vs ds Fs → F ∈ Fs → ∃ v d, P v d F
  | _, _, _, _, .nil, h => by simp at h
  | _, _, _, F, .cons (v := v) (d := d) (F := F') h t, hm => by
    rcases List.mem_cons.mp hm with e | hm
    · exact ⟨v, d, by rw [e]; exact h⟩
    · exact t.mem hm
theorem Own.track : ∀ {s : Sh} {v : V} {d : D} {F : List Addr}, Own c W H s v d F → Own c (fun a => W a ∧ H a ≠ none) H s v d F
  | .fz, v, d, F, ⟨e, h⟩ => ⟨e, h.track⟩
  | .l s, v, d, F, ⟨a, xs, ds, Gs, e1, e2, h1, h2, e3⟩ => ⟨a, xs, ds, Gs, e1, e2, h1, h2.imp fun v d F _ h => Own.track h, e3⟩
  | .d, v, d, F, ⟨a, ks, vs, ds, e1, e2, h1, h2, h3, e3⟩ => ⟨a, ks, vs, ds, e1, e2, h1, h2, h3.track, e3⟩
  | .land, v, d, F, h => h
  | .pile, v, d, F, ⟨a, e1, .inl ⟨dx, r, xs, ds, e2, h1, h2, h3, e3⟩⟩ => ⟨a, e1, .inl ⟨dx, r, xs, ds, e2, h1, h2, h3.track, e3⟩⟩
  | .pile, v, d, F, ⟨a, e1, .inr h⟩ => ⟨a, e1, .inr h⟩
  | .m, v, d, F, .inl ⟨e, hd, h⟩ => .inl ⟨e, hd, h.track⟩
  | .m, v, d, F, .inr ⟨a, xs, ds, e1, e2, h1, h2, e3⟩ => .inr ⟨a, xs, ds, e1, e2, h1, h2.track, e3⟩
  | .tl, v, d, F, ⟨t, a, xs, ds, vs, es, e1, e2, h0, h1, h2, h3, e3⟩ => ⟨t, a, xs, ds, vs, es, e1, e2, h0, h1, h2.track, h3.track, e3⟩
/-- an owned object stands, and can change -/
theorem Own.there : ∀ {s : Sh} {v : V} {d : D} {F : List Addr}, Own c W H s v d F → ∀ a ∈ F, ∃ o, H a = some o ∧ ¬ sta o
  | .fz, v, d, F, ⟨e, h⟩, a, ha => by subst e; simp at ha
  | .l s, v, d, F, ⟨b, xs, ds, Gs, e1, e2, h1, h2, e3⟩, a, ha => by
    subst e3
    rcases List.mem_cons.mp ha with e | ha
    · subst e; exact ⟨_, h1, fun z => z⟩
    · obtain ⟨G, hG, hx⟩ := List.mem_flatten.mp ha
      have : ∀ {vs ds Gs}, P3 (Own c W H s) vs ds Gs → G ∈ Gs → ∃ v d, Own c W H s v d G := by
        intro vs ds Gs p hm
        induction p with
        | nil => simp at hm
        | cons h t ih =>
          rcases List.mem_cons.mp hm with e | hm
          · subst e; exact ⟨_, _, h⟩
          · exact ih hm
      obtain ⟨v', d', h'⟩ := this h2 hG
      exact Own.there h' a hx
  | .d, v, d, F, ⟨b, ks, vs, ds, e1, e2, h1, h2, h3, e3⟩, a, ha => by
    subst e3
    have e : a = b := by simpa using ha
    subst e
    exact ⟨_, h1, fun z => z⟩
  | .land, v, d, F, ⟨b, e1, .inr ⟨dx, e2, h1, e3⟩⟩, a, ha => by
    subst e3
    have e : a = b := by simpa using ha
    subst e
    exact ⟨_, h1, fun z => z⟩
  | .pile, v, d, F, ⟨b, e1, .inr ⟨dx, e2, h1, e3⟩⟩, a, ha => by
    subst e3
    have e : a = b := by simpa using ha
    subst e
    exact ⟨_, h1, fun z => z⟩
  | .land, v, d, F, ⟨b, e1, .inl ⟨L, e2, dx, g, od, rs, h1, h2, h3, h4, e3⟩⟩, a, ha => by
    subst e3
    have hm : a = b ∨ a = g ∨ a = od ∨ a ∈ rs := by simpa using ha
    rcases hm with e | e | e | e
    · subst e; exact ⟨_, h1, fun z => z⟩
    · subst e; exact ⟨_, h2, fun z => z⟩
    · subst e; exact ⟨_, h3, fun z => z⟩
    · have : ∀ {rs : List Addr} {gg : List (List (Option Int))}, Paired (fun r row => H r = some (.lst (rowV row))) rs gg → a ∈ rs → ∃ row, H a = some (.lst (rowV row)) := by
        intro rs gg p hm
        induction p with
        | nil => simp at hm
        | cons h t ih =>
          rcases List.mem_cons.mp hm with e | hm
          · subst e; exact ⟨_, h⟩
          · exact ih hm
      obtain ⟨row, hr⟩ := this h4 e
      exact ⟨_, hr, fun z => z⟩
  | .pile, v, d, F, ⟨b, e1, .inl ⟨dx, r, xs, ds, e2, h1, h2, h3, e3⟩⟩, a, ha => by
    subst e3
    have hm : a = b ∨ a = r := by simpa using ha
    rcases hm with e | e
    · subst e; exact ⟨_, h1, fun z => z⟩
    · subst e; exact ⟨_, h2, fun z => z⟩
  | .m, v, d, F, .inl ⟨e, _, _⟩, a, ha => by subst e; simp at ha
  | .m, v, d, F, .inr ⟨b, xs, ds, e1, e2, h1, h2, e3⟩, a, ha => by
    subst e3
    have e : a = b := by simpa using ha
    subst e
    exact ⟨_, h1, fun z => z⟩
  | .tl, v, d, F, ⟨t, b, xs, ds, vs, es, e1, e2, h0, h1, h2, h3, e3⟩, a, ha => by
    subst e3
    have e : a = b := by simpa using ha
    subst e
    exact ⟨_, h1, fun z => z⟩
end
end VS
set_option Elab.async false
set_option linter.all false
set_option maxRecDepth 100000
set_option maxHeartbeats 2000000
/-! VB: expressions by their plain meaning. -/
namespace VS
open PySem L2

abbrev Rho := List (Option D)
abbrev EF := Rho → O D
abbrev TF := Rho → O Bool
abbrev AF := Rho → O (List D)

/-- two regions: what is new (since the def's entry), what may be read without being owned -/
structure Wd where
  n : Addr → Prop
  b : Addr → Prop
  le : ∀ a, n a → b a
def Wd.at (w : Wd) : Nat → Addr → Prop
  | 0 => w.n
  | 1 => w.b
  | _ => fun _ => True
theorem Wd.up (w : Wd) : ∀ {i j : Nat}, i ≤ j → ∀ a, w.at i a → w.at j a
  | 0, 0, _, _, h => h
  | 0, 1, _, a, h => w.le a h
  | 0, _ + 2, _, _, _ => trivial
  | 1, 0, h, _, _ => absurd h (by decide)
  | 1, 1, _, _, h => h
  | 1, _ + 2, _, _, _ => trivial
  | _ + 2, 0, h, _, _ => absurd h (by omega)
  | _ + 2, 1, h, _, _ => absurd h (by omega)
  | _ + 2, _ + 2, _, _, _ => trivial

/-- what a slot is: read at a level of taint; owned (o); an owned parameter (p) -/
inductive Mo where
  | v (al : Nat)
  | o (s : Sh)
  | p (s : Sh)
  deriving DecidableEq
def Mo.tn : Mo → Nat
  | .v al => al
  | _ => 2

def Sl (c : Ct) (M : Nat → Mo) (w : Wd) (H : Hp) (σ : L2.St) (ρ : Rho) : Prop := σ.length = ρ.length ∧ ∀ i d, ρ[i]? = some (some d) → ∃ v, σ[i]? = some (some v) ∧ Is c (w.at (M i).tn) H v d
/-- of the region, or new since H -/
def NW (w : Wd) (al : Nat) (H : Hp) : Addr → Prop := fun a => w.at al a ∨ H a = none

section
variable {c : Ct} {M : Nat → Mo} {w : Wd} {H H' : Hp} {σ : L2.St} {ρ : Rho} {W W' : Addr → Prop}
theorem Is.same {v : V} {d : D} (h : Is c W H v d) (s : Same H H') : Is c W H' v d := h.mono (fun _ x => x) fun a o _ e => s a o e
theorem IsA.same {v : List V} {d : List D} (h : IsA c W H v d) (s : Same H H') : IsA c W H' v d := h.mono (fun _ x => x) fun a o _ e => s a o e
theorem Is.up {v : V} {d : D} (h : Is c W H v d) (w : ∀ a, W a → W' a) : Is c W' H v d := h.mono w fun a o _ e => e
theorem IsA.up {v : List V} {d : List D} (h : IsA c W H v d) (w : ∀ a, W a → W' a) : IsA c W' H v d := h.mono w fun a o _ e => e
theorem Sl.same (h : Sl c M w H σ ρ) (s : Same H H') : Sl c M w H' σ ρ := ⟨h.1, fun i d e => let ⟨v, h1, h2⟩ := h.2 i d e; ⟨v, h1, h2.same s⟩⟩
theorem NW.back (s : Same H H') {al : Nat} : ∀ a, NW w al H' a → NW w al H a := fun a h => h.elim .inl fun z => .inr (s.free z)
theorem NW.up {i j : Nat} (h : i ≤ j) : ∀ a, NW w i H a → NW w j H a := fun a x => x.elim (fun z => .inl (w.up h a z)) .inr
end

theorem takes0N {X : Cx} : L2N.Takes X (fun _ _ _ _ => False) := fun _ _ x => by
  obtain ⟨_, _, _, _, _, _, _, _, _, _, _, _, _, _, _, _, z⟩ := x
  exact z.elim
/-- as Fun.okX, whatever is told of what is let out -/
theorem okG {CX : CXT} {P : Program} {w : World} {K : PySem.W.Frag} {mg : Str → Option Value} {base : Heap} {x qual : Str} {st : Stmt} {f : Addr} {fd : FuncData} {N ps : List Str} {k : Nat} {sp : Sp} (F : Fun K x qual st f fd) (S : FnScope N ps (defScope st)) (len : ∀ vs H Q E, sp vs H Q E → vs.length = ps.length)
    (hbody : ∀ (cdv : Value) (A : Around) (outer : List Env) (s : Shared) (H : Hp) (vs : List V) (Q : VK) (E : XK), Room k (A.deeper (PyProof.Rows.envOfC qual (defScope st) s.heap.objs.size f cdv)) → sp vs H Q E →
      ∃ t, PSs (cxOf CX P w K mg base N qual (defScope st) f cdv A outer s H E) (defBody st) t ∧ t { nx := fun _ H' => Q .non H', rt := Q } (L2.start N vs) H) : FnOk P w K mg base CX (k + 1) f fd ps sp := by
  obtain ⟨oc, od, kV, doc, pm, an, cdv, ct, osl, rfl, lk, hcd⟩ := F.ex
  exact fn_of lk hcd S len fun A outer s H vs Q E hr hsp => hbody cdv A outer s H vs Q E hr hsp
/-- what a rule needs of where it stands -/
structure Cz (X : Cx) (c : Ct) (We : WX) (k : Nat) : Prop where
  K : X.K = c.K
  calm : X.calm = true
  tk : L2N.Takes X We
  hr : Room k X.A
  po : PassesOwn (model X.prog X.w) X.A X.env X.xe

structure VE (X : Cx) (c : Ct) (M : Nat → Mo) (We : WX) (al : Nat) (e : Expr) (f : EF) : Prop where
  ex : ∃ te, PE X e te ∧ ∀ (w : Wd) (σ : L2.St) (H : Hp) (ρ : Rho) (Q : VK), Sl c M w H σ ρ →
    Po (f ρ) (fun d => ∀ v H', Same H H' → Is c (NW w al H) H' v d → Q v H') (fun k => ∀ H', Same H H' → We k none σ H') → te σ H Q
structure VO (X : Cx) (c : Ct) (M : Nat → Mo) (We : WX) (s : Sh) (e : Expr) (f : EF) : Prop where
  ex : ∃ te, PE X e te ∧ ∀ (w : Wd) (σ : L2.St) (H : Hp) (ρ : Rho) (Q : VK), Sl c M w H σ ρ →
    Po (f ρ) (fun d => ∀ v H' F, Same H H' → (∀ a ∈ F, H a = none) → F.Nodup → Own c (fun a => NW w 0 H a ∧ a ∉ F) H' s v d F → Q v H') (fun k => ∀ H', Same H H' → We k none σ H') → te σ H Q
structure VA (X : Cx) (c : Ct) (M : Nat → Mo) (We : WX) (al : Nat) (es : List Expr) (f : AF) : Prop where
  ex : ∃ ta, PA X es ta ∧ ∀ (w : Wd) (σ : L2.St) (H : Hp) (ρ : Rho) (Q : List V → Hp → Prop), Sl c M w H σ ρ →
    Po (f ρ) (fun ds => ∀ vs H', Same H H' → IsA c (NW w al H) H' vs ds → Q vs H') (fun k => ∀ H', Same H H' → We k none σ H') → ta σ H Q
structure VT (X : Cx) (c : Ct) (M : Nat → Mo) (We : WX) (e : Expr) (f : TF) : Prop where
  ex : ∃ tt, PT X e tt ∧ ∀ (w : Wd) (σ : L2.St) (H : Hp) (ρ : Rho) (Q : Bool → Hp → Prop), Sl c M w H σ ρ →
    Po (f ρ) (fun b => ∀ H', Same H H' → Q b H') (fun k => ∀ H', Same H H' → We k none σ H') → tt σ H Q
structure VW (X : Cx) (c : Ct) (M : Nat → Mo) (We : WX) (e : Expr) (f : TF) : Prop where
  ex : ∃ tt, PW X e tt ∧ ∀ (w : Wd) (σ : L2.St) (H : Hp) (ρ : Rho) (Q : Bool → Hp → Prop), Sl c M w H σ ρ →
    Po (f ρ) (fun b => ∀ H', Same H H' → Q b H') (fun k => ∀ H', Same H H' → We k none σ H') → tt σ H Q

/-! ### meanings -/
def eVar (i : Nat) : EF := fun ρ => match ρ[i]? with
  | some (some d) => .ok d
  | _ => .bad
def eC (d : D) : EF := fun _ => .ok d
def e1 (g : D → O D) (f : EF) : EF := fun ρ => (f ρ).bind g
def e2 (g : D → D → O D) (f h : EF) : EF := fun ρ => (f ρ).bind fun x => (h ρ).bind fun y => g x y
def eImm (f : EF) : EF := fun ρ => (f ρ).bind fun d => gd d.imm (.ok d)
def aNil : AF := fun _ => .ok []
def aCons (f : EF) (g : AF) : AF := fun ρ => (f ρ).bind fun x => (g ρ).bind fun xs => .ok (x :: xs)
def eTup (f : AF) : EF := fun ρ => (f ρ).bind fun ds => gd (decide (ds.length ≤ 100000)) (.ok (.tup ds))
def eLst (f : AF) : EF := fun ρ => (f ρ).bind fun ds => gd (decide (ds.length ≤ 100000)) (.ok (.lst ds))
def tE (f : EF) : TF := fun ρ => (f ρ).bind fun d => match d with
  | .bl b => .ok b
  | _ => .bad
def tAndF (f g : TF) : TF := fun ρ => (f ρ).bind fun b => if b = true then g ρ else .ok false
def tOrF (f g : TF) : TF := fun ρ => (f ρ).bind fun b => if b = true then .ok true else g ρ
def tNotF (f : TF) : TF := fun ρ => (f ρ).bind fun b => .ok (!b)
def eB (f : TF) : EF := fun ρ => (f ρ).bind fun b => .ok (.bl b)

section
variable {X : Cx} {c : Ct} {M : Nat → Mo} {We : WX} {al al' : Nat} {e a b : Expr} {f fa fb : EF} {pos : Pos}

theorem VE.up (h : VE X c M We al e f) (l : al ≤ al') : VE X c M We al' e f := by
  obtain ⟨te, p, s⟩ := h.ex
  exact ⟨te, p, fun w σ H ρ Q sl po => s w σ H ρ Q sl (po.imp (fun d _ q v H' hs hi => q v H' hs (hi.up (NW.up l))) fun _ _ q => q)⟩
theorem VO.toE (s : Sh) (h : VO X c M We s e f) : VE X c M We 0 e f := by
  obtain ⟨te, p, so⟩ := h.ex
  refine ⟨te, p, fun w σ H ρ Q sl po => so w σ H ρ Q sl (po.imp (fun d _ q v H' F hs hn _ ho => q v H' hs ?_) fun _ _ q => q)⟩
  exact ho.toIs (fun a x => x.1) fun a ha => .inr (hn a ha)
theorem VE.toO (h : VE X c M We 0 e f) : VO X c M We .fz e f := by
  obtain ⟨te, p, s⟩ := h.ex
  exact ⟨te, p, fun w σ H ρ Q sl po => s w σ H ρ Q sl (po.imp (fun d _ q v H' hs hi => q v H' [] hs (by simp) (by simp) ⟨rfl, hi.up fun a x => ⟨x, by simp⟩⟩) fun _ _ q => q)⟩
theorem ve_imm (h : VE X c M We al e f) : VE X c M We 0 e (eImm f) := by
  obtain ⟨te, p, s⟩ := h.ex
  refine ⟨te, p, fun w σ H ρ Q sl po => s w σ H ρ Q sl ((Po.bind po).imp (fun d _ q v H' hs hi => ?_) fun _ _ q => q)⟩
  obtain ⟨hd, q⟩ := Po.gd q
  exact q v H' hs (hi.imm (fun _ _ _ x => x) hd)
theorem ve_var (i : Nat) {x : Str} (hN : X.N[i]? = some x := by rfl) (hv : Vis X.env.scope x := by first | exact Or.inl rfl | exact Or.inr (Or.inl rfl) | exact Or.inr (Or.inr rfl)) (hd : (x == ("__debug__" : Str)) = false := by decide)
    (hcd : (x == ("__classdict__" : Str)) = false := by decide) : VE X c M We (M i).tn (.Name x pos) (eVar i) := by
  refine ⟨_, pv i hN hv hd hcd, fun w σ H ρ Q sl po => ?_⟩
  unfold eVar at po
  cases hr : ρ[i]? with
  | none => rw [hr] at po; exact po.elim
  | some o =>
    cases o with
    | none => rw [hr] at po; exact po.elim
    | some d =>
      rw [hr] at po
      obtain ⟨v, h1, h2⟩ := sl.2 i d hr
      exact ⟨v, h1, po v H (Same.refl H) (h2.up fun _ x => .inl x)⟩
theorem ve_int {i : Int} {j pos} : VE X c M We 0 (.Constant (.int i) j pos) (eC (.int i)) := ⟨_, pe_int, fun w σ H ρ Q sl po => po _ H (Same.refl H) (.int i)⟩
theorem ve_bl {b : Bool} {j pos} : VE X c M We 0 (.Constant (.bool b) j pos) (eC (.bl b)) := ⟨_, pe_bl, fun w σ H ρ Q sl po => po _ H (Same.refl H) (.bl b)⟩
theorem ve_non {j pos} : VE X c M We 0 (.Constant .none j pos) (eC .non) := ⟨_, pe_non, fun w σ H ρ Q sl po => po _ H (Same.refl H) .non⟩
theorem ve_str {s : Str} {j pos} : VE X c M We 0 (.Constant (.str s) j pos) (eC (.str s)) := ⟨_, pe_str, fun w σ H ρ Q sl po => po _ H (Same.refl H) (.str s)⟩
/-- a module's whole number -/
theorem ve_glob {x : Str} {i : Int} {t : Tok} (hg : Gl X x) (hm : X.mg x = some (.int i t)) (hd : (x == ("__debug__" : Str)) = false := by decide) : VE X c M We 0 (.Name x pos) (eC (.int i)) :=
  ⟨_, pe_glob (v := .int i) hg hm ⟨t, rfl⟩ hd, fun w σ H ρ Q sl po => po _ H (Same.refl H) (.int i)⟩

/-! ### arguments, displays -/
theorem va_nil : VA X c M We al [] aNil := ⟨_, pa_nil, fun w σ H ρ Q sl po => po _ H (Same.refl H) .nil⟩
theorem va_cons {es : List Expr} {fs : AF} (h : VE X c M We al e f) (t : VA X c M We al es fs) (hs : starEach (e :: es) X.env = (false, eval e X.env) :: starEach es X.env := by rfl) : VA X c M We al (e :: es) (aCons f fs) := by
  obtain ⟨te, p, s⟩ := h.ex
  obtain ⟨ta, p', s'⟩ := t.ex
  refine ⟨_, pa_cons p p' hs, fun w σ H ρ Q sl po => s w σ H ρ _ sl ((Po.bind po).imp (fun d _ q v H1 hs hi => ?_) fun _ _ q => q)⟩
  refine s' w σ H1 ρ _ (sl.same hs) ((Po.bind q).imp (fun ds _ q vs H2 hs2 hi2 => ?_) fun _ _ q H2 hs2 => q H2 (hs.trans hs2))
  exact q _ H2 (hs.trans hs2) (.cons (hi.same hs2) (hi2.up (NW.back hs)))
theorem sz_ok {n : Nat} (h : n ≤ 100000) : n ≤ sizeLine := Nat.le_trans h (by decide)
theorem same_new {H H1 : Hp} (s : Same H H1) {p : Addr} {o : HO} (hp : H1 p = none) : Same H (upd H1 p o) := fun b u e => by
  rw [upd_ne (ne_of_none (s b u e) hp)]
  exact s b u e
theorem ve_tup {es : List Expr} {fs : AF} {x1} (t : VA X c M We al es fs) : VE X c M We al (.Tuple es x1 pos) (eTup fs) := by
  obtain ⟨ta, p, s⟩ := t.ex
  refine ⟨_, pe_tup p, fun w σ H ρ Q sl po => s w σ H ρ _ sl ((Po.bind po).imp (fun ds _ q vs H1 hs hi => ?_) fun _ _ q => q)⟩
  obtain ⟨hd, q⟩ := Po.gd q
  refine ⟨sz_ok (by rw [hi.length]; exact of_decide_eq_true hd), fun p hp => q _ _ (same_new hs hp) (.tup upd_same (hi.same (same_new (Same.refl _) hp)))⟩
/-- [..], its items frozen: an own list -/
theorem vo_lst {es : List Expr} {fs : AF} (t : VA X c M We 0 es fs) : VO X c M We (.l .fz) (.List es pos) (eLst fs) := by
  obtain ⟨ta, p, s⟩ := t.ex
  refine ⟨_, pe_lst p, fun w σ H ρ Q sl po => s w σ H ρ _ sl ((Po.bind po).imp (fun ds _ q vs H1 hs hi => ?_) fun _ _ q => q)⟩
  obtain ⟨hd, q⟩ := Po.gd q
  refine ⟨sz_ok (by rw [hi.length]; exact of_decide_eq_true hd), fun p hp => q _ _ [p] (same_new hs hp) (fun a ha => ?_) (by simp) ?_⟩
  · have e : a = p := by simpa using ha
    rw [e]; exact hs.free hp
  · have hi2 : IsA c (fun a => NW w 0 H a ∧ a ∉ [p]) (upd H1 p (.lst vs)) vs ds := (hi.track.up fun a x => ⟨x.1, fun z => x.2 (by have e : a = p := (by simpa using z); rw [e]; exact hp)⟩).same (same_new (Same.refl _) hp)
    obtain ⟨Gs, g1, g2⟩ := hi2.toP3
    exact ⟨p, vs, ds, Gs, rfl, rfl, upd_same, g1, by rw [g2]⟩

/-! ### operators -/
theorem is_int {W : Addr → Prop} {H : Hp} {v : V} {i : Int} (h : Is c W H v (.int i)) : v = .int i := by cases h; rfl
theorem is_str {W : Addr → Prop} {H : Hp} {v : V} {i : Str} (h : Is c W H v (.str i)) : v = .str i := by cases h; rfl
theorem is_bl {W : Addr → Prop} {H : Hp} {v : V} {i : Bool} (h : Is c W H v (.bl i)) : v = .bl i := by cases h; rfl
theorem is_non {W : Addr → Prop} {H : Hp} {v : V} (h : Is c W H v .non) : v = .non := by cases h; rfl
theorem is_lst {W : Addr → Prop} {H : Hp} {v : V} {ds : List D} (h : Is c W H v (.lst ds)) : ∃ a xs, v = .ref a ∧ SqL c.K H a xs ∧ IsA c W H xs ds := by
  cases h with
  | lst h1 h2 h3 => exact ⟨_, _, rfl, .inl h2, h3⟩
  | lstK h2 h3 => exact ⟨_, _, rfl, .inr h2, h3⟩
theorem is_tup {W : Addr → Prop} {H : Hp} {v : V} {ds : List D} (h : Is c W H v (.tup ds)) : ∃ a xs, v = .ref a ∧ H a = some (.tup xs) ∧ IsA c W H xs ds := by
  cases h with
  | tup h1 h2 => exact ⟨_, _, rfl, h1, h2⟩

/-- a rule of two values has this meaning; what it gives can not change -/
def RS (c : Ct) (r : R2) (g : D → D → O D) : Prop := ∀ (W W' : Addr → Prop) (x y : V) (dx dy : D) (H : Hp) (Q : VK) (E : Value → Prop), Is c W H x dx → Is c W' H y dy →
  Po (g dx dy) (fun d => ∀ v H', Same H H' → (∀ Wz, Is c Wz H' v d) → Q v H') E → r x y H Q
theorem ve_r2 {r : R2} {g : D → D → O D} {ee : Expr} (hp : ∀ {ta tb : TE}, PE X a ta → PE X b tb → PE X ee (tOp r ta tb)) (hr : RS c r g) (ha : VE X c M We al a fa) (hb : VE X c M We al' b fb) : VE X c M We 0 ee (e2 g fa fb) := by
  obtain ⟨ta, p, s⟩ := ha.ex
  obtain ⟨tb, p', s'⟩ := hb.ex
  refine ⟨_, hp p p', fun w σ H ρ Q sl po => s w σ H ρ _ sl ((Po.bind po).imp (fun d _ q v H1 hs hi => ?_) fun _ _ q => q)⟩
  refine s' w σ H1 ρ _ (sl.same hs) ((Po.bind q).imp (fun d2 _ q v2 H2 hs2 hi2 => ?_) fun _ _ q H2 hs2 => q H2 (hs.trans hs2))
  exact hr _ _ v v2 d d2 H2 Q _ (hi.same hs2) hi2 (q.imp (fun d3 _ q v3 H3 hs3 hz => q v3 H3 ((hs.trans hs2).trans hs3) (hz _)) fun _ _ q => q)
theorem ve_bin {op : Operator} {r : R2} {g : D → D → O D} (ho : OpR X (binaryOp op) r) (hr : RS c r g) (ha : VE X c M We al a fa) (hb : VE X c M We al' b fb) : VE X c M We 0 (.BinOp a op b pos) (e2 g fa fb) :=
  ve_r2 (fun p p' => pe_op ho p p') hr ha hb
theorem ve_cmp {op : CmpOp} {r : R2} {g : D → D → O D} (ho : OpR X (compareOp op) r) (hr : RS c r g) (ha : VE X c M We al a fa) (hb : VE X c M We al' b fb) (hm : behindInMarks op b = false) : VE X c M We 0 (.Compare a [op] [b] pos) (e2 g fa fb) :=
  ve_r2 (fun p p' => pe_cmpR ho p p' hm) hr ha hb
theorem vt_cmp {op : CmpOp} {r : R2} {g : D → D → O D} (ho : OpR X (compareOp op) r) (hr : RS c r g) (ha : VE X c M We al a fa) (hb : VE X c M We al' b fb) (hm : behindInMarks op b = false) : VT X c M We (.Compare a [op] [b] pos) (tE (e2 g fa fb)) := by
  obtain ⟨ta, p, s⟩ := ha.ex
  obtain ⟨tb, p', s'⟩ := hb.ex
  refine ⟨_, pt_cmpR ho p p' hm, fun w σ H ρ Q sl po => s w σ H ρ _ sl ((Po.bind (Po.bind po)).imp (fun d _ q v H1 hs hi => ?_) fun _ _ q => q)⟩
  refine s' w σ H1 ρ _ (sl.same hs) ((Po.bind q).imp (fun d2 _ q v2 H2 hs2 hi2 => ?_) fun _ _ q H2 hs2 => q H2 (hs.trans hs2))
  refine hr _ _ v v2 d d2 H2 _ _ (hi.same hs2) hi2 (q.imp (fun d3 _ q v3 H3 hs3 hz => ?_) fun _ _ q => q)
  cases d3 with
  | bl k => exact ⟨k, is_bl (hz fun _ => True), q H3 ((hs.trans hs2).trans hs3)⟩
  | _ => exact q.elim

def addD : D → D → O D
  | .int i, .int j => .ok (.int (i + j))
  | .str s, .str t => gd (decide (s.length + t.length ≤ 100000)) (.ok (.str (s ++ t)))
  | _, _ => .bad
def subD : D → D → O D
  | .int i, .int j => .ok (.int (i - j))
  | _, _ => .bad
def mulD : D → D → O D
  | .int i, .int j => gd ((decide (-(2 ^ 64) < i) && decide (i < 2 ^ 64)) || (decide (-(2 ^ 64) < j) && decide (j < 2 ^ 64))) (.ok (.int (i * j)))
  | _, _ => .bad
def modD : D → D → O D
  | .int i, .int j => gd (decide (0 < j)) (.ok (.int (i % j)))
  | _, _ => .bad
def divD : D → D → O D
  | .int i, .int j => gd (decide (0 < j) && decide (j < 1073741824)) (.ok (.int (i / j)))
  | _, _ => .bad
def powD : D → D → O D
  | .int i, .int j => gd (decide (0 ≤ j) && decide (j ≤ 1000) && decide (i.natAbs < 2 ^ 64)) (.ok (.int (i ^ j.toNat)))
  | _, _ => .bad
def cmpI (p : Int → Int → Bool) : D → D → O D
  | .int i, .int j => .ok (.bl (p i j))
  | _, _ => .bad
@[simp] theorem addD_int (i j : Int) : addD (.int i) (.int j) = .ok (.int (i + j)) := rfl
@[simp] theorem addD_str (s t : Str) : addD (.str s) (.str t) = gd (decide (s.length + t.length ≤ 100000)) (.ok (.str (s ++ t))) := rfl
@[simp] theorem subD_int (i j : Int) : subD (.int i) (.int j) = .ok (.int (i - j)) := rfl
@[simp] theorem mulD_int (i j : Int) : mulD (.int i) (.int j) = gd ((decide (-(2 ^ 64) < i) && decide (i < 2 ^ 64)) || (decide (-(2 ^ 64) < j) && decide (j < 2 ^ 64))) (.ok (.int (i * j))) := rfl
@[simp] theorem modD_int (i j : Int) : modD (.int i) (.int j) = gd (decide (0 < j)) (.ok (.int (i % j))) := rfl
@[simp] theorem divD_int (i j : Int) : divD (.int i) (.int j) = gd (decide (0 < j) && decide (j < 1073741824)) (.ok (.int (i / j))) := rfl
@[simp] theorem cmpI_int (p : Int → Int → Bool) (i j : Int) : cmpI p (.int i) (.int j) = .ok (.bl (p i j)) := rfl
theorem rs_add : RS c (fun x y H Q => rI0 (fun i j => .int (i + j)) x y H Q ∨ (∃ i j, x = .str i ∧ y = .str j ∧ i.length + j.length ≤ sizeLine ∧ Q (.str (i ++ j)) H)) addD := by
  intro W W' x y dx dy H Q E hx hy po
  unfold addD at po
  split at po
  · rw [is_int hx, is_int hy]; exact .inl ⟨_, _, rfl, rfl, po _ H (Same.refl H) fun _ => .int _⟩
  · obtain ⟨hl, po⟩ := Po.gd po
    rw [is_str hx, is_str hy]; exact .inr ⟨_, _, rfl, rfl, sz_ok (of_decide_eq_true hl), po _ H (Same.refl H) fun _ => .str _⟩
  · exact po.elim
theorem rs_sub : RS c (rI0 fun i j => .int (i - j)) subD := by
  intro W W' x y dx dy H Q E hx hy po
  unfold subD at po
  split at po
  · rw [is_int hx, is_int hy]; exact ⟨_, _, rfl, rfl, po _ H (Same.refl H) fun _ => .int _⟩
  · exact po.elim
theorem rs_mul : RS c (rI CMul fun i j => .int (i * j)) mulD := by
  intro W W' x y dx dy H Q E hx hy po
  unfold mulD at po
  split at po
  · obtain ⟨hl, po⟩ := Po.gd po
    rw [is_int hx, is_int hy]
    refine ⟨_, _, rfl, rfl, ?_, po _ H (Same.refl H) fun _ => .int _⟩
    simpa [CMul] using hl
  · exact po.elim
theorem rs_mod : RS c (rI (fun _ j => 0 < j) fun i j => .int (i % j)) modD := by
  intro W W' x y dx dy H Q E hx hy po
  unfold modD at po
  split at po
  · obtain ⟨hl, po⟩ := Po.gd po
    rw [is_int hx, is_int hy]
    exact ⟨_, _, rfl, rfl, of_decide_eq_true hl, po _ H (Same.refl H) fun _ => .int _⟩
  · exact po.elim
theorem rs_div : RS c (rI CDiv fun i j => .int (i / j)) divD := by
  intro W W' x y dx dy H Q E hx hy po
  unfold divD at po
  split at po
  · obtain ⟨hl, po⟩ := Po.gd po
    rw [is_int hx, is_int hy]
    refine ⟨_, _, rfl, rfl, ?_, po _ H (Same.refl H) fun _ => .int _⟩
    simpa [CDiv] using hl
  · exact po.elim
theorem rs_pow : RS c (rI CPow fun i j => .int (i ^ j.toNat)) powD := by
  intro W W' x y dx dy H Q E hx hy po
  unfold powD at po
  split at po
  · obtain ⟨hl, po⟩ := Po.gd po
    rw [is_int hx, is_int hy]
    refine ⟨_, _, rfl, rfl, ?_, po _ H (Same.refl H) fun _ => .int _⟩
    simp only [Bool.and_eq_true, decide_eq_true_eq] at hl
    exact ⟨hl.1.1, by omega, hl.2⟩
  · exact po.elim
theorem rs_cmpI {p : Int → Int → Bool} : RS c (rI0 fun i j => .bl (p i j)) (cmpI p) := by
  intro W W' x y dx dy H Q E hx hy po
  unfold cmpI at po
  split at po
  · rw [is_int hx, is_int hy]; exact ⟨_, _, rfl, rfl, po _ H (Same.refl H) fun _ => .bl _⟩
  · exact po.elim
theorem ve_add (ha : VE X c M We al a fa) (hb : VE X c M We al' b fb) : VE X c M We 0 (.BinOp a .Add b pos) (e2 addD fa fb) := ve_bin (op_add.or op_add_str) rs_add ha hb
theorem ve_sub (ha : VE X c M We al a fa) (hb : VE X c M We al' b fb) : VE X c M We 0 (.BinOp a .Sub b pos) (e2 subD fa fb) := ve_bin op_sub rs_sub ha hb
theorem ve_mul (ha : VE X c M We al a fa) (hb : VE X c M We al' b fb) : VE X c M We 0 (.BinOp a .Mult b pos) (e2 mulD fa fb) := ve_bin op_mul rs_mul ha hb
theorem ve_mod (ha : VE X c M We al a fa) (hb : VE X c M We al' b fb) : VE X c M We 0 (.BinOp a .Mod b pos) (e2 modD fa fb) := ve_bin op_mod rs_mod ha hb
theorem ve_div (ha : VE X c M We al a fa) (hb : VE X c M We al' b fb) : VE X c M We 0 (.BinOp a .FloorDiv b pos) (e2 divD fa fb) := ve_bin op_fdiv rs_div ha hb
theorem ve_pow (ha : VE X c M We al a fa) (hb : VE X c M We al' b fb) : VE X c M We 0 (.BinOp a .Pow b pos) (e2 powD fa fb) := ve_bin op_pow rs_pow ha hb
abbrev ltD : D → D → O D := cmpI fun i j => decide (i < j)
abbrev leD : D → D → O D := cmpI fun i j => decide (i ≤ j)
abbrev gtD : D → D → O D := cmpI fun i j => decide (j < i)
abbrev geD : D → D → O D := cmpI fun i j => decide (j ≤ i)
theorem vt_lt (ha : VE X c M We al a fa) (hb : VE X c M We al' b fb) : VT X c M We (.Compare a [.Lt] [b] pos) (tE (e2 ltD fa fb)) := vt_cmp op_lt rs_cmpI ha hb (nomark _)
theorem vt_le (ha : VE X c M We al a fa) (hb : VE X c M We al' b fb) : VT X c M We (.Compare a [.LtE] [b] pos) (tE (e2 leD fa fb)) := vt_cmp op_le rs_cmpI ha hb (nomark _)
theorem vt_gt (ha : VE X c M We al a fa) (hb : VE X c M We al' b fb) : VT X c M We (.Compare a [.Gt] [b] pos) (tE (e2 gtD fa fb)) := vt_cmp op_gt rs_cmpI ha hb (nomark _)
theorem vt_ge (ha : VE X c M We al a fa) (hb : VE X c M We al' b fb) : VT X c M We (.Compare a [.GtE] [b] pos) (tE (e2 geD fa fb)) := vt_cmp op_ge rs_cmpI ha hb (nomark _)
theorem ve_lt (ha : VE X c M We al a fa) (hb : VE X c M We al' b fb) : VE X c M We 0 (.Compare a [.Lt] [b] pos) (e2 ltD fa fb) := ve_cmp op_lt rs_cmpI ha hb (nomark _)
theorem ve_le (ha : VE X c M We al a fa) (hb : VE X c M We al' b fb) : VE X c M We 0 (.Compare a [.LtE] [b] pos) (e2 leD fa fb) := ve_cmp op_le rs_cmpI ha hb (nomark _)
theorem ve_gt (ha : VE X c M We al a fa) (hb : VE X c M We al' b fb) : VE X c M We 0 (.Compare a [.Gt] [b] pos) (e2 gtD fa fb) := ve_cmp op_gt rs_cmpI ha hb (nomark _)
theorem ve_ge (ha : VE X c M We al a fa) (hb : VE X c M We al' b fb) : VE X c M We 0 (.Compare a [.GtE] [b] pos) (e2 geD fa fb) := ve_cmp op_ge rs_cmpI ha hb (nomark _)

/-! ### == and != of data -/
def eqD (neg : Bool) (x y : D) : O D := gd (SeqAt.shaped (toPy x) && SeqAt.shaped (toPy y)) (.ok (.bl (neg != PyData.eqv (toPy x) (toPy y))))
theorem rs_eq : RS c (rEqD c.K) (eqD false) := by
  intro W W' x y dx dy H Q E hx hy po
  obtain ⟨hl, po⟩ := Po.gd po
  rw [Bool.and_eq_true] at hl
  exact ⟨_, _, hx.dp (SeqAt.canLay_of_shaped hl.1), hy.dp (SeqAt.canLay_of_shaped hl.2), hl.1, hl.2, po _ H (Same.refl H) fun _ => by rw [Bool.false_bne]; exact .bl _⟩
theorem rs_ne : RS c (rNeD c.K) (eqD true) := by
  intro W W' x y dx dy H Q E hx hy po
  obtain ⟨hl, po⟩ := Po.gd po
  rw [Bool.and_eq_true] at hl
  exact ⟨_, _, hx.dp (SeqAt.canLay_of_shaped hl.1), hy.dp (SeqAt.canLay_of_shaped hl.2), hl.1, hl.2, po _ H (Same.refl H) fun _ => by rw [Bool.true_bne]; exact .bl _⟩
section
variable {k : Nat}
theorem vt_eq (z : Cz X c We k) (ha : VE X c M We al a fa) (hb : VE X c M We al' b fb) : VT X c M We (.Compare a [.Eq] [b] pos) (tE (e2 (eqD false) fa fb)) := vt_cmp (op_eqD z.hr.units) (by rw [z.K]; exact rs_eq) ha hb (nomark _)
theorem vt_ne (z : Cz X c We k) (ha : VE X c M We al a fa) (hb : VE X c M We al' b fb) : VT X c M We (.Compare a [.NotEq] [b] pos) (tE (e2 (eqD true) fa fb)) := vt_cmp (op_neD z.hr.units) (by rw [z.K]; exact rs_ne) ha hb (nomark _)
theorem ve_eq (z : Cz X c We k) (ha : VE X c M We al a fa) (hb : VE X c M We al' b fb) : VE X c M We 0 (.Compare a [.Eq] [b] pos) (e2 (eqD false) fa fb) := ve_cmp (op_eqD z.hr.units) (by rw [z.K]; exact rs_eq) ha hb (nomark _)
theorem ve_ne (z : Cz X c We k) (ha : VE X c M We al a fa) (hb : VE X c M We al' b fb) : VE X c M We 0 (.Compare a [.NotEq] [b] pos) (e2 (eqD true) fa fb) := ve_cmp (op_neD z.hr.units) (by rw [z.K]; exact rs_ne) ha hb (nomark _)
end

/-! ### is None, is True -/
def isND (neg : Bool) (d e : D) : O D := match e with
  | .non => match d with
    | .non => .ok (.bl !neg)
    | _ => .ok (.bl neg)
  | .bl b => match d with
    | .bl a => .ok (.bl (neg != decide (a = b)))
    | _ => .bad
  | _ => .bad
theorem is_nonb {W : Addr → Prop} {H : Hp} {v : V} {d : D} (h : Is c W H v d) : decide (v = .non) = (match d with | .non => true | _ => false) := by
  cases h <;> simp
theorem rs_is : RS c (fun x y H Q => (y = .non ∧ Q (.bl (decide (x = .non))) H) ∨ rIsB x y H Q) (isND false) := by
  intro W W' x y dx dy H Q E hx hy po
  cases dy with
  | non =>
    refine .inl ⟨is_non hy, ?_⟩
    rw [is_nonb hx]
    cases dx <;> exact po _ H (Same.refl H) fun _ => .bl _
  | bl b =>
    cases dx with
    | bl a =>
      refine .inr ⟨a, b, is_bl hx, is_bl hy, po _ H (Same.refl H) fun _ => ?_⟩
      rw [Bool.false_bne]; exact .bl _
    | _ => exact po.elim
  | _ => exact po.elim
theorem rs_isnt : RS c (fun x y H Q => (y = .non ∧ Q (.bl (!decide (x = .non))) H) ∨ rNotB x y H Q) (isND true) := by
  intro W W' x y dx dy H Q E hx hy po
  cases dy with
  | non =>
    refine .inl ⟨is_non hy, ?_⟩
    rw [is_nonb hx]
    cases dx <;> exact po _ H (Same.refl H) fun _ => .bl _
  | bl b =>
    cases dx with
    | bl a =>
      refine .inr ⟨a, b, is_bl hx, is_bl hy, po _ H (Same.refl H) fun _ => ?_⟩
      rw [Bool.true_bne]; exact .bl _
    | _ => exact po.elim
  | _ => exact po.elim
theorem vt_is (ha : VE X c M We al a fa) (hb : VE X c M We al' b fb) : VT X c M We (.Compare a [.Is] [b] pos) (tE (e2 (isND false) fa fb)) := vt_cmp (op_isN.or op_isBl) rs_is ha hb (nomark _)
theorem vt_isnt (ha : VE X c M We al a fa) (hb : VE X c M We al' b fb) : VT X c M We (.Compare a [.IsNot] [b] pos) (tE (e2 (isND true) fa fb)) := vt_cmp (op_notN.or op_notBl) rs_isnt ha hb (nomark _)
theorem ve_is (ha : VE X c M We al a fa) (hb : VE X c M We al' b fb) : VE X c M We 0 (.Compare a [.Is] [b] pos) (e2 (isND false) fa fb) := ve_cmp (op_isN.or op_isBl) rs_is ha hb (nomark _)
theorem ve_isnt (ha : VE X c M We al a fa) (hb : VE X c M We al' b fb) : VE X c M We 0 (.Compare a [.IsNot] [b] pos) (e2 (isND true) fa fb) := ve_cmp (op_notN.or op_notBl) rs_isnt ha hb (nomark _)

/-! ### a < b < c of whole numbers -/
def eChain (p q : Int → Int → Bool) (fa fb fc : EF) : EF := fun ρ => (fa ρ).bind fun x => (fb ρ).bind fun y => match x, y with
  | .int i, .int j => if p i j = true then (fc ρ).bind fun z => match z with
      | .int k => .ok (.bl (q j k))
      | _ => .bad
    else .ok (.bl false)
  | _, _ => .bad
end
end VS
set_option Elab.async false
set_option linter.all false
set_option maxRecDepth 100000
set_option maxHeartbeats 2000000
/-! VC: chains, tests, built-in calls, indices, calls of defs. -/
namespace VS
open PySem L2
section
variable {X : Cx} {c : Ct} {M : Nat → Mo} {We : WX} {al al' al'' k : Nat} {e a b d : Expr} {f fa fb fc : EF} {pos : Pos} {t t' : TF}

theorem chain_sound {r r' : R2} {p q : Int → Int → Bool} (hr : r = rI0 fun i j => .bl (p i j)) (hr' : r' = rI0 fun i j => .bl (q i j)) {ta tb tc : TE} {w : Wd} {σ : L2.St} {H : Hp} {ρ : Rho} {Q : VK} (sl : Sl c M w H σ ρ)
    (sa : ∀ (w : Wd) (σ : L2.St) (H : Hp) (ρ : Rho) (Q : VK), Sl c M w H σ ρ → Po (fa ρ) (fun d => ∀ v H', Same H H' → Is c (NW w al H) H' v d → Q v H') (fun k => ∀ H', Same H H' → We k none σ H') → ta σ H Q)
    (sb : ∀ (w : Wd) (σ : L2.St) (H : Hp) (ρ : Rho) (Q : VK), Sl c M w H σ ρ → Po (fb ρ) (fun d => ∀ v H', Same H H' → Is c (NW w al' H) H' v d → Q v H') (fun k => ∀ H', Same H H' → We k none σ H') → tb σ H Q)
    (sc : ∀ (w : Wd) (σ : L2.St) (H : Hp) (ρ : Rho) (Q : VK), Sl c M w H σ ρ → Po (fc ρ) (fun d => ∀ v H', Same H H' → Is c (NW w al'' H) H' v d → Q v H') (fun k => ∀ H', Same H H' → We k none σ H') → tc σ H Q)
    (po : Po (eChain p q fa fb fc ρ) (fun d => ∀ H', Same H H' → ∀ k, d = .bl k → Q (.bl k) H') (fun k => ∀ H', Same H H' → We k none σ H')) : tChain r r' ta tb tc σ H Q := by
  subst hr hr'
  refine sa w σ H ρ _ sl ((Po.bind po).imp (fun d _ q1 v H1 hs hi => ?_) fun _ _ q => q)
  refine sb w σ H1 ρ _ (sl.same hs) ((Po.bind q1).imp (fun d2 _ q2 v2 H2 hs2 hi2 => ?_) fun _ _ q H2 hs2 => q H2 (hs.trans hs2))
  cases d with
  | int i =>
    cases d2 with
    | int j =>
      rw [is_int hi, is_int hi2]
      refine ⟨i, j, rfl, rfl, _, rfl, ?_⟩
      by_cases h : p i j = true
      · have q2 : Po (α := D) (if p i j = true then (fc ρ).bind fun z => match z with | .int k => .ok (.bl (q j k)) | _ => .bad else .ok (.bl false)) _ _ := q2
        rw [if_pos h] at q2
        rw [if_pos h]
        refine sc w σ H2 ρ _ (sl.same (hs.trans hs2)) ((Po.bind q2).imp (fun d3 _ q3 v3 H3 hs3 hi3 => ?_) fun _ _ q H3 hs3 => q H3 ((hs.trans hs2).trans hs3))
        cases d3 with
        | int l =>
          rw [is_int hi3]
          exact ⟨j, l, rfl, rfl, q3 H3 ((hs.trans hs2).trans hs3) _ rfl⟩
        | _ => exact q3.elim
      · have q2 : Po (α := D) (if p i j = true then (fc ρ).bind fun z => match z with | .int k => .ok (.bl (q j k)) | _ => .bad else .ok (.bl false)) _ _ := q2
        rw [if_neg h] at q2
        rw [if_neg h]
        exact q2 H2 (hs.trans hs2) _ rfl
    | _ => exact q2.elim
  | _ => cases d2 <;> exact q2.elim
theorem chain_bl {p q : Int → Int → Bool} {ρ : Rho} {d : D} (h : eChain p q fa fb fc ρ = .ok d) : ∃ k, d = .bl k := by
  unfold eChain at h
  cases ea : fa ρ with
  | ok x =>
    cases eb : fb ρ with
    | ok y =>
      rw [ea, eb] at h
      simp only [O.bind_ok] at h
      cases x with
      | int i =>
        cases y with
        | int j =>
          simp only at h
          split at h
          · cases ec : fc ρ with
            | ok z =>
              rw [ec] at h
              simp only [O.bind_ok] at h
              cases z with
              | int l => simp only [O.ok.injEq] at h; exact ⟨_, h.symm⟩
              | _ => cases h
            | bad => rw [ec] at h; cases h
            | exc k => rw [ec] at h; cases h
          · simp only [O.ok.injEq] at h; exact ⟨_, h.symm⟩
        | _ => cases h
      | _ => cases h
    | bad => rw [ea, eb] at h; cases h
    | exc k => rw [ea, eb] at h; cases h
  | bad => rw [ea] at h; cases h
  | exc k => rw [ea] at h; cases h
theorem ve_chain {op op' : CmpOp} {p q : Int → Int → Bool} (ho : OpR X (compareOp op) (rI0 fun i j => .bl (p i j))) (ho' : OpR X (compareOp op') (rI0 fun i j => .bl (q i j))) (ha : VE X c M We al a fa) (hb : VE X c M We al' b fb) (hc : VE X c M We al'' d fc)
    (hm : lastMarks [op, op'] [b, d] = false := by with_unfolding_all rfl) : VE X c M We 0 (.Compare a [op, op'] [b, d] pos) (eChain p q fa fb fc) := by
  obtain ⟨ta, pa, sa⟩ := ha.ex
  obtain ⟨tb, pb, sb⟩ := hb.ex
  obtain ⟨tc, pc, sc⟩ := hc.ex
  refine ⟨_, pe_chain ho ho' pa pb pc hm, fun w σ H ρ Q sl po => chain_sound rfl rfl sl sa sb sc (po.imp (fun d _ q H' hs k e => ?_) fun _ _ q => q)⟩
  subst e
  exact q _ H' hs (.bl _)
theorem vt_chain {op op' : CmpOp} {p q : Int → Int → Bool} (ho : OpR X (compareOp op) (rI0 fun i j => .bl (p i j))) (ho' : OpR X (compareOp op') (rI0 fun i j => .bl (q i j))) (ha : VE X c M We al a fa) (hb : VE X c M We al' b fb) (hc : VE X c M We al'' d fc)
    (hm : lastMarks [op, op'] [b, d] = false := by with_unfolding_all rfl) : VT X c M We (.Compare a [op, op'] [b, d] pos) (tE (eChain p q fa fb fc)) := by
  obtain ⟨ta, pa, sa⟩ := ha.ex
  obtain ⟨tb, pb, sb⟩ := hb.ex
  obtain ⟨tc, pc, sc⟩ := hc.ex
  refine ⟨_, pt_chain ho ho' pa pb pc hm, fun w σ H ρ Q sl po => chain_sound rfl rfl sl sa sb sc ((Po.bind po).imp (fun d _ q H' hs k e => ?_) fun _ _ q => q)⟩
  subst e
  exact ⟨k, rfl, q H' hs⟩
theorem ve_leLt (ha : VE X c M We al a fa) (hb : VE X c M We al' b fb) (hc : VE X c M We al'' d fc) (hm : lastMarks [.LtE, .Lt] [b, d] = false := by with_unfolding_all rfl) :
    VE X c M We 0 (.Compare a [.LtE, .Lt] [b, d] pos) (eChain (fun i j => decide (i ≤ j)) (fun i j => decide (i < j)) fa fb fc) := ve_chain op_le op_lt ha hb hc hm
theorem vt_leLt (ha : VE X c M We al a fa) (hb : VE X c M We al' b fb) (hc : VE X c M We al'' d fc) (hm : lastMarks [.LtE, .Lt] [b, d] = false := by with_unfolding_all rfl) :
    VT X c M We (.Compare a [.LtE, .Lt] [b, d] pos) (tE (eChain (fun i j => decide (i ≤ j)) (fun i j => decide (i < j)) fa fb fc)) := vt_chain op_le op_lt ha hb hc hm
theorem ve_leLe (ha : VE X c M We al a fa) (hb : VE X c M We al' b fb) (hc : VE X c M We al'' d fc) (hm : lastMarks [.LtE, .LtE] [b, d] = false := by with_unfolding_all rfl) :
    VE X c M We 0 (.Compare a [.LtE, .LtE] [b, d] pos) (eChain (fun i j => decide (i ≤ j)) (fun i j => decide (i ≤ j)) fa fb fc) := ve_chain op_le op_le ha hb hc hm
theorem vt_leLe (ha : VE X c M We al a fa) (hb : VE X c M We al' b fb) (hc : VE X c M We al'' d fc) (hm : lastMarks [.LtE, .LtE] [b, d] = false := by with_unfolding_all rfl) :
    VT X c M We (.Compare a [.LtE, .LtE] [b, d] pos) (tE (eChain (fun i j => decide (i ≤ j)) (fun i j => decide (i ≤ j)) fa fb fc)) := vt_chain op_le op_le ha hb hc hm

/-! ### tests -/
theorem vt_val (h : VE X c M We al e f) (he : ∀ whole, isTrue e X.env whole = (do let v ← whole; standAt e.pos; holding [v] (truthy v)) := by intro _; rfl) : VT X c M We e (tE f) := by
  obtain ⟨te, p, s⟩ := h.ex
  refine ⟨_, pt_val p he, fun w σ H ρ Q sl po => s w σ H ρ _ sl ((Po.bind po).imp (fun d _ q v H' hs hi => ?_) fun _ _ q => q)⟩
  cases d with
  | bl k => exact ⟨k, is_bl hi, q H' hs⟩
  | _ => exact q.elim
theorem VW.vt (h : VW X c M We e t) : VT X c M We e t := by
  obtain ⟨tt, p, s⟩ := h.ex
  exact ⟨tt, p.pt, s⟩
theorem vw_and1 (h : VT X c M We a t) : VW X c M We (.BoolOp .And [a] pos) t := by
  obtain ⟨tt, p, s⟩ := h.ex
  exact ⟨tt, pw_and1 p, s⟩
theorem vw_or1 (h : VT X c M We a t) : VW X c M We (.BoolOp .Or [a] pos) t := by
  obtain ⟨tt, p, s⟩ := h.ex
  exact ⟨tt, pw_or1 p, s⟩
theorem vw_and {rest : List Expr} (h : VT X c M We a t) (h' : VW X c M We (.BoolOp .And (b :: rest) pos) t') : VW X c M We (.BoolOp .And (a :: b :: rest) pos) (tAndF t t') := by
  obtain ⟨tt, p, s⟩ := h.ex
  obtain ⟨tt', p', s'⟩ := h'.ex
  refine ⟨_, pw_and p p', fun w σ H ρ Q sl po => s w σ H ρ _ sl ((Po.bind po).imp (fun k _ q H1 hs => ?_) fun _ _ q => q)⟩
  cases k with
  | true => exact s' w σ H1 ρ Q (sl.same hs) (Po.imp (r := t' ρ) q (fun b _ q H2 hs2 => q H2 (hs.trans hs2)) fun _ _ q H2 hs2 => q H2 (hs.trans hs2))
  | false => exact q H1 hs
theorem vw_or {rest : List Expr} (h : VT X c M We a t) (h' : VW X c M We (.BoolOp .Or (b :: rest) pos) t') : VW X c M We (.BoolOp .Or (a :: b :: rest) pos) (tOrF t t') := by
  obtain ⟨tt, p, s⟩ := h.ex
  obtain ⟨tt', p', s'⟩ := h'.ex
  refine ⟨_, pw_or p p', fun w σ H ρ Q sl po => s w σ H ρ _ sl ((Po.bind po).imp (fun k _ q H1 hs => ?_) fun _ _ q => q)⟩
  cases k with
  | false => exact s' w σ H1 ρ Q (sl.same hs) (Po.imp (r := t' ρ) q (fun b _ q H2 hs2 => q H2 (hs.trans hs2)) fun _ _ q H2 hs2 => q H2 (hs.trans hs2))
  | true => exact q H1 hs
theorem vt_not (h : VT X c M We a t) : VT X c M We (.UnaryOp .Not a pos) (tNotF t) := by
  obtain ⟨tt, p, s⟩ := h.ex
  exact ⟨_, pt_not p, fun w σ H ρ Q sl po => s w σ H ρ _ sl ((Po.bind po).imp (fun k _ q H1 hs => q H1 hs) fun _ _ q => q)⟩
/-- and, or, not as values -/
theorem ve_one {op} (h : VE X c M We al a f) : VE X c M We al (.BoolOp op [a] pos) f := by
  obtain ⟨te, p, s⟩ := h.ex
  exact ⟨te, pe_one p, s⟩
theorem ve_and {rest : List Expr} (h : VE X c M We al a fa) (h' : VE X c M We al' (.BoolOp .And (b :: rest) pos) fb) : VE X c M We 0 (.BoolOp .And (a :: b :: rest) pos) (eB (tAndF (tE fa) (tE fb))) := by
  obtain ⟨te, p, s⟩ := h.ex
  obtain ⟨te', p', s'⟩ := h'.ex
  refine ⟨_, pe_and p p', fun w σ H ρ Q sl po => s w σ H ρ _ sl ((Po.bind (Po.bind (Po.bind po))).imp (fun d _ q v H1 hs hi => ?_) fun _ _ q => q)⟩
  cases d with
  | bl k =>
    refine ⟨k, is_bl hi, ?_⟩
    cases k with
    | true =>
      refine s' w σ H1 ρ Q (sl.same hs) ((Po.bind (r := fb ρ) q).imp (fun d2 _ q v2 H2 hs2 hi2 => ?_) fun _ _ q H2 hs2 => q H2 (hs.trans hs2))
      cases d2 with
      | bl k2 => rw [is_bl hi2]; exact q _ H2 (hs.trans hs2) (.bl _)
      | _ => exact q.elim
    | false => exact q _ H1 hs (.bl _)
  | _ => exact q.elim
theorem ve_or {rest : List Expr} (h : VE X c M We al a fa) (h' : VE X c M We al' (.BoolOp .Or (b :: rest) pos) fb) : VE X c M We 0 (.BoolOp .Or (a :: b :: rest) pos) (eB (tOrF (tE fa) (tE fb))) := by
  obtain ⟨te, p, s⟩ := h.ex
  obtain ⟨te', p', s'⟩ := h'.ex
  refine ⟨_, pe_or p p', fun w σ H ρ Q sl po => s w σ H ρ _ sl ((Po.bind (Po.bind (Po.bind po))).imp (fun d _ q v H1 hs hi => ?_) fun _ _ q => q)⟩
  cases d with
  | bl k =>
    refine ⟨k, is_bl hi, ?_⟩
    cases k with
    | false =>
      refine s' w σ H1 ρ Q (sl.same hs) ((Po.bind (r := fb ρ) q).imp (fun d2 _ q v2 H2 hs2 hi2 => ?_) fun _ _ q H2 hs2 => q H2 (hs.trans hs2))
      cases d2 with
      | bl k2 => rw [is_bl hi2]; exact q _ H2 (hs.trans hs2) (.bl _)
      | _ => exact q.elim
    | true => exact q _ H1 hs (.bl _)
  | _ => exact q.elim
theorem ve_not (h : VE X c M We al a f) : VE X c M We 0 (.UnaryOp .Not a pos) (eB (tNotF (tE f))) := by
  obtain ⟨te, p, s⟩ := h.ex
  refine ⟨_, pe_not p, fun w σ H ρ Q sl po => s w σ H ρ _ sl ((Po.bind (Po.bind (Po.bind po))).imp (fun d _ q v H1 hs hi => ?_) fun _ _ q => q)⟩
  cases d with
  | bl k => exact ⟨k, is_bl hi, q _ H1 hs (.bl _)⟩
  | _ => exact q.elim

/-! ### isinstance with a built-in class -/
def tyN : D → Option String
  | .non => some "NoneType"
  | .bl _ => some "bool"
  | .int _ => some "int"
  | .str _ => some "str"
  | .lst _ => some "list"
  | .tup _ => some "tuple"
  | .dct _ => some "dict"
  | .fd _ => none
  | .land _ => none
  | .pile _ => none
  | .raw => none
def isTy (T : String) (n : String) : Bool := n == T || (n == "bool" && T == "int")
def isTD (T : String) (d : D) : O D := match tyN d with
  | some n => .ok (.bl (isTy T n))
  | none => .bad
theorem tyx_of {W : Addr → Prop} {H : Hp} {v : V} {d : D} {n : String} (h : Is c W H v d) (hn : tyN d = some n) : TyX c.K H v (.type n) := by
  cases h with
  | non => cases hn; exact .base .non
  | bl b => cases hn; exact .base (.bl b)
  | int b => cases hn; exact .base (.int b)
  | str b => cases hn; exact .base (.str b)
  | lst h1 h2 h3 =>
    cases hn
    rcases h2 with h2 | ⟨o, h2⟩
    · exact .base (.lst h2)
    · exact .base (.frz h2)
  | lstK h2 h3 =>
    cases hn
    obtain ⟨o, its, n, h1, h2, _⟩ := h2
    exact .kList h1 h2
  | tup h1 h2 => cases hn; exact .base (.tup h1)
  | dct h1 h2 h3 h4 => cases hn; exact .base (.dT h2)
  | fd _ _ _ => cases hn
  | land _ _ => cases hn
  | pile _ _ _ _ _ => cases hn
  | raw _ _ => cases hn
theorem tyN_mem {d : D} {n : String} (h : tyN d = some n) : n ∈ (["NoneType", "bool", "int", "str", "list", "tuple", "dict"] : List String) := by
  cases d with
  | fd => cases h
  | land => cases h
  | pile => cases h
  | raw => cases h
  | _ => simp [tyN] at h; subst h; decide
theorem ve_isT {T : String} {p p2 : Pos} {tn : Str} (z : Cz X c We k) (h : VE X c M We al e f) (hg : Gl X "isinstance") (hm : X.mg "isinstance" = none) (hg2 : Gl X tn) (hm2 : X.mg tn = none) (hv : bootBuiltins tn = some (.type T)) (hn : tn ≠ "__name__") (hd : (tn == ("__debug__" : Str)) = false)
    (hk : ∀ n ∈ (["NoneType", "bool", "int", "str", "list", "tuple", "dict"] : List String), kitB n T = some (isTy T n))
    (hs : starEach [e, .Name tn p2] X.env = (false, eval e X.env) :: starEach [.Name tn p2] X.env := by rfl) (hs1 : starEach [.Name tn p2] X.env = (false, eval (.Name tn p2) X.env) :: starEach [] X.env := by rfl) (hpl : (backTo pos (starEach [.Name tn p2] X.env)).any (·.1) = false := by rfl) :
    VE X c M We 0 (.Call (.Name "isinstance" p) [e, .Name tn p2] [] pos) (e1 (isTD T) f) := by
  obtain ⟨te, pe, s⟩ := h.ex
  have hb : PE X (.Name tn p2) (tC (.ty T)) := pe_bltn hg2 hm2 hv rfl hn hd
  refine ⟨_, pe_callB (call_isi (X := X)) hg hm PyProof.Rows.boot_isinstance (pa_cons pe (pa_cons hb pa_nil hs1) hs) (by decide) (by decide) hs hpl, fun w σ H ρ Q sl po => s w σ H ρ _ sl ((Po.bind po).imp (fun d _ q v H1 hs hi => ?_) fun _ _ q => q)⟩
  unfold isTD at q
  cases ht : tyN d with
  | none => rw [ht] at q; exact q.elim
  | some n =>
    rw [ht] at q
    exact ⟨v, .ty T, .type n, .type T, isTy T n, rfl, .ty T, by rw [z.K]; exact tyx_of hi ht, kit_ty (hk n (tyN_mem ht)), q _ H1 hs (.bl _)⟩

/-! ### len, list, int of a truth -/
def lenD : D → O D
  | .lst l => .ok (.int l.length)
  | .tup l => .ok (.int l.length)
  | .str s => gd (decide (s.length ≤ 100000)) (.ok (.int s.length))
  | .dct m => .ok (.int m.length)
  | _ => .bad

theorem PE.or {t1 t2 : TE} (h1 : PE X e t1) (h2 : PE X e t2) : PE X e (fun σ H Q => t1 σ H Q ∨ t2 σ H Q) := ⟨fun pins s σ H Q I h => h.elim (h1.run pins s σ H Q I) (h2.run pins s σ H Q I)⟩

theorem ve_len {p : Pos} (z : Cz X c We k) (h : VE X c M We al e f) (hg : Gl X "len") (hm : X.mg "len" = none) (hs : starEach [e] X.env = (false, eval e X.env) :: starEach [] X.env := by rfl) (hpl : (backTo pos (starEach [] X.env)).any (·.1) = false := by rfl) :
    VE X c M We 0 (.Call (.Name "len" p) [e] [] pos) (e1 lenD f) := by
  obtain ⟨te, pe, s⟩ := h.ex
  refine ⟨_, pe_callB ((call_len (X := X)).or call_len_dT) hg hm PySem.boot_len (pa_cons pe pa_nil hs) (by decide) (by decide) hs hpl, fun w σ H ρ Q sl po => s w σ H ρ _ sl ((Po.bind po).imp (fun d _ q v H1 hs hi => ?_) fun _ _ q => q)⟩
  cases d with
  | lst l =>
    obtain ⟨a, xs, rfl, h1, h2⟩ := is_lst hi
    refine .inl ⟨.ref a, l.length, rfl, .inl ⟨xs, by rw [z.K]; exact h1, h2.length.symm⟩, q _ H1 hs (.int _)⟩
  | tup l =>
    obtain ⟨a, xs, rfl, h1, h2⟩ := is_tup hi
    refine .inl ⟨.ref a, l.length, rfl, .inr ⟨xs, .of h1, h2.length.symm⟩, q _ H1 hs (.int _)⟩
  | str x =>
    obtain ⟨hl, q⟩ := Po.gd q
    exact .inl ⟨v, x.length, rfl, by rw [is_str hi]; exact ⟨sz_ok (of_decide_eq_true hl), rfl⟩, q _ H1 hs (.int _)⟩
  | dct m =>
    cases hi with
    | @dct a ks vs ds h1 h2 h3 h4 =>
      have e1 : (ks.zip vs).length = (ks.zip ds).length := by simp [List.length_zip, h3, h4.length.symm]
      exact .inr ⟨a, _, rfl, h2, by rw [e1]; exact q _ H1 hs (.int _)⟩
  | _ => exact q.elim

/-! ### an item -/
theorem isA_at {W : Addr → Prop} {H : Hp} {vs : List V} {ds : List D} {i : Int} {d : D} (h : IsA c W H vs ds) (e : atI ds i = some d) : ∃ v, atI vs i = some v ∧ Is c W H v d := by
  unfold atI at e ⊢
  rw [h.length]
  cases hn : ixN ds.length i with
  | none => rw [hn] at e; cases e
  | some j =>
    rw [hn] at e
    exact h.getD e
def keyOf : D → Option Key
  | .int i => some (.inl i)
  | .str s => some (.inr s)
  | _ => none
def keysOf : List D → Option (List Key)
  | [] => some []
  | d :: ds => match keyOf d, keysOf ds with
    | some k, some ks => some (k :: ks)
    | _, _ => none
def keyD : D → Option (List Key)
  | .tup l => keysOf l
  | _ => none
theorem keys_is {W : Addr → Prop} {H : Hp} : ∀ {vs : List V} {ds : List D} {ks : List Key}, IsA c W H vs ds → keysOf ds = some ks → vs = ks.map kV
  | _, _, _, .nil, e => by cases e; rfl
  | _, _, _, .cons (d := d) (ds := ds) h t, e => by
    unfold keysOf at e
    cases hk : keyOf d with
    | none => rw [hk] at e; cases e
    | some k =>
      cases hs : keysOf ds with
      | none => rw [hk, hs] at e; cases e
      | some ks =>
        rw [hk, hs] at e
        cases e
        rw [List.map_cons, ← keys_is t hs]
        congr 1
        cases d with
        | int i => cases hk; exact is_int h
        | str i => cases hk; exact is_str h
        | _ => cases hk
theorem key_is {W : Addr → Prop} {H : Hp} {v : V} {d : D} {ks : List Key} (h : Is c W H v d) (e : keyD d = some ks) : ∃ b, v = .ref b ∧ H b = some (.tup (ks.map kV)) := by
  cases d with
  | tup l =>
    obtain ⟨a, xs, rfl, h1, h2⟩ := is_tup h
    exact ⟨a, rfl, by rw [h1, keys_is h2 e]⟩
  | _ => cases e
def lookD (m : List (List Key × D)) (k : List Key) : Option D := (m.find? fun p => decide (p.1 = k)).map (·.2)
theorem look_is {W : Addr → Prop} {H : Hp} {k : List Key} : ∀ {ks : List (List Key)} {vs : List V} {ds : List D}, IsA c W H vs ds → vs.length = ks.length →
    (∀ d, lookD (ks.zip ds) k = some d → ∃ v, valV (ks.zip vs) k = some v ∧ Is c W H v d) ∧ (lookD (ks.zip ds) k = none → valV (ks.zip vs) k = none)
  | [], _, _, _, _ => by simp [lookD, valV]
  | k0 :: ks, [], _, _, e => by simp at e
  | k0 :: ks, v0 :: vs, _, .cons (d := d0) (ds := ds) h t, e => by
    have ih := look_is (k := k) (ks := ks) t (by simpa using e)
    unfold lookD valV at ih ⊢
    simp only [List.zip_cons_cons, List.find?_cons]
    by_cases hk : k0 = k
    · simp only [hk, decide_true, Option.map_some, Option.some.injEq, reduceCtorEq, false_implies, and_true]
      intro d e1
      subst e1
      exact ⟨v0, rfl, h⟩
    · simp only [hk, decide_false]
      exact ih
def ixD (x y : D) : O D := match x with
  | .lst l => match y with
    | .int i => ofO (atI l i)
    | _ => .bad
  | .tup l => match y with
    | .int i => ofO (atI l i)
    | _ => .bad
  | .str s => match y with
    | .int i => (ofO (atI s.cps.toList i)).bind fun ch => gd (decide (s.length ≤ 100000)) (.ok (.str ⟨#[ch]⟩))
    | _ => .bad
  | .dct m => (ofO (keyD y)).bind fun ks => ofO (lookD m ks)
  | _ => .bad
theorem ve_ix (z : Cz X c We k) (ha : VE X c M We al a fa) (hb : VE X c M We al' b fb) (hs : PlainIx b := by exact fun _ _ => rfl) : VE X c M We al (.Subscript a b pos) (e2 ixD fa fb) := by
  obtain ⟨ta, pa, sa⟩ := ha.ex
  obtain ⟨tb, pb, sb⟩ := hb.ex
  have hu : X.A.units + 1 < cLine := hu_of z.hr
  refine ⟨_, PE.or (pe_ix ix_seq pa pb hs) (pe_dget hu pa pb hs), fun w σ H ρ Q sl po => ?_⟩
  have po := Po.bind po
  by_cases hd : ∃ m, fa ρ = .ok (.dct m)
  · obtain ⟨m, hm⟩ := hd
    refine .inr (sa w σ H ρ _ sl (po.imp (fun d ed q v H1 hs hi => ?_) fun _ _ q => q))
    rw [hm] at ed
    cases ed
    refine sb w σ H1 ρ _ (sl.same hs) ((Po.bind q).imp (fun d2 _ q v2 H2 hs2 hi2 => ?_) fun _ _ q H2 hs2 => q H2 (hs.trans hs2))
    obtain ⟨ks, hk, q1⟩ := Po.ofO (Po.bind (r := ofO (keyD d2)) q)
    obtain ⟨d3, hl, q2⟩ := Po.ofO q1
    clear q q1
    obtain ⟨b, rfl, hb⟩ := key_is hi2 hk
    have hi' := hi.same hs2
    cases hi' with
    | @dct a kss vs ds h1 h2 h3 h4 =>
      obtain ⟨v3, e3, i3⟩ := (look_is h4 h3).1 d3 hl
      exact ⟨a, v3, rfl, by rw [← e3]; exact DGet.t h2 hb, q2 v3 H2 (hs.trans hs2) i3⟩
  · refine .inl (sa w σ H ρ _ sl (po.imp (fun d ed q v H1 hs hi => ?_) fun _ _ q => q))
    refine sb w σ H1 ρ _ (sl.same hs) ((Po.bind q).imp (fun d2 _ q v2 H2 hs2 hi2 => ?_) fun _ _ q H2 hs2 => q H2 (hs.trans hs2))
    have hi' := hi.same hs2
    cases d with
    | lst l =>
      cases d2 with
      | int i =>
        obtain ⟨d3, hl, q⟩ := Po.ofO q
        obtain ⟨p, xs, rfl, h1, h2⟩ := is_lst hi'
        obtain ⟨v3, e3, i3⟩ := isA_at h2 hl
        rw [is_int hi2]
        exact .inl ⟨p, xs, i, v3, rfl, rfl, by rw [z.K]; exact h1, e3, q v3 H2 (hs.trans hs2) i3⟩
      | _ => exact q.elim
    | tup l =>
      cases d2 with
      | int i =>
        obtain ⟨d3, hl, q⟩ := Po.ofO q
        obtain ⟨p, xs, rfl, h1, h2⟩ := is_tup hi'
        obtain ⟨v3, e3, i3⟩ := isA_at h2 hl
        rw [is_int hi2]
        exact .inr (.inl ⟨p, xs, i, v3, rfl, rfl, .of h1, e3, q v3 H2 (hs.trans hs2) i3⟩)
      | _ => exact q.elim
    | str x =>
      cases d2 with
      | int i =>
        obtain ⟨ch, hl, q⟩ := Po.ofO (Po.bind (r := ofO (atI x.cps.toList i)) q)
        obtain ⟨hz, q⟩ := Po.gd q
        rw [is_int hi2, is_str hi]
        exact .inr (.inr ⟨x, i, ch, rfl, rfl, sz_ok (of_decide_eq_true hz), hl, q _ H2 (hs.trans hs2) (.str _)⟩)
      | _ => exact q.elim
    | dct m => exact (hd ⟨m, ed⟩).elim
    | _ => exact q.elim

/-! ### a def's call -/
/-- what a def promises, by its meaning F; what it hands back is new, of the shape rs -/
def spP (c : Ct) (rs : Sh) (F : List D → O D) : Sp := fun vs H Q E => ∃ ds, IsA c (fun _ => True) H vs ds ∧
  Po (F ds) (fun d => ∀ v H' Fp, Same H H' → (∀ a ∈ Fp, H a = none) → Fp.Nodup → Own c (fun a => H a = none ∧ a ∉ Fp) H' rs v d Fp → Q v H') (fun k => ∀ H', Same H H' → E k none H')
theorem vo_call {x : Str} {g : Addr} {fd : FuncData} {ps : List Str} {rs : Sh} {F : List D → O D} {es : List Expr} {fs : AF} {p : Pos} (z : Cz X c We k) (G : FnOk X.prog X.w X.K X.mg X.base (L2N.CX X.prog X.w) k g fd ps (spP c rs F)) (hb : Binds X.K fd ps [])
    (hm : X.mg x = some (.ref g)) (hk : PySem.W.keepIn X.K (.ref g) = true) (hg : Gl X x) (t : VA X c M We al (e :: es) fs) (hdb : (x == ("__debug__" : Str)) = false := by decide)
    (he : starEach (e :: es) X.env = (false, eval e X.env) :: starEach es X.env := by rfl) (hpl : (backTo pos (starEach es X.env)).any (·.1) = false := by rfl) :
    VO X c M We rs (.Call (.Name x p) (e :: es) [] pos) (fun ρ => (fs ρ).bind F) := by
  obtain ⟨ta, pt, s⟩ := t.ex
  refine ⟨_, pe_callS G z.hr hg hm hk hb (fun σ => L2N.passAt z.tk σ) pt hdb he hpl, fun w σ H ρ Q sl po => s w σ H ρ _ sl ((Po.bind po).imp (fun ds _ q vs H1 hs hi => ?_) fun _ _ q => q)⟩
  refine ⟨ds, hi.up fun _ _ => trivial, q.imp (fun d _ q v H' Fp hs2 hn nd ho => q v H' Fp (hs.trans hs2) (fun a ha => hs.free (hn a ha)) nd (ho.mono (fun a x => ⟨.inr (hs.free x.1), x.2⟩) fun a o _ e => e)) fun kx _ q H' hs2 => q H' (hs.trans hs2)⟩
end
end VS
set_option Elab.async false
set_option linter.all false
set_option maxRecDepth 100000
set_option maxHeartbeats 2000000
/-! VD: a def's state by its plain meaning; statements. -/
namespace VS
open PySem L2

/-- where a run stands: the heap at the def's entry, what must stand (a heap, what of it may change), the parameters that may be changed -/
structure Bs where
  H0 : Hp
  pr : List (Hp × (Addr → Prop))
  mp : List (Nat × Sh × V)
def wd (B : Bs) (Fs : Nat → List Addr) : Wd where
  n := fun a => (∀ i, a ∉ Fs i) ∧ B.H0 a = none
  b := fun a => ∀ i, a ∉ Fs i
  le := fun _ h => h.1
def Sat (c : Ct) (B : Bs) (Fs : Nat → List Addr) (H : Hp) (m : Mo) (v : V) (d : D) (F : List Addr) : Prop := match m with
  | .v al => al ≤ 1 ∧ F = [] ∧ Is c ((wd B Fs).at al) H v d
  | .o s => Own c (wd B Fs).n H s v d F
  | .p s => Own c (fun _ => False) H s v d F
structure RelF (c : Ct) (M : Nat → Mo) (B : Bs) (Fs : Nat → List Addr) (H : Hp) (σ : L2.St) (ρ : Rho) : Prop where
  nd : ∀ i, (Fs i).Nodup
  dj : ∀ i j a, a ∈ Fs i → a ∈ Fs j → i = j
  th : ∀ i a, a ∈ Fs i → ∃ o, H a = some o ∧ ¬ sta o
  fr : ∀ p ∈ B.pr, ∀ a o, p.1 a = some o → ¬ p.2 a → H a = some o
  out : ∀ p ∈ B.pr, ∀ i a, a ∈ Fs i → p.1 a = none ∨ p.2 a
  own : ∀ i s, M i = .o s → ∀ a ∈ Fs i, B.H0 a = none
  old : ∀ a, H a = none → B.H0 a = none
  sl : ∀ i d, ρ[i]? = some (some d) → ∃ v, σ[i]? = some (some v) ∧ Sat c B Fs H (M i) v d (Fs i)
  mp : ∀ q ∈ B.mp, σ[q.1]? = some (some q.2.2) ∧ M q.1 = .p q.2.1
  len : σ.length = ρ.length
def Rel (c : Ct) (M : Nat → Mo) (B : Bs) (H : Hp) (σ : L2.St) (ρ : Rho) : Prop := ∃ Fs, RelF c M B Fs H σ ρ

section
variable {c : Ct} {M : Nat → Mo} {B : Bs} {Fs : Nat → List Addr} {H H' : Hp} {σ : L2.St} {ρ : Rho} {X : Cx} {We : WX} {k al al' i : Nat}
theorem at_any (w : Wd) : ∀ (al : Nat) (a : Addr), w.at al a → (Wd.at w 2 a) := fun _ _ _ => trivial
theorem RelF.slots (R : RelF c M B Fs H σ ρ) : Sl c M (wd B Fs) H σ ρ := ⟨R.len, fun i d e => by
  obtain ⟨v, h1, h2⟩ := R.sl i d e
  refine ⟨v, h1, ?_⟩
  unfold Sat at h2
  cases hm : M i with
  | v al => rw [hm] at h2; exact h2.2.2
  | o s => rw [hm] at h2; exact h2.toIs (fun _ _ => trivial) fun _ _ => trivial
  | p s => rw [hm] at h2; exact h2.toIs (fun _ z => z.elim) fun _ _ => trivial⟩
theorem Sat.mono {B' : Bs} {Fs' : Nat → List Addr} {m : Mo} {v : V} {d : D} {F : List Addr} (h : Sat c B Fs H m v d F) (hw : ∀ al a, al ≤ 1 → (wd B Fs).at al a → H a ≠ none → (wd B' Fs').at al a)
    (hk : ∀ a o, ((∀ i, a ∉ Fs i) ∨ a ∈ F ∨ sta o) → H a = some o → H' a = some o) : Sat c B' Fs' H' m v d F := by
  unfold Sat at h ⊢
  cases m with
  | v al =>
    obtain ⟨hal, e, h⟩ := h
    refine ⟨hal, e, h.track.mono (fun a x => hw al a hal x.1 x.2) fun a o x e => hk a o (x.elim (fun y => .inl ?_) fun y => .inr (.inr y)) e⟩
    exact (wd B Fs).up hal a y.1
  | o s =>
    refine h.track.mono (fun a x => hw 0 a (by decide) x.1 x.2) fun a o x e => hk a o (x.elim (fun y => .inl y.1.1) fun y => .inr y) e
  | p s =>
    refine h.mono (fun a x => x) fun a o x e => hk a o (x.elim (fun y => y.elim) fun y => .inr y) e
theorem RelF.same (R : RelF c M B Fs H σ ρ) (s : Same H H') : RelF c M B Fs H' σ ρ where
  nd := R.nd
  dj := R.dj
  th := fun i a ha => let ⟨o, h1, h2⟩ := R.th i a ha; ⟨o, s a o h1, h2⟩
  fr := fun p hp a o e hn => s a o (R.fr p hp a o e hn)
  out := R.out
  own := R.own
  old := fun a e => R.old a (s.free e)
  sl := fun i d e => let ⟨v, h1, h2⟩ := R.sl i d e; ⟨v, h1, h2.mono (fun _ _ _ x _ => x) fun a o _ e => s a o e⟩
  mp := R.mp
  len := R.len
/-- the slots' functions changed at one place -/
def fset {α : Type} (f : Nat → α) (i : Nat) (x : α) : Nat → α := fun j => if j = i then x else f j
theorem fset_self {α : Type} (f : Nat → α) (i : Nat) (x : α) : fset f i x i = x := if_pos rfl
theorem fset_ne {α : Type} {f : Nat → α} {i j : Nat} {x : α} (h : j ≠ i) : fset f i x j = f j := if_neg h
/-- THE STEP: slot i's own objects are F' now, what stands outside of them stood and stands -/
theorem RelF.putW (R : RelF c M B Fs H σ ρ) {F' : List Addr} {σ' : L2.St} {ρ' : Rho} (h1 : ∀ a o, a ∉ Fs i → H a = some o → H' a = some o) (h2 : ∀ a, H' a = none → B.H0 a = none) (nd : F'.Nodup) (h3 : ∀ a ∈ F', a ∈ Fs i ∨ H a = none)
    (h4 : ∀ a ∈ F', ∃ o, H' a = some o ∧ ¬ sta o) (hσ : ∀ j, j ≠ i → σ'[j]? = σ[j]?) (hρ : ∀ j, j ≠ i → ρ'[j]? = ρ[j]?) (hl : σ'.length = ρ'.length) (hm : ∀ q ∈ B.mp, q.1 = i → σ'[i]? = some (some q.2.2)) (ho : ∀ s, M i = .o s → ∀ a ∈ Fs i, B.H0 a = none)
    (hi : ∀ d, ρ'[i]? = some (some d) → ∃ v, σ'[i]? = some (some v) ∧ Sat c B (fset Fs i F') H' (M i) v d F') : RelF c M B (fset Fs i F') H' σ' ρ' where
  nd := fun j => by
    by_cases h : j = i
    · rw [h, fset_self]; exact nd
    · rw [fset_ne h]; exact R.nd j
  dj := fun j l a ha hb => by
    by_cases h : j = i
    · rw [h, fset_self] at ha
      by_cases h' : l = i
      · rw [h, h']
      · rw [fset_ne h'] at hb
        rcases h3 a ha with x | x
        · rw [h]; exact R.dj i l a x hb
        · obtain ⟨o, e, _⟩ := R.th l a hb
          rw [x] at e; cases e
    · rw [fset_ne h] at ha
      by_cases h' : l = i
      · rw [h', fset_self] at hb
        rcases h3 a hb with x | x
        · rw [h']; exact R.dj j i a ha x
        · obtain ⟨o, e, _⟩ := R.th j a ha
          rw [x] at e; cases e
      · rw [fset_ne h'] at hb; exact R.dj j l a ha hb
  th := fun j a ha => by
    by_cases h : j = i
    · rw [h, fset_self] at ha; exact h4 a ha
    · rw [fset_ne h] at ha
      obtain ⟨o, e, n⟩ := R.th j a ha
      exact ⟨o, h1 a o (fun z => h (R.dj j i a ha z)) e, n⟩
  fr := fun p hp a o e hn => h1 a o (fun z => (R.out p hp i a z).elim (fun y => by rw [y] at e; cases e) hn) (R.fr p hp a o e hn)
  out := fun p hp j a ha => by
    by_cases h : j = i
    · rw [h, fset_self] at ha
      rcases h3 a ha with x | x
      · exact R.out p hp i a x
      · by_cases hp2 : p.2 a
        · exact .inr hp2
        · refine .inl ?_
          cases e : p.1 a with
          | none => rfl
          | some o => rw [R.fr p hp a o e hp2] at x; cases x
    · rw [fset_ne h] at ha; exact R.out p hp j a ha
  own := fun j s hs a ha => by
    by_cases h : j = i
    · rw [h, fset_self] at ha
      rcases h3 a ha with x | x
      · rw [h] at hs; exact ho s hs a x
      · exact R.old a x
    · rw [fset_ne h] at ha; exact R.own j s hs a ha
  old := h2
  sl := fun j d e => by
    by_cases h : j = i
    · rw [h] at e ⊢
      rw [fset_self]
      exact hi d e
    · rw [hρ j h] at e
      obtain ⟨v, e1, e2⟩ := R.sl j d e
      refine ⟨v, by rw [hσ j h]; exact e1, ?_⟩
      rw [fset_ne h]
      have nin : ∀ a, (∀ l, a ∉ Fs l) → H a ≠ none → ∀ l, a ∉ fset Fs i F' l := fun a x y l z => by
        by_cases hl : l = i
        · rw [hl, fset_self] at z
          rcases h3 a z with q | q
          · exact x i q
          · exact y q
        · rw [fset_ne hl] at z; exact x l z
      refine e2.mono (fun al a hal x y => ?_) fun a o x e => h1 a o ?_ e
      · match al, hal, x with
        | 0, _, x => exact ⟨nin a x.1 y, x.2⟩
        | 1, _, x => exact nin a x y
      · intro z
        rcases x with x | x | x
        · exact x i z
        · exact h (R.dj j i a x z)
        · obtain ⟨o', e', n'⟩ := R.th i a z
          rw [e] at e'; cases e'; exact n' x
  mp := fun q hq => by
    refine ⟨?_, (R.mp q hq).2⟩
    by_cases h : q.1 = i
    · rw [h]; exact hm q hq h
    · rw [hσ _ h]; exact (R.mp q hq).1
  len := hl
theorem RelF.put (R : RelF c M B Fs H σ ρ) {F' : List Addr} {σ' : L2.St} {ρ' : Rho} (h1 : ∀ a o, a ∉ Fs i → H a = some o → H' a = some o) (h2 : ∀ a, H' a = none → H a = none) (nd : F'.Nodup) (h3 : ∀ a ∈ F', a ∈ Fs i ∨ H a = none)
    (h4 : ∀ a ∈ F', ∃ o, H' a = some o ∧ ¬ sta o) (hσ : ∀ j, j ≠ i → σ'[j]? = σ[j]?) (hρ : ∀ j, j ≠ i → ρ'[j]? = ρ[j]?) (hl : σ'.length = ρ'.length) (hm : ∀ q ∈ B.mp, q.1 = i → σ'[i]? = some (some q.2.2)) (ho : ∀ s, M i = .o s → ∀ a ∈ Fs i, B.H0 a = none)
    (hi : ∀ d, ρ'[i]? = some (some d) → ∃ v, σ'[i]? = some (some v) ∧ Sat c B (fset Fs i F') H' (M i) v d F') : RelF c M B (fset Fs i F') H' σ' ρ' :=
  R.putW h1 (fun a e => R.old a (h2 a e)) nd h3 h4 hσ hρ hl hm ho hi
/-- a name takes what can not be changed by it -/
theorem RelF.setVF (R : RelF c M B Fs H σ ρ) {v : V} {d : D} (hm : M i = .v al) (hal : al ≤ 1) (hi : i < ρ.length) (h : Is c (NW (wd B Fs) al H) H' v d) (s : Same H H') : RelF c M B (fset Fs i []) H' (σ.set i (some v)) (ρ.set i (some d)) := by
  have R' := R.same s
  refine R'.put (fun a o _ e => e) (fun _ e => e) (by simp) (by simp) (by simp) (fun j hj => List.getElem?_set_ne (Ne.symm hj)) (fun j hj => List.getElem?_set_ne (Ne.symm hj)) (by simp [R.len]) (fun q hq e => ?_) (fun s hs => by rw [hm] at hs; cases hs) fun d' e => ?_
  · have hs := (R.mp q hq).2
    rw [e, hm] at hs; cases hs
  · rw [List.getElem?_set_self hi] at e
    cases e
    refine ⟨v, List.getElem?_set_self (by rw [R.len]; exact hi), ?_⟩
    rw [hm]
    refine ⟨hal, rfl, h.track.up fun a x => ?_⟩
    have nin : (∀ l, a ∉ Fs l) → ∀ l, a ∉ fset Fs i [] l := fun x l z => by
      by_cases hl : l = i
      · rw [hl, fset_self] at z; simp at z
      · rw [fset_ne hl] at z; exact x l z
    have new : H a = none → (∀ l, a ∉ Fs l) := fun e l z => by
      obtain ⟨o, e', _⟩ := R.th l a z
      rw [e] at e'; cases e'
    match al, hal, x with
    | 0, _, ⟨.inl x, _⟩ => exact ⟨nin x.1, x.2⟩
    | 0, _, ⟨.inr x, _⟩ => exact ⟨nin (new x), R.old a x⟩
    | 1, _, ⟨.inl x, _⟩ => exact nin x
    | 1, _, ⟨.inr x, _⟩ => exact nin (new x)
theorem RelF.setV (R : RelF c M B Fs H σ ρ) {v : V} {d : D} (hm : M i = .v al) (hal : al ≤ 1) (hi : i < ρ.length) (h : Is c (NW (wd B Fs) al H) H' v d) (s : Same H H') : Rel c M B H' (σ.set i (some v)) (ρ.set i (some d)) := ⟨_, R.setVF hm hal hi h s⟩
theorem wd_drop : ∀ al a, (wd B Fs).at al a → (wd B (fset Fs i [])).at al a := by
  have nin : ∀ a, (∀ l, a ∉ Fs l) → ∀ l, a ∉ fset Fs i [] l := fun a x l z => by
    by_cases hl : l = i
    · rw [hl, fset_self] at z; simp at z
    · rw [fset_ne hl] at z; exact x l z
  intro al a x
  match al, x with
  | 0, x => exact ⟨nin a x.1, x.2⟩
  | 1, x => exact nin a x
  | _ + 2, x => trivial
/-- a name takes what is its own -/
theorem RelF.setO (R : RelF c M B Fs H σ ρ) {v : V} {d : D} {s : Sh} {F : List Addr} (hm : M i = .o s) (hi : i < ρ.length) (hs : Same H H') (hn : ∀ a ∈ F, H a = none) (nd : F.Nodup) (h : Own c (fun a => NW (wd B Fs) 0 H a ∧ a ∉ F) H' s v d F) : Rel c M B H' (σ.set i (some v)) (ρ.set i (some d)) := by
  have R' := R.same hs
  have ho := R.own i s hm
  have new : ∀ a, H a = none → (∀ l, a ∉ Fs l) := fun a e l z => by
    obtain ⟨o, e', _⟩ := R.th l a z
    rw [e] at e'; cases e'
  -- ahead: slot i owns nothing
  have R2 : RelF c M B (fset Fs i []) H' (σ.set i none) (ρ.set i none) := R'.put (fun a o _ e => e) (fun _ e => e) (by simp) (by simp) (by simp) (fun j hj => List.getElem?_set_ne (Ne.symm hj)) (fun j hj => List.getElem?_set_ne (Ne.symm hj)) (by simp [R.len]) (fun q hq e => by
    have hs := (R.mp q hq).2
    rw [e, hm] at hs; cases hs) (fun s hs => R.own i s hs) fun d' e => by
    rw [List.getElem?_set_self hi] at e; cases e
  refine ⟨fset Fs i F, ?_⟩
  have ef : ∀ j, j ≠ i → fset Fs i F j = Fs j := fun j h => fset_ne h
  have nin : ∀ a, (∀ l, a ∉ Fs l) → a ∉ F → ∀ l, a ∉ fset Fs i F l := fun a x y l z => by
    by_cases hl : l = i
    · rw [hl, fset_self] at z; exact y z
    · rw [fset_ne hl] at z; exact x l z
  have hth := fun a ha => h.there a ha
  refine ⟨fun j => ?_, fun j l a ha hb => ?_, fun j a ha => ?_, R2.fr, fun p hp j a ha => ?_, fun j s' hs' a ha => ?_, R2.old, fun j d' e => ?_, fun q hq => ?_, by simp [R.len]⟩
  · by_cases hj : j = i
    · rw [hj, fset_self]; exact nd
    · rw [fset_ne hj]; exact R.nd j
  · by_cases hj : j = i
    · rw [hj, fset_self] at ha
      by_cases hl : l = i
      · rw [hj, hl]
      · rw [fset_ne hl] at hb; exact (new a (hn a ha) l hb).elim
    · rw [fset_ne hj] at ha
      by_cases hl : l = i
      · rw [hl, fset_self] at hb; exact (new a (hn a hb) j ha).elim
      · rw [fset_ne hl] at hb; exact R.dj j l a ha hb
  · by_cases hj : j = i
    · rw [hj, fset_self] at ha; exact hth a ha
    · rw [fset_ne hj] at ha; exact R'.th j a ha
  · by_cases hj : j = i
    · rw [hj, fset_self] at ha
      by_cases hp2 : p.2 a
      · exact .inr hp2
      · refine .inl ?_
        cases e : p.1 a with
        | none => rfl
        | some o =>
          have := R.fr p hp a o e hp2
          rw [hn a ha] at this; cases this
    · rw [fset_ne hj] at ha; exact R.out p hp j a ha
  · by_cases hj : j = i
    · rw [hj, fset_self] at ha; exact R.old a (hn a ha)
    · rw [fset_ne hj] at ha; exact R.own j s' hs' a ha
  · by_cases hj : j = i
    · rw [hj, List.getElem?_set_self hi] at e
      cases e
      rw [hj, fset_self]
      refine ⟨v, List.getElem?_set_self (by rw [R.len]; exact hi), ?_⟩
      rw [hm]
      refine h.mono (fun a x => ?_) fun a o _ e => e
      rcases x.1 with y | y
      · exact ⟨nin a y.1 x.2, y.2⟩
      · exact ⟨nin a (new a y) x.2, R.old a y⟩
    · rw [List.getElem?_set_ne (Ne.symm hj)] at e
      obtain ⟨v', e1, e2⟩ := R.sl j d' e
      refine ⟨v', by rw [List.getElem?_set_ne (Ne.symm hj)]; exact e1, ?_⟩
      rw [fset_ne hj]
      refine e2.mono (fun al a hal x y => ?_) fun a o _ e => hs a o e
      have yF : a ∉ F := fun z => y (hn a z)
      match al, hal, x with
      | 0, _, x => exact ⟨nin a x.1 yF, x.2⟩
      | 1, _, x => exact nin a x yF
  · obtain ⟨h1, h2⟩ := R.mp q hq
    refine ⟨?_, h2⟩
    rw [List.getElem?_set_ne (fun e => by rw [← e, hm] at h2; cases h2)]
    exact h1

/-- a slot is given up; it may be of another kind then -/
theorem RelF.remode (R : RelF c M B Fs H σ ρ) (m : Mo) (hp : ∀ s, M i ≠ .p s) : RelF c (fset M i m) B (fset Fs i []) H σ (ρ.set i none) where
  nd := fun j => by
    by_cases h : j = i
    · rw [h, fset_self]; simp
    · rw [fset_ne h]; exact R.nd j
  dj := fun j l a ha hb => by
    by_cases h : j = i
    · rw [h, fset_self] at ha; simp at ha
    · by_cases h' : l = i
      · rw [h', fset_self] at hb; simp at hb
      · rw [fset_ne h] at ha; rw [fset_ne h'] at hb; exact R.dj j l a ha hb
  th := fun j a ha => by
    by_cases h : j = i
    · rw [h, fset_self] at ha; simp at ha
    · rw [fset_ne h] at ha; exact R.th j a ha
  fr := R.fr
  out := fun p hp j a ha => by
    by_cases h : j = i
    · rw [h, fset_self] at ha; simp at ha
    · rw [fset_ne h] at ha; exact R.out p hp j a ha
  own := fun j s hs a ha => by
    by_cases h : j = i
    · rw [h, fset_self] at ha; simp at ha
    · rw [fset_ne h] at ha hs; exact R.own j s hs a ha
  old := R.old
  sl := fun j d e => by
    by_cases h : j = i
    · rw [h] at e
      by_cases hi : i < ρ.length
      · rw [List.getElem?_set_self hi] at e; cases e
      · rw [List.getElem?_eq_none (by simpa using hi)] at e; cases e
    · rw [List.getElem?_set_ne (Ne.symm h)] at e
      obtain ⟨v, e1, e2⟩ := R.sl j d e
      refine ⟨v, e1, ?_⟩
      rw [fset_ne h, fset_ne h]
      exact e2.mono (fun al a _ x _ => wd_drop al a x) fun a o _ e => e
  mp := fun q hq => by
    obtain ⟨h1, h2⟩ := R.mp q hq
    refine ⟨h1, ?_⟩
    rw [fset_ne (fun e => hp _ (by rw [← e]; exact h2))]
    exact h2
  len := by simp [R.len]
theorem NW.drop {al : Nat} : ∀ a, NW (wd B Fs) al H a → NW (wd B (fset Fs i [])) al H a := fun a x => x.elim (fun y => .inl (wd_drop al a y)) .inr
theorem RelF.setVM (R : RelF c M B Fs H σ ρ) {v : V} {d : D} (hp : ∀ s, M i ≠ .p s) (hal : al ≤ 1) (hi : i < ρ.length) (h : Is c (NW (wd B Fs) al H) H' v d) (s : Same H H') : Rel c (fset M i (.v al)) B H' (σ.set i (some v)) (ρ.set i (some d)) := by
  have := (R.remode (.v al) hp).setV (i := i) (fset_self _ _ _) hal (by simpa using hi) (h.up NW.drop) s
  rw [List.set_set] at this
  exact this
theorem RelF.setOM (R : RelF c M B Fs H σ ρ) {v : V} {d : D} {s : Sh} {F : List Addr} (hp : ∀ s, M i ≠ .p s) (hi : i < ρ.length) (hs : Same H H') (hn : ∀ a ∈ F, H a = none) (nd : F.Nodup) (h : Own c (fun a => NW (wd B Fs) 0 H a ∧ a ∉ F) H' s v d F) : Rel c (fset M i (.o s)) B H' (σ.set i (some v)) (ρ.set i (some d)) := by
  have := (R.remode (.o s) hp).setO (i := i) (fset_self _ _ _) (by simpa using hi) hs hn nd (h.mono (fun a x => ⟨NW.drop a x.1, x.2⟩) fun a o _ e => e)
  rw [List.set_set] at this
  exact this
end
end VS
set_option Elab.async false
set_option linter.all false
set_option maxRecDepth 100000
set_option maxHeartbeats 2000000
/-! VF: statements by their plain meaning. -/
namespace VS
open PySem L2

inductive Out where
  | nx (ρ : Rho)
  | rt (d : D) (ρ : Rho)
  | bk (ρ : Rho)
  | ct (ρ : Rho)
  | ex (k : Value) (ρ : Rho)
abbrev SF := Rho → O Out

def FrB (B : Bs) (H : Hp) : Prop := ∀ p ∈ B.pr, ∀ a o, p.1 a = some o → ¬ p.2 a → H a = some o
/-- what a def hands back, and what stands then -/
def RetOk (c : Ct) (B : Bs) (rs : Sh) (H : Hp) (v : V) (d : D) (ρ : Rho) : Prop := ∃ (M : Nat → Mo) (Fs : Nat → List Addr) (σ : L2.St) (F : List Addr), RelF c M B Fs H σ ρ ∧ F.Nodup ∧ (∀ a ∈ F, B.H0 a = none ∧ ∀ i, a ∉ Fs i) ∧
  Own c (fun a => B.H0 a = none ∧ (∀ i, a ∉ Fs i) ∧ a ∉ F) H rs v d F
def PoS (c : Ct) (Ml M' : Nat → Mo) (B : Bs) (rs : Sh) (We : WX) (r : O Out) (D : Ends) : Prop := Po r (fun out => match out with
  | .nx ρ => ∀ σ H, Rel c M' B H σ ρ → D.nx σ H
  | .rt d ρ => ∀ v H, RetOk c B rs H v d ρ → D.rt v H
  | .bk ρ => ∀ σ H, Rel c Ml B H σ ρ → D.bk σ H
  | .ct ρ => ∀ σ H, Rel c Ml B H σ ρ → D.ct σ H
  | .ex k ρ => ∀ σ H M, Rel c M B H σ ρ → We k none σ H) (fun k => ∀ σ H, FrB B H → We k none σ H)
structure VSt (X : Cx) (c : Ct) (We : WX) (rs : Sh) (Ml M M' : Nat → Mo) (st : Stmt) (g : SF) : Prop where
  ex : ∃ t, PS X st t ∧ ∀ (B : Bs) (σ : L2.St) (H : Hp) (ρ : Rho) (D : Ends), Rel c M B H σ ρ → PoS c Ml M' B rs We (g ρ) D → t D σ H
structure VSs (X : Cx) (c : Ct) (We : WX) (rs : Sh) (Ml M M' : Nat → Mo) (sts : List Stmt) (g : SF) : Prop where
  ex : ∃ t, PSs X sts t ∧ ∀ (B : Bs) (σ : L2.St) (H : Hp) (ρ : Rho) (D : Ends), Rel c M B H σ ρ → PoS c Ml M' B rs We (g ρ) D → t D σ H

/-! ### meanings -/
def sNx : SF := fun ρ => .ok (.nx ρ)
def sSeq (f g : SF) : SF := fun ρ => (f ρ).bind fun out => match out with
  | .nx ρ => g ρ
  | o => .ok o
def sSet (i : Nat) (f : EF) : SF := fun ρ => (f ρ).bind fun d => gd (decide (i < ρ.length)) (.ok (.nx (ρ.set i (some d))))
def sDrop (f : EF) : SF := fun ρ => (f ρ).bind fun _ => .ok (.nx ρ)
def sRet (f : EF) : SF := fun ρ => (f ρ).bind fun d => .ok (.rt d ρ)
def sRetN : SF := fun ρ => .ok (.rt .non ρ)
def sRetV (i : Nat) : SF := fun ρ => (eVar i ρ).bind fun d => .ok (.rt d (ρ.set i none))
def sIf (t : TF) (f g : SF) : SF := fun ρ => (t ρ).bind fun b => if b = true then f ρ else g ρ
def sBk : SF := fun ρ => .ok (.bk ρ)
def sCt : SF := fun ρ => .ok (.ct ρ)
def sExc (k : Value) : SF := fun _ => .exc k
def lstD : D → O (List D)
  | .lst l => .ok l
  | _ => .bad
def sApp (i : Nat) (f : EF) : SF := fun ρ => (eVar i ρ).bind fun x => (lstD x).bind fun l => (f ρ).bind fun d => gd (decide (l.length < 100000)) (.ok (.nx (ρ.set i (some (.lst (l ++ [d]))))))
/-- x.append(y), y its own: it goes -/
def sAppV (i j : Nat) : SF := fun ρ => (eVar i ρ).bind fun x => (lstD x).bind fun l => (eVar j ρ).bind fun d => gd (decide (l.length < 100000) && decide (i ≠ j)) (.ok (.nx ((ρ.set j none).set i (some (.lst (l ++ [d]))))))
def sClear (i : Nat) : SF := fun ρ => (eVar i ρ).bind fun x => (lstD x).bind fun _ => .ok (.nx (ρ.set i (some (.lst []))))

section
variable {c : Ct} {M M' M1 Ml : Nat → Mo} {B : Bs} {H H' : Hp} {σ : L2.St} {ρ : Rho} {X : Cx} {We : WX} {k al al' i j : Nat} {rs : Sh} {st : Stmt} {sts : List Stmt} {e : Expr} {f : EF} {g g' : SF} {t : TF} {pos : Pos}
theorem Po.exc_up {α : Type} {r : O α} {P : α → Prop} {Fs : Nat → List Addr} (R : RelF c M B Fs H σ ρ) (h : Po r P (fun k => ∀ σ H, FrB B H → We k none σ H)) : Po r P (fun k => ∀ H', Same H H' → We k none σ H') :=
  h.imp (fun _ _ q => q) fun _ _ q H' hs => q σ H' fun p hp a o e hn => hs a o (R.fr p hp a o e hn)
theorem vss_nil : VSs X c We rs Ml M M [] sNx := ⟨_, pss_nil, fun B σ H ρ D R po => po σ H R⟩
theorem vss_one (h : VSt X c We rs Ml M M' st g) : VSs X c We rs Ml M M' [st] g := by
  obtain ⟨t, p, s⟩ := h.ex
  exact ⟨t, pss_one p, s⟩
theorem vss_cons (h : VSt X c We rs Ml M M1 st g) (h' : VSs X c We rs Ml M1 M' sts g') : VSs X c We rs Ml M M' (st :: sts) (sSeq g g') := by
  obtain ⟨t, p, s⟩ := h.ex
  obtain ⟨t', p', s'⟩ := h'.ex
  refine ⟨_, pss_cons p p', fun B σ H ρ D R po => s B σ H ρ _ R ((Po.bind po).imp (fun out _ q => ?_) fun _ _ q => q)⟩
  cases out with
  | nx ρ => exact fun σ H R => s' B σ H ρ D R q
  | rt d ρ => exact q
  | bk ρ => exact q
  | ct ρ => exact q
  | ex k ρ => exact q
theorem vs_pass : VSt X c We rs Ml M M (.Pass pos) sNx := ⟨_, ps_pass, fun B σ H ρ D R po => po σ H R⟩
theorem vs_doc {x j p} : VSt X c We rs Ml M M (.Expr (.Constant (.str x) j p) pos) sNx := ⟨_, ps_doc, fun B σ H ρ D R po => po σ H R⟩
theorem vs_bk : VSt X c We rs Ml Ml M' (.Break pos) sBk := ⟨_, ps_break, fun B σ H ρ D R po => po σ H R⟩
theorem vs_ct : VSt X c We rs Ml Ml M' (.Continue pos) sCt := ⟨_, ps_continue, fun B σ H ρ D R po => po σ H R⟩
theorem vs_expr (h : VE X c M We al e f) (hs : swapsWith e none pos.line X.env = pure false := by rfl) : VSt X c We rs Ml M M (.Expr e pos) (sDrop f) := by
  obtain ⟨te, p, s⟩ := h.ex
  refine ⟨_, ps_expr p hs, fun B σ H ρ D R po => ?_⟩
  obtain ⟨Fs, R⟩ := R
  exact s _ σ H ρ _ R.slots ((Po.exc_up R (Po.bind po)).imp (fun d _ q v H' hs hi => q σ H' ⟨Fs, R.same hs⟩) fun _ _ q => q)
theorem vs_set {x : Str} {pos' : Pos} (i : Nat) (al : Nat) (h : VE X c M We al e f) (hm : M i = .v al) (hal : al ≤ 1) (hN : X.N.Nodup) (hi : X.N[i]? = some x := by rfl) (hx : Loc X.env.scope x := by first | exact .inl rfl | exact .inr rfl) (hs : swapsWith e (some (.Name x pos')) pos.line X.env = pure false := by rfl)
    (hf : X.fn x = true ∨ X.env.scope.names.lookup x = some .local := by first | exact .inl rfl | exact .inr rfl) : VSt X c We rs Ml M M (.Assign [.Name x pos'] e pos) (sSet i f) := by
  obtain ⟨te, p, s⟩ := h.ex
  refine ⟨_, ps_set (i := i) hN hi hx p hs hf, fun B σ H ρ D R po => ?_⟩
  obtain ⟨Fs, R⟩ := R
  refine s _ σ H ρ _ R.slots ((Po.exc_up R (Po.bind po)).imp (fun d _ q v H' hs hi => ?_) fun _ _ q => q)
  obtain ⟨hl, q⟩ := Po.gd q
  exact q _ H' (R.setV hm hal (of_decide_eq_true hl) hi hs)
theorem vs_setO {x : Str} {pos' : Pos} {s : Sh} (i : Nat) (h : VO X c M We s e f) (hm : M i = .o s) (hN : X.N.Nodup) (hi : X.N[i]? = some x := by rfl) (hx : Loc X.env.scope x := by first | exact .inl rfl | exact .inr rfl) (hs : swapsWith e (some (.Name x pos')) pos.line X.env = pure false := by rfl)
    (hf : X.fn x = true ∨ X.env.scope.names.lookup x = some .local := by first | exact .inl rfl | exact .inr rfl) : VSt X c We rs Ml M M (.Assign [.Name x pos'] e pos) (sSet i f) := by
  obtain ⟨te, p, s⟩ := h.ex
  refine ⟨_, ps_set (i := i) hN hi hx p hs hf, fun B σ H ρ D R po => ?_⟩
  obtain ⟨Fs, R⟩ := R
  refine s _ σ H ρ _ R.slots ((Po.exc_up R (Po.bind po)).imp (fun d _ q v H' F hs hn nd ho => ?_) fun _ _ q => q)
  obtain ⟨hl, q⟩ := Po.gd q
  exact q _ H' (R.setO hm (of_decide_eq_true hl) hs hn nd ho)
/-- .. the slot of another kind then -/
theorem vs_setM {x : Str} {pos' : Pos} (i : Nat) (al : Nat) (h : VE X c M We al e f) (hm : ∀ s, M i ≠ .p s) (hal : al ≤ 1) (hN : X.N.Nodup) (hi : X.N[i]? = some x := by rfl) (hx : Loc X.env.scope x := by first | exact .inl rfl | exact .inr rfl) (hs : swapsWith e (some (.Name x pos')) pos.line X.env = pure false := by rfl)
    (hf : X.fn x = true ∨ X.env.scope.names.lookup x = some .local := by first | exact .inl rfl | exact .inr rfl) : VSt X c We rs Ml M (fset M i (.v al)) (.Assign [.Name x pos'] e pos) (sSet i f) := by
  obtain ⟨te, p, s⟩ := h.ex
  refine ⟨_, ps_set (i := i) hN hi hx p hs hf, fun B σ H ρ D R po => ?_⟩
  obtain ⟨Fs, R⟩ := R
  refine s _ σ H ρ _ R.slots ((Po.exc_up R (Po.bind po)).imp (fun d _ q v H' hs hi => ?_) fun _ _ q => q)
  obtain ⟨hl, q⟩ := Po.gd q
  exact q _ H' (R.setVM hm hal (of_decide_eq_true hl) hi hs)
theorem vs_setOM {x : Str} {pos' : Pos} {s : Sh} (i : Nat) (h : VO X c M We s e f) (hm : ∀ s, M i ≠ .p s) (hN : X.N.Nodup) (hi : X.N[i]? = some x := by rfl) (hx : Loc X.env.scope x := by first | exact .inl rfl | exact .inr rfl) (hs : swapsWith e (some (.Name x pos')) pos.line X.env = pure false := by rfl)
    (hf : X.fn x = true ∨ X.env.scope.names.lookup x = some .local := by first | exact .inl rfl | exact .inr rfl) : VSt X c We rs Ml M (fset M i (.o s)) (.Assign [.Name x pos'] e pos) (sSet i f) := by
  obtain ⟨te, p, s⟩ := h.ex
  refine ⟨_, ps_set (i := i) hN hi hx p hs hf, fun B σ H ρ D R po => ?_⟩
  obtain ⟨Fs, R⟩ := R
  refine s _ σ H ρ _ R.slots ((Po.exc_up R (Po.bind po)).imp (fun d _ q v H' F hs hn nd ho => ?_) fun _ _ q => q)
  obtain ⟨hl, q⟩ := Po.gd q
  exact q _ H' (R.setOM hm (of_decide_eq_true hl) hs hn nd ho)
/-- y = [.. for ..] on one line -/
theorem RelF.newNot {Fs : Nat → List Addr} (R : RelF c M B Fs H σ ρ) {a : Addr} (e : H a = none) : ∀ l, a ∉ Fs l := fun l z => by
  obtain ⟨o, e', _⟩ := R.th l a z
  rw [e] at e'; cases e'
theorem vs_ret (h : VO X c M We rs e f) : VSt X c We rs Ml M M' (.Return (some e) pos) (sRet f) := by
  obtain ⟨te, p, s⟩ := h.ex
  refine ⟨_, ps_ret p, fun B σ H ρ D R po => ?_⟩
  obtain ⟨Fs, R⟩ := R
  refine s _ σ H ρ _ R.slots ((Po.exc_up R (Po.bind po)).imp (fun d _ q v H' F hs hn nd ho => ?_) fun _ _ q => q)
  refine q v H' ⟨M, Fs, σ, F, R.same hs, nd, fun a ha => ⟨R.old a (hn a ha), R.newNot (hn a ha)⟩, ho.mono (fun a x => ?_) fun a o _ e => e⟩
  rcases x.1 with y | y
  · exact ⟨y.2, y.1, x.2⟩
  · exact ⟨R.old a y, R.newNot y, x.2⟩
theorem vs_retN : VSt X c We .fz Ml M M' (.Return none pos) sRetN := by
  refine ⟨_, ps_retN, fun B σ H ρ D R po => ?_⟩
  obtain ⟨Fs, R⟩ := R
  exact po .non H ⟨M, Fs, σ, [], R, by simp, by simp, rfl, .non⟩
/-- return x, x its own -/
theorem vs_retV {x : Str} {p2 : Pos} (i : Nat) (hm : M i = .o rs) (hN : X.N[i]? = some x := by rfl) (hv : Vis X.env.scope x := by first | exact Or.inl rfl | exact Or.inr (Or.inl rfl) | exact Or.inr (Or.inr rfl)) (hd : (x == ("__debug__" : Str)) = false := by decide)
    (hcd : (x == ("__classdict__" : Str)) = false := by decide) : VSt X c We rs Ml M M' (.Return (some (.Name x p2)) pos) (sRetV i) := by
  refine ⟨_, ps_ret (pv i hN hv hd hcd), fun B σ H ρ D R po => ?_⟩
  obtain ⟨Fs, R⟩ := R
  have po := Po.bind po
  unfold eVar at po
  cases hr : ρ[i]? with
  | none => rw [hr] at po; exact po.elim
  | some o =>
    cases o with
    | none => rw [hr] at po; exact po.elim
    | some d =>
      rw [hr] at po
      obtain ⟨v, h1, h2⟩ := R.sl i d hr
      have hi : i < ρ.length := (List.getElem?_eq_some_iff.mp hr).1
      rw [hm] at h2
      have R2 : RelF c M B (fset Fs i []) H (σ.set i none) (ρ.set i none) := R.put (fun a o _ e => e) (fun _ e => e) (by simp) (by simp) (by simp) (fun j hj => List.getElem?_set_ne (Ne.symm hj)) (fun j hj => List.getElem?_set_ne (Ne.symm hj)) (by simp [R.len]) (fun q hq e => by
        have hs := (R.mp q hq).2
        rw [e, hm] at hs; cases hs) (fun s hs => R.own i s hs) fun d' e => by
        rw [List.getElem?_set_self hi] at e; cases e
      refine ⟨v, h1, po v H ⟨M, fset Fs i [], σ.set i none, Fs i, R2, R.nd i, fun a ha => ⟨R.own i rs hm a ha, fun j z => ?_⟩, ?_⟩⟩
      · by_cases hj : j = i
        · rw [hj, fset_self] at z; simp at z
        · rw [fset_ne hj] at z; exact hj (R.dj j i a z ha)
      · refine Own.mono (fun a x => ⟨x.2, fun j z => ?_, x.1 i⟩) (fun a o _ e => e) h2
        by_cases hj : j = i
        · rw [hj, fset_self] at z; simp at z
        · rw [fset_ne hj] at z; exact x.1 j z
theorem vs_if {cnd : Expr} {a b : List Stmt} (hc : VT X c M We cnd t) (ha : VSs X c We rs Ml M M' a g) (hb : VSs X c We rs Ml M M' b g') : VSt X c We rs Ml M M' (.If cnd a b pos) (sIf t g g') := by
  obtain ⟨tt, p, s⟩ := hc.ex
  obtain ⟨ta, pa, sa⟩ := ha.ex
  obtain ⟨tb, pb, sb⟩ := hb.ex
  refine ⟨_, ps_if p pa pb, fun B σ H ρ D R po => ?_⟩
  obtain ⟨Fs, R⟩ := R
  refine s _ σ H ρ _ R.slots ((Po.exc_up R (Po.bind po)).imp (fun k _ q H' hs => ?_) fun _ _ q => q)
  cases k with
  | true => exact iteT (sa B σ H' ρ D ⟨Fs, R.same hs⟩ q)
  | false => exact iteF (sb B σ H' ρ D ⟨Fs, R.same hs⟩ q)
/-- an own list becomes frozen from here on -/
theorem vss_freeze (i : Nat) {s : Sh} (hm : M i = .o s) (h : VSs X c We rs Ml (fset M i (.v 0)) M' sts g) : VSs X c We rs Ml M M' sts g := by
  obtain ⟨t, p, s'⟩ := h.ex
  refine ⟨t, p, fun B σ H ρ D R po => s' B σ H ρ D ?_ po⟩
  obtain ⟨Fs, R⟩ := R
  have hsub : ∀ j a, a ∈ fset Fs i [] j → a ∈ Fs j := fun j a z => by
    by_cases hj : j = i
    · rw [hj, fset_self] at z; simp at z
    · rw [fset_ne hj] at z; exact z
  refine ⟨fset Fs i [], fun j => ?_, fun j l a ha hb => R.dj j l a (hsub j a ha) (hsub l a hb), fun j a ha => R.th j a (hsub j a ha), R.fr, fun p hp j a ha => R.out p hp j a (hsub j a ha), fun j s hs a ha => ?_, R.old, fun j d e => ?_, fun q hq => ?_, R.len⟩
  · by_cases hj : j = i
    · rw [hj, fset_self]; simp
    · rw [fset_ne hj]; exact R.nd j
  · by_cases hj : j = i
    · rw [hj, fset_self] at ha; simp at ha
    · rw [fset_ne hj] at hs ha; exact R.own j s hs a ha
  · obtain ⟨v, e1, e2⟩ := R.sl j d e
    refine ⟨v, e1, ?_⟩
    by_cases hj : j = i
    · subst hj
      rw [fset_self, fset_self]
      rw [hm] at e2
      refine ⟨by decide, rfl, ?_⟩
      refine Own.toIs (W' := (wd B (fset Fs j [])).n) (fun a x => ⟨fun l z => x.1 l (hsub l a z), x.2⟩) (fun a ha => ⟨fun l z => ?_, R.own j s hm a ha⟩) e2
      by_cases hl : l = j
      · rw [hl, fset_self] at z; simp at z
      · rw [fset_ne hl] at z; exact hl (R.dj l j a z ha)
    · rw [fset_ne hj, fset_ne hj]
      refine e2.mono (fun al a hal x y => ?_) fun a o _ e => e
      match al, hal, x with
      | 0, _, x => exact ⟨fun l z => x.1 l (hsub l a z), x.2⟩
      | 1, _, x => exact fun l z => x l (hsub l a z)
  · obtain ⟨h1, h2⟩ := R.mp q hq
    refine ⟨h1, ?_⟩
    rw [fset_ne (fun e => by rw [e, hm] at h2; cases h2)]
    exact h2

/-- a slot is given up ahead of what follows, it may be of another kind then -/
theorem vss_kill (i : Nat) (m : Mo) (hm : ∀ s, M i ≠ .p s) (h : VSs X c We rs Ml (fset M i m) M' sts g) : VSs X c We rs Ml M M' sts (fun ρ => g (ρ.set i none)) := by
  obtain ⟨t, p, s⟩ := h.ex
  refine ⟨t, p, fun B σ H ρ D R po => ?_⟩
  obtain ⟨Fs, R⟩ := R
  exact s B σ H _ D ⟨_, R.remode m hm⟩ po

/-! ### an own list grows -/
theorem eVar_ok {d : D} (h : eVar i ρ = .ok d) : ρ[i]? = some (some d) := by
  unfold eVar at h
  cases hr : ρ[i]? with
  | none => rw [hr] at h; cases h
  | some o =>
    cases o with
    | none => rw [hr] at h; cases h
    | some d' => rw [hr] at h; cases h; rfl
/-- an own list stands at p; it may be changed there -/
theorem RelF.lst {Fs : Nat → List Addr} {s : Sh} {ds : List D} (R : RelF c M B Fs H σ ρ) (hm : M i = .o (.l s)) (e : ρ[i]? = some (some (.lst ds))) : ∃ p xs Gs, σ[i]? = some (some (.ref p)) ∧ H p = some (.lst xs) ∧ P3 (Own c (wd B Fs).n H s) xs ds Gs ∧ Fs i = p :: Gs.flatten ∧
    (∀ H1 o (W' : Addr → Prop) v d G, Same H H1 → G ∈ Gs → (∀ a, (wd B Fs).n a → H a ≠ none → W' a) → Own c (wd B Fs).n H s v d G → Own c W' (upd H1 p o) s v d G) ∧
    ∀ H1 xs' ds' Gs', Same H H1 → P3 (Own c (wd B (fset Fs i (p :: Gs'.flatten))).n (upd H1 p (.lst xs')) s) xs' ds' Gs' → (p :: Gs'.flatten).Nodup → (∀ a ∈ Gs'.flatten, a ∈ Gs.flatten ∨ H a = none) →
      RelF c M B (fset Fs i (p :: Gs'.flatten)) (upd H1 p (.lst xs')) σ (ρ.set i (some (.lst ds'))) := by
  obtain ⟨v, h1, h2⟩ := R.sl i _ e
  have hi : i < ρ.length := (List.getElem?_eq_some_iff.mp e).1
  rw [hm] at h2
  obtain ⟨p, xs, ds0, Gs, rfl, ed, hp, h3, eF⟩ := h2
  cases ed
  have nd := R.nd i
  rw [eF] at nd
  have hpG : p ∉ Gs.flatten := (List.nodup_cons.mp nd).1
  refine ⟨p, xs, Gs, h1, hp, h3, eF, fun H1 o W' v d G hs hG hw ho => ?_, fun H1 xs' ds' Gs' hs h5 nd' hn => ?_⟩
  · refine ho.track.mono (fun a x => hw a x.1 x.2) fun a u x eu => ?_
    have hap : a ≠ p := by
      intro z
      subst z
      rcases x with x | x | x
      · exact x.1.1 i (by rw [eF]; simp)
      · exact hpG (mem_flat hG x)
      · rw [hp] at eu; cases eu; exact x
    rw [upd_ne hap]; exact hs a u eu
  · have there : ∀ a ∈ Gs'.flatten, ∃ o, upd H1 p (.lst xs') a = some o ∧ ¬ sta o := fun a ha => by
      obtain ⟨G, hG, hx⟩ := List.mem_flatten.mp ha
      obtain ⟨v', d', h'⟩ := h5.mem hG
      exact h'.there a hx
    refine R.put (H' := upd H1 p (.lst xs')) (fun a o hna ea => ?_) (fun a ea => ?_) nd' (fun a ha => ?_) (fun a ha => ?_) (fun j hj => rfl) (fun j hj => List.getElem?_set_ne (Ne.symm hj)) (by simp [R.len]) (fun q hq eq => ?_) (fun s hs => R.own i s hs) fun d' ed' => ?_
    · rw [upd_ne (fun z => hna (by rw [eF, z]; simp))]; exact hs a o ea
    · by_cases h : a = p
      · rw [h, upd_same] at ea; cases ea
      · rw [upd_ne h] at ea; exact hs.free ea
    · rcases List.mem_cons.mp ha with z | z
      · exact .inl (by rw [eF, z]; simp)
      · rcases hn a z with y | y
        · exact .inl (by rw [eF]; simp only [List.mem_cons]; exact .inr y)
        · exact .inr y
    · rcases List.mem_cons.mp ha with z | z
      · rw [z, upd_same]; exact ⟨_, rfl, fun y => y⟩
      · exact there a z
    · have hs2 := (R.mp q hq).2
      rw [eq, hm] at hs2; cases hs2
    · rw [List.getElem?_set_self hi] at ed'
      cases ed'
      refine ⟨_, h1, ?_⟩
      rw [hm]
      exact ⟨p, xs', ds', Gs', rfl, rfl, upd_same, h5, rfl⟩

theorem P3.fzNil {W : Addr → Prop} : ∀ {vs ds Fs}, P3 (Own c W H .fz) vs ds Fs → ∀ G ∈ Fs, G = []
  | _, _, _, .nil, _, h => by simp at h
  | _, _, _, .cons h t, G, hG => by
    rcases List.mem_cons.mp hG with e | hG
    · rw [e]; exact h.1
    · exact t.fzNil G hG
theorem flat_nil {Gs : List (List Addr)} (h : ∀ G ∈ Gs, G = []) : Gs.flatten = [] := by
  induction Gs with
  | nil => rfl
  | cons G Gs ih => rw [List.flatten_cons, h G (by simp), ih fun G hG => h G (by simp [hG])]; rfl
/-- a new frozen item at the end of an own list of frozen items -/
theorem RelF.app {Fs : Nat → List Addr} {ds : List D} {v : V} {d : D} (R : RelF c M B Fs H σ ρ) (hm : M i = .o (.l .fz)) (e : ρ[i]? = some (some (.lst ds))) (hs : Same H H') (hv : Is c (NW (wd B Fs) 0 H) H' v d) :
    ∃ p xs, σ[i]? = some (some (.ref p)) ∧ H p = some (.lst xs) ∧ xs.length = ds.length ∧ Rel c M B (upd H' p (.lst (xs ++ [v]))) σ (ρ.set i (some (.lst (ds ++ [d])))) := by
  obtain ⟨p, xs, Gs, h1, hp, h3, eF, keep, put⟩ := R.lst hm e
  refine ⟨p, xs, h1, hp, h3.length.1, _, put H' (xs ++ [v]) (ds ++ [d]) (Gs ++ [[]]) hs ?_ ?_ ?_⟩
  · have sub : ∀ a, (wd B Fs).n a → (wd B (fset Fs i (p :: (Gs ++ [[]]).flatten))).n a := fun a x => ⟨fun l z => by
      by_cases hl : l = i
      · rw [hl, fset_self] at z
        exact x.1 i (by rw [eF]; simpa using z)
      · rw [fset_ne hl] at z; exact x.1 l z, x.2⟩
    refine (h3.imp fun v d G hG ho => keep H' _ _ v d G hs hG (fun a x _ => sub a x) ho).append (.cons ⟨rfl, ?_⟩ .nil)
    refine hv.track.mono (fun a x => sub a (x.1.elim (fun y => y) fun y => ⟨R.newNot y, R.old a y⟩)) fun a o x ea => ?_
    have hap : a ≠ p := by
      intro z
      subst z
      rcases x with x | x
      · rcases x.1 with y | y
        · exact y.1 i (by rw [eF]; simp)
        · rw [hp] at y; cases y
      · have := hs _ _ hp
        rw [this] at ea; cases ea; exact x
    rw [upd_ne hap]; exact ea
  · have nd := R.nd i
    rw [eF] at nd
    simpa using nd
  · intro a ha
    exact .inl (by simpa using ha)
theorem po_var {α : Type} {f : D → O α} {P : α → Prop} {E : Value → Prop} (h : Po ((eVar i ρ).bind f) P E) : ∃ d, ρ[i]? = some (some d) ∧ Po (f d) P E := by
  cases hr : eVar i ρ with
  | ok x => rw [hr] at h; exact ⟨x, eVar_ok hr, h⟩
  | bad => rw [hr] at h; exact h.elim
  | exc kx =>
    unfold eVar at hr
    cases hq : ρ[i]? with
    | none => rw [hq] at hr; cases hr
    | some o => cases o <;> (rw [hq] at hr; cases hr)
theorem po_lst {α : Type} {f : List D → O α} {P : α → Prop} {E : Value → Prop} (h : Po ((eVar i ρ).bind fun x => (lstD x).bind f) P E) : ∃ ds, ρ[i]? = some (some (.lst ds)) ∧ Po (f ds) P E := by
  obtain ⟨d, e, h⟩ := po_var h
  cases d with
  | lst l => exact ⟨l, e, h⟩
  | _ => exact h.elim
theorem vs_app {x : Str} {p2 apos cpos : Pos} (i : Nat) (h : VE X c M We 0 e f) (hm : M i = .o (.l .fz)) (hN : X.N[i]? = some x := by rfl) (hv : Vis X.env.scope x := by first | exact Or.inl rfl | exact Or.inr (Or.inl rfl) | exact Or.inr (Or.inr rfl)) (hd : (x == ("__debug__" : Str)) = false := by decide)
    (hcd : (x == ("__classdict__" : Str)) = false := by decide) (hbase : attributeBase (.Name x p2) "append" X.env (eval (.Name x p2) X.env) = eval (.Name x p2) X.env := by rfl)
    (hfew : ((backTo cpos (starEach (e :: []) X.env)).all (fun x => !x.1) && (backToKw cpos (keywordEach [] X.env)).all (fun x => x.1.isSome) && decide ((e :: []).length + ([] : List Keyword).length + (if ([] : List Keyword).isEmpty then 0 else 1) < 30)) = true := by rfl)
    (hline : (apos.endLine == cpos.line) = true := by rfl) (he : starEach (e :: []) X.env = (false, eval e X.env) :: starEach [] X.env := by rfl) (hpl : (backTo cpos (starEach [] X.env)).any (·.1) = false := by rfl)
    (hs : swapsWith (.Call (.Attribute (.Name x p2) "append" apos) [e] [] cpos) none pos.line X.env = pure false := by rfl) :
    VSt X c We rs Ml M M (.Expr (.Call (.Attribute (.Name x p2) "append" apos) [e] [] cpos) pos) (sApp i f) := by
  obtain ⟨te, p, s⟩ := h.ex
  refine ⟨_, ps_expr (pe_bm PySem.F.plainAttrs_list PySem.F.slot_list_append PySem.F.type_list_append mt_append (pv i hN hv hd hcd) (pa_cons p pa_nil he) hbase hfew hline he hpl) hs, fun B σ H ρ D R po => ?_⟩
  obtain ⟨Fs, R⟩ := R
  obtain ⟨ds, er, po⟩ := po_lst po
  obtain ⟨v0, e1, hsat⟩ := R.sl i _ er
  rw [hm] at hsat
  obtain ⟨p0, xs, ds', Gs, rfl, ed, hp, h3, eF⟩ := hsat
  cases ed
  refine ⟨_, e1, .inl ⟨rfl, xs, .of hp⟩, s _ σ H ρ _ R.slots ((Po.exc_up R (Po.bind po)).imp (fun d _ q v H' hs hi => ?_) fun _ _ q => q)⟩
  obtain ⟨hz, q⟩ := Po.gd q
  obtain ⟨p', xs', e1', hp', hl', R'⟩ := R.app hm er hs hi
  rw [e1] at e1'
  cases e1'
  rw [hp] at hp'
  cases hp'
  exact ⟨p0, xs, v, rfl, rfl, hs _ _ hp, Nat.lt_of_lt_of_le (by rw [hl']; exact of_decide_eq_true hz) (by decide : 100000 ≤ sizeLine), q _ _ R'⟩
/-- x.append(y), both its own: y goes into x -/
theorem vs_appV {x y : Str} {p2 p3 apos cpos : Pos} (i j : Nat) (s : Sh) (hm : M i = .o (.l s)) (hmj : M j = .o s) (hN : X.N[i]? = some x := by rfl) (hv : Vis X.env.scope x := by first | exact Or.inl rfl | exact Or.inr (Or.inl rfl) | exact Or.inr (Or.inr rfl)) (hd : (x == ("__debug__" : Str)) = false := by decide)
    (hcd : (x == ("__classdict__" : Str)) = false := by decide) (hNj : X.N[j]? = some y := by rfl) (hvj : Vis X.env.scope y := by first | exact Or.inl rfl | exact Or.inr (Or.inl rfl) | exact Or.inr (Or.inr rfl)) (hdj : (y == ("__debug__" : Str)) = false := by decide)
    (hcdj : (y == ("__classdict__" : Str)) = false := by decide) (hbase : attributeBase (.Name x p2) "append" X.env (eval (.Name x p2) X.env) = eval (.Name x p2) X.env := by rfl)
    (hfew : ((backTo cpos (starEach (.Name y p3 :: []) X.env)).all (fun x => !x.1) && (backToKw cpos (keywordEach [] X.env)).all (fun x => x.1.isSome) && decide ((Expr.Name y p3 :: []).length + ([] : List Keyword).length + (if ([] : List Keyword).isEmpty then 0 else 1) < 30)) = true := by rfl)
    (hline : (apos.endLine == cpos.line) = true := by rfl) (he : starEach (.Name y p3 :: []) X.env = (false, eval (.Name y p3) X.env) :: starEach [] X.env := by rfl) (hpl : (backTo cpos (starEach [] X.env)).any (·.1) = false := by rfl)
    (hs : swapsWith (.Call (.Attribute (.Name x p2) "append" apos) [.Name y p3] [] cpos) none pos.line X.env = pure false := by rfl) :
    VSt X c We rs Ml M M (.Expr (.Call (.Attribute (.Name x p2) "append" apos) [.Name y p3] [] cpos) pos) (sAppV i j) := by
  refine ⟨_, ps_expr (pe_bm PySem.F.plainAttrs_list PySem.F.slot_list_append PySem.F.type_list_append mt_append (pv i hN hv hd hcd) (pa_cons (pv j hNj hvj hdj hcdj) pa_nil he) hbase hfew hline he hpl) hs, fun B σ H ρ D R po => ?_⟩
  obtain ⟨Fs, R⟩ := R
  obtain ⟨ds, er, po⟩ := po_lst po
  obtain ⟨d, erj, po⟩ := po_var po
  obtain ⟨hz, po⟩ := Po.gd po
  rw [Bool.and_eq_true, decide_eq_true_eq, decide_eq_true_eq] at hz
  obtain ⟨hz, hij⟩ := hz
  obtain ⟨v, e2, hj⟩ := R.sl j d erj
  rw [hmj] at hj
  have hjl : j < ρ.length := (List.getElem?_eq_some_iff.mp erj).1
  -- j gives its objects away
  obtain ⟨p, xs, Gs, h1, hp, h3, eF, keep, put⟩ := R.lst hm er
  have nx : ∀ a ∈ Fs j, a ≠ p := fun a ha z => hij (R.dj i j p (by rw [eF]; simp) (by rw [← z]; exact ha))
  have eF' : (p :: (Gs ++ [Fs j]).flatten) = Fs i ++ Fs j := by rw [eF]; simp
  have m3 : ∀ l a, a ∈ fset (fset Fs i (Fs i ++ Fs j)) j [] l → (l = i ∧ i ≠ j ∧ (a ∈ Fs i ∨ a ∈ Fs j)) ∨ (l ≠ i ∧ l ≠ j ∧ a ∈ Fs l) := fun l a z => by
    by_cases hl : l = j
    · rw [hl, fset_self] at z; simp at z
    · rw [fset_ne hl] at z
      by_cases hl' : l = i
      · rw [hl', fset_self] at z; exact .inl ⟨hl', hij, List.mem_append.mp z⟩
      · rw [fset_ne hl'] at z; exact .inr ⟨hl', hl, z⟩
  have m4 : ∀ l a, a ∈ fset (fset Fs i (Fs i ++ Fs j)) j [] l → ∃ l', a ∈ Fs l' := fun l a z => by
    rcases m3 l a z with ⟨_, _, y | y⟩ | ⟨_, _, y⟩
    · exact ⟨i, y⟩
    · exact ⟨j, y⟩
    · exact ⟨l, y⟩
  have sub : ∀ al a, (wd B Fs).at al a → (wd B (fset (fset Fs i (Fs i ++ Fs j)) j [])).at al a := fun al a x => match al, x with
    | 0, x => ⟨fun l z => let ⟨l', y⟩ := m4 l a z; x.1 l' y, x.2⟩
    | 1, x => fun l z => let ⟨l', y⟩ := m4 l a z; x l' y
    | _ + 2, x => trivial
  have R2 : RelF c M B (fset (fset Fs i (Fs i ++ Fs j)) j []) (upd H p (.lst (xs ++ [v]))) σ ((ρ.set j none).set i (some (.lst (ds ++ [d])))) := by
    refine ⟨fun l => ?_, fun l l' a ha hb => ?_, fun l a ha => ?_, fun q hq a o e hn => ?_, fun q hq l a ha => let ⟨l', y⟩ := m4 l a ha; R.out q hq l' a y, fun l s' hs' a ha => ?_, fun a e => ?_, fun l d' e => ?_, fun q hq => R.mp q hq, by simp [R.len]⟩
    · by_cases hl : l = j
      · rw [hl, fset_self]; simp
      · rw [fset_ne hl]
        by_cases hl' : l = i
        · rw [hl', fset_self]
          refine List.nodup_append.mpr ⟨R.nd i, R.nd j, fun a ha b hb e => ?_⟩
          exact hij (R.dj i j a ha (by rw [e]; exact hb))
        · rw [fset_ne hl']; exact R.nd l
    · rcases m3 l a ha with ⟨x1, x2, x3⟩ | ⟨x1, x2, x3⟩
      · rcases m3 l' a hb with ⟨y1, y2, y3⟩ | ⟨y1, y2, y3⟩
        · rw [x1, y1]
        · rcases x3 with x3 | x3
          · exact (y1 (R.dj l' i a y3 x3)).elim
          · exact (y2 (R.dj l' j a y3 x3)).elim
      · rcases m3 l' a hb with ⟨y1, y2, y3⟩ | ⟨y1, y2, y3⟩
        · rcases y3 with y3 | y3
          · exact (x1 (R.dj l i a x3 y3)).elim
          · exact (x2 (R.dj l j a x3 y3)).elim
        · exact R.dj l l' a x3 y3
    · by_cases hap : a = p
      · rw [hap, upd_same]; exact ⟨_, rfl, fun y => y⟩
      · rw [upd_ne hap]
        obtain ⟨l', y⟩ := m4 l a ha
        exact R.th l' a y
    · have hap : a ≠ p := fun z => by
        rcases R.out q hq i p (by rw [eF]; simp) with y | y
        · rw [z, y] at e; cases e
        · exact hn (by rw [z]; exact y)
      rw [upd_ne hap]; exact R.fr q hq a o e hn
    · rcases m3 l a ha with ⟨x1, x2, x3⟩ | ⟨x1, x2, x3⟩
      · rcases x3 with x3 | x3
        · exact R.own i _ hm a x3
        · exact R.own j _ hmj a x3
      · exact R.own l s' hs' a x3
    · by_cases hap : a = p
      · rw [hap, upd_same] at e; cases e
      · rw [upd_ne hap] at e; exact R.old a e
    · have hi : i < ρ.length := (List.getElem?_eq_some_iff.mp er).1
      by_cases hl' : l = i
      · rw [hl', List.getElem?_set_self (by simpa using hi)] at e
        cases e
        refine ⟨_, by rw [hl']; exact h1, ?_⟩
        rw [hl', hm, fset_ne hij, fset_self]
        refine ⟨p, xs ++ [v], ds ++ [d], Gs ++ [Fs j], rfl, rfl, upd_same, ?_, eF'.symm⟩
        refine (h3.imp fun v d G hG ho => keep H _ _ v d G (Same.refl H) hG (fun a x _ => sub 0 a x) ho).append (.cons ?_ .nil)
        refine Own.mono (fun a x => sub 0 a x) (fun a o x ea => ?_) hj
        have hap : a ≠ p := by
          intro z
          rcases x with x | x | x
          · exact x.1 i (by rw [eF, z]; simp)
          · exact nx a x z
          · rw [z, hp] at ea; cases ea; exact x
        rw [upd_ne hap]; exact ea
      · rw [List.getElem?_set_ne (Ne.symm hl')] at e
        by_cases hl : l = j
        · rw [hl, List.getElem?_set_self hjl] at e; cases e
        · rw [List.getElem?_set_ne (Ne.symm hl)] at e
          obtain ⟨v', q1, q2⟩ := R.sl l d' e
          refine ⟨v', q1, ?_⟩
          rw [fset_ne hl, fset_ne hl']
          refine q2.mono (fun al a _ x _ => sub al a x) fun a o x ea => ?_
          have hap : a ≠ p := by
            intro z
            rcases x with x | x | x
            · exact x i (by rw [eF, z]; simp)
            · exact hl' (R.dj l i a x (by rw [eF, z]; simp))
            · rw [z, hp] at ea; cases ea; exact x
          rw [upd_ne hap]; exact ea
  exact ⟨_, h1, .inl ⟨rfl, xs, .of hp⟩, _, e2, p, xs, v, rfl, rfl, hp, Nat.lt_of_lt_of_le (by rw [h3.length.1]; exact hz) (by decide : 100000 ≤ sizeLine), po _ _ ⟨_, R2⟩⟩
end
end VS
set_option Elab.async false
set_option linter.all false
set_option maxRecDepth 100000
set_option maxHeartbeats 2000000
/-! VG: loops, comprehensions, raise, a def's promise. -/
namespace VS
open PySem L2

/-- all that matters of H' stands in H'' -/
def Kp (W : Addr → Prop) (H' H'' : Hp) : Prop := ∀ a o, (W a ∨ sta o) → H' a = some o → H'' a = some o
/-- what is walked: at its i-th turn the i-th of ds -/
structure VI (X : Cx) (c : Ct) (M : Nat → Mo) (We : WX) (al : Nat) (tg it : Expr) (f : AF) : Prop where
  ex : ∃ wi, PI X tg it wi ∧ ∀ (w : Wd) (σ : L2.St) (H : Hp) (ρ : Rho) (R : It → Hp → Prop), Sl c M w H σ ρ →
    Po (f ρ) (fun ds => ∀ (J : It) (G : Hp → Prop) (Y : Nat → Hp → V → Hp → Prop) (H' : Hp), Same H H' → Walk J ds.length G Y → (∀ H'', Kp (NW w al H) H' H'' → G H'') →
      (∀ i Hi x Hi', i < ds.length → Kp (NW w al H) H' Hi → Y i Hi x Hi' → Same Hi Hi' ∧ ∃ d, ds[i]? = some d ∧ ∀ W' : Addr → Prop, (∀ a, NW w al H a → H' a ≠ none → W' a) → Is c W' Hi' x d) → R J H') (fun k => ∀ H', Same H H' → We k none σ H') → wi σ H R

def iSeq (f : EF) : AF := fun ρ => (f ρ).bind fun d => match d with
  | .lst l => .ok l
  | .tup l => .ok l
  | .str s => .ok (s.cps.toList.map fun ch => .str ⟨#[ch]⟩)
  | _ => .bad
def rngD (lo : Int) (n : Nat) : List D := (List.range n).map fun (i : Nat) => D.int (lo + (i : Int))
def iRg1 (f : EF) : AF := fun ρ => (f ρ).bind fun d => match d with
  | .int n => gd (decide (-(2 ^ 62) ≤ n) && decide (n < 2 ^ 62)) (.ok (rngD 0 n.toNat))
  | _ => .bad
def pairsD (xs ys : List D) : List D := List.zipWith (fun x y => .tup [x, y]) xs ys
def iZp (f g : EF) : AF := fun ρ => (f ρ).bind fun x => (lstD x).bind fun xs => (g ρ).bind fun y => (lstD y).bind fun ys => .ok (pairsD xs ys)
def iEn (f : EF) : AF := fun ρ => (f ρ).bind fun x => (lstD x).bind fun xs => .ok (pairsD (rngD 0 xs.length) xs)

section
variable {c : Ct} {M M' M1 Ml : Nat → Mo} {B : Bs} {H H' : Hp} {σ : L2.St} {ρ : Rho} {X : Cx} {We : WX} {k al al' i j : Nat} {rs : Sh} {st : Stmt} {sts : List Stmt} {e e2 tg it : Expr} {f f2 : EF} {g g' : SF} {t : TF} {fi : AF} {pos : Pos}
theorem PI.or {w1 w2 : TI} (h1 : PI X tg it w1) (h2 : PI X tg it w2) : PI X tg it (fun σ H R => w1 σ H R ∨ w2 σ H R) := ⟨fun pins s σ H R I h => h.elim (h1.run pins s σ H R I) (h2.run pins s σ H R I)⟩
theorem kp_item {W : Addr → Prop} {v : V} {d : D} {Hi : Hp} (h : Is c W H' v d) (hk : Kp W H' Hi) (W' : Addr → Prop) (hw : ∀ a, W a → H' a ≠ none → W' a) : Is c W' Hi v d := h.track.mono (fun a x => hw a x.1 x.2) fun a o x e => hk a o (x.elim (fun y => .inl y.1) .inr) e
theorem sq_list {W : Addr → Prop} {a : Addr} {xs : List V} {ds : List D} (h : Is c W H' (.ref a) (.lst ds)) : ∃ xs, IsA c W H' xs ds ∧ SqL c.K H' a xs ∧ ∀ H'', Kp W H' H'' → SqL c.K H'' a xs := by
  cases h with
  | lst h1 h2 h3 =>
    refine ⟨_, h3, .inl h2, fun H'' hk => ?_⟩
    rcases h2 with h2 | ⟨o, h2⟩
    · exact .inl (.inl (hk _ _ (.inl h1) h2))
    · exact .inl (.inr ⟨o, hk _ _ (.inl h1) h2⟩)
  | lstK h2 h3 => exact ⟨_, h3, .inr h2, fun _ _ => .inr h2⟩
theorem vi_seq (z : Cz X c We k) (h : VE X c M We al e f) : VI X c M We al tg e (iSeq f) := by
  obtain ⟨te, p, s⟩ := h.ex
  refine ⟨_, PI.or (pi_list p) (PI.or (pi_tup p) (pi_str p)), fun w σ H ρ R sl po => ?_⟩
  have po := Po.bind po
  by_cases hl : ∃ l, f ρ = .ok (.lst l)
  · obtain ⟨l, hl⟩ := hl
    refine .inl (s w σ H ρ _ sl (po.imp (fun d ed q v H' hs hi => ?_) fun _ _ q => q))
    rw [hl] at ed
    cases ed
    obtain ⟨a, xs0, rfl, _, _⟩ := is_lst hi
    obtain ⟨xs, h1, h2, h3⟩ := sq_list (xs := xs0) hi
    have q : ∀ (J : It) (G : Hp → Prop) (Y : Nat → Hp → V → Hp → Prop) (H' : Hp), Same H H' → Walk J l.length G Y → (∀ H'', Kp (NW w al H) H' H'' → G H'') → (∀ i Hi x Hi', i < l.length → Kp (NW w al H) H' Hi → Y i Hi x Hi' → Same Hi Hi' ∧ ∃ d, l[i]? = some d ∧ ∀ W' : Addr → Prop, (∀ a, NW w al H a → H' a ≠ none → W' a) → Is c W' Hi' x d) → R J H' := q
    refine ⟨a, rfl, ⟨xs, by rw [z.K]; exact h2⟩, q _ (fun H => SqL X.K H a xs) (YAt xs) H' hs (by rw [← h1.length]; exact walk_list) (fun H'' hk => by rw [z.K]; exact h3 H'' hk) fun i Hi x Hi' hi hk hy => ?_⟩
    obtain ⟨rfl, hx⟩ := hy
    obtain ⟨d, e1, e2⟩ := h1.get hx
    exact ⟨Same.refl _, d, e1, fun W' hw => kp_item e2 hk W' hw⟩
  · by_cases ht : ∃ l, f ρ = .ok (.tup l)
    · obtain ⟨l, ht⟩ := ht
      refine .inr (.inl (s w σ H ρ _ sl (po.imp (fun d ed q v H' hs hi => ?_) fun _ _ q => q)))
      rw [ht] at ed
      cases ed
      obtain ⟨a, xs, rfl, h2, h1⟩ := is_tup hi
      have q : ∀ (J : It) (G : Hp → Prop) (Y : Nat → Hp → V → Hp → Prop) (H' : Hp), Same H H' → Walk J l.length G Y → (∀ H'', Kp (NW w al H) H' H'' → G H'') → (∀ i Hi x Hi', i < l.length → Kp (NW w al H) H' Hi → Y i Hi x Hi' → Same Hi Hi' ∧ ∃ d, l[i]? = some d ∧ ∀ W' : Addr → Prop, (∀ a, NW w al H a → H' a ≠ none → W' a) → Is c W' Hi' x d) → R J H' := q
      refine ⟨a, rfl, ⟨xs, .of h2⟩, q _ (fun H => SqT X.K H a xs) (YAt xs) H' hs (by rw [← h1.length]; exact walk_tup) (fun H'' hk => .of (hk _ _ (.inr trivial) h2)) fun i Hi x Hi' hi hk hy => ?_⟩
      obtain ⟨rfl, hx⟩ := hy
      obtain ⟨d, e1, e2⟩ := h1.get hx
      exact ⟨Same.refl _, d, e1, fun W' hw => kp_item e2 hk W' hw⟩
    · refine .inr (.inr (s w σ H ρ _ sl (po.imp (fun d ed q v H' hs hi => ?_) fun _ _ q => q)))
      cases d with
      | lst l => exact (hl ⟨l, ed⟩).elim
      | tup l => exact (ht ⟨l, ed⟩).elim
      | str x =>
        rw [is_str hi]
        have q : ∀ (J : It) (G : Hp → Prop) (Y : Nat → Hp → V → Hp → Prop) (H' : Hp), Same H H' → Walk J (x.cps.toList.map fun ch => D.str ⟨#[ch]⟩).length G Y → (∀ H'', Kp (NW w al H) H' H'' → G H'') → (∀ i Hi y Hi', i < (x.cps.toList.map fun ch => D.str ⟨#[ch]⟩).length → Kp (NW w al H) H' Hi → Y i Hi y Hi' → Same Hi Hi' ∧ ∃ d, (x.cps.toList.map fun ch => D.str ⟨#[ch]⟩)[i]? = some d ∧ ∀ W' : Addr → Prop, (∀ a, NW w al H a → H' a ≠ none → W' a) → Is c W' Hi' y d) → R J H' := q
        refine ⟨x, rfl, q _ _ _ H' hs (by rw [List.length_map, Array.length_toList]; exact walk_str) (fun _ _ => trivial) fun i Hi y Hi' hi hk hy => ?_⟩
        obtain ⟨rfl, ch, e1, rfl⟩ := hy
        exact ⟨Same.refl _, .str ⟨#[ch]⟩, by rw [List.getElem?_map, Array.getElem?_toList, e1]; rfl, fun W' _ => .str _⟩
      | _ => exact q.elim

theorem rng_len (lo : Int) (n : Nat) : (rngD lo n).length = n := by simp [rngD]
theorem rng_get {lo : Int} {n i : Nat} (h : i < n) : (rngD lo n)[i]? = some (.int (lo + (i : Int))) := by simp [rngD, h]
theorem vi_range1 {p pos : Pos} (h : VE X c M We al e f) (hg : Gl X "range") (hm : X.mg "range" = none) (hs : starEach [e] X.env = [(false, eval e X.env)] := by rfl) (hs1 : starEach [e] X.env = (false, eval e X.env) :: starEach [] X.env := by rfl) :
    VI X c M We 0 tg (.Call (.Name "range" p) [e] [] pos) (iRg1 f) := by
  obtain ⟨te, pp, s⟩ := h.ex
  refine ⟨_, pi_range1 hg hm (pa_cons pp pa_nil hs1) hs, fun w σ H ρ R sl po => s w σ H ρ _ sl ((Po.bind po).imp (fun d _ q v H' hs hi => ?_) fun _ _ q => q)⟩
  cases d with
  | int n =>
    obtain ⟨hn, q⟩ := Po.gd q
    rw [Bool.and_eq_true, decide_eq_true_eq, decide_eq_true_eq] at hn
    have q : ∀ (J : It) (G : Hp → Prop) (Y : Nat → Hp → V → Hp → Prop) (H' : Hp), Same H H' → Walk J (rngD 0 n.toNat).length G Y → (∀ H'', Kp (NW w 0 H) H' H'' → G H'') → (∀ i Hi x Hi', i < (rngD 0 n.toNat).length → Kp (NW w 0 H) H' Hi → Y i Hi x Hi' → Same Hi Hi' ∧ ∃ d, (rngD 0 n.toNat)[i]? = some d ∧ ∀ W' : Addr → Prop, (∀ a, NW w 0 H a → H' a ≠ none → W' a) → Is c W' Hi' x d) → R J H' := q
    rw [is_int hi]
    refine ⟨n, rfl, hn.1, hn.2, q _ (fun _ => True) (YFn fun i => .int (0 + i)) H' hs (by rw [rng_len]; exact walk_range) (fun _ _ => trivial) fun i Hi x Hi' hi hk hy => ?_⟩
    obtain ⟨rfl, rfl⟩ := hy
    rw [rng_len] at hi
    exact ⟨Same.refl _, _, rng_get hi, fun W' _ => .int _⟩
  | _ => exact q.elim
theorem pairs_len (xs ys : List D) : (pairsD xs ys).length = min xs.length ys.length := by simp [pairsD]
theorem pairs_get {xs ys : List D} {i : Nat} {x y : D} (h : xs[i]? = some x) (h' : ys[i]? = some y) : (pairsD xs ys)[i]? = some (.tup [x, y]) := by simp [pairsD, List.getElem?_zipWith, h, h']
theorem vi_zip {p pos tpos : Pos} {elts : List Expr} {kk : Nat} (z : Cz X c We k) (h : VE X c M We al e f) (h2 : VE X c M We al e2 f2) (hg : Gl X "zip") (hm : X.mg "zip" = none) (hs : starEach [e, e2] X.env = (false, eval e X.env) :: starEach [e2] X.env := by rfl)
    (hs1 : starEach [e2] X.env = (false, eval e2 X.env) :: starEach [] X.env := by rfl) (hpl : (backTo pos (starEach [e2] X.env)).any (·.1) = false := by rfl) :
    VI X c M We al (.Tuple elts kk tpos) (.Call (.Name "zip" p) [e, e2] [] pos) (iZp f f2) := by
  obtain ⟨te, p1, s1⟩ := h.ex
  obtain ⟨te2, p2, s2⟩ := h2.ex
  refine ⟨_, pi_zip hg hm (pa_cons p1 (pa_cons p2 pa_nil hs1) hs) hs hpl, fun w σ H ρ R sl po => s1 w σ H ρ _ sl ((Po.bind po).imp (fun d _ q v H1 hs hi => ?_) fun _ _ q => q)⟩
  cases d with
  | lst l =>
    refine s2 w σ H1 ρ _ (sl.same hs) ((Po.bind (r := f2 ρ) q).imp (fun d2 _ q v2 H2 hs2 hi2 => ?_) fun _ _ q H2 hs2 => q H2 (hs.trans hs2))
    cases d2 with
    | lst l2 =>
      have q : ∀ (J : It) (G : Hp → Prop) (Y : Nat → Hp → V → Hp → Prop) (H' : Hp), Same H H' → Walk J (pairsD l l2).length G Y → (∀ H'', Kp (NW w al H) H' H'' → G H'') → (∀ i Hi x Hi', i < (pairsD l l2).length → Kp (NW w al H) H' Hi → Y i Hi x Hi' → Same Hi Hi' ∧ ∃ d, (pairsD l l2)[i]? = some d ∧ ∀ W' : Addr → Prop, (∀ a, NW w al H a → H' a ≠ none → W' a) → Is c W' Hi' x d) → R J H' := q
      have hi' := hi.same hs2
      have hi2' := hi2.up (NW.back hs)
      obtain ⟨a, xa, rfl, _, _⟩ := is_lst hi'
      obtain ⟨b, xb, rfl, _, _⟩ := is_lst hi2'
      obtain ⟨xs, a1, a2, a3⟩ := sq_list (xs := xa) hi'
      obtain ⟨ys, b1, b2, b3⟩ := sq_list (xs := xb) hi2'
      refine ⟨a, b, xs, ys, rfl, by rw [z.K]; exact a2, by rw [z.K]; exact b2, q _ (fun H => SqL X.K H a xs ∧ SqL X.K H b ys) _ H2 (hs.trans hs2) (walk_zip (by rw [pairs_len, a1.length, b1.length])) (fun H'' hk => by rw [z.K]; exact ⟨a3 _ hk, b3 _ hk⟩) fun i Hi x Hi' hi hk hy => ?_⟩
      obtain ⟨T, x1, y1, rfl, hT, rfl, e1, e2⟩ := hy
      obtain ⟨dx, f1, g1⟩ := a1.get e1
      obtain ⟨dy, f2, g2⟩ := b1.get e2
      have st : Same Hi (upd Hi T (.tup [x1, y1])) := same_new (Same.refl Hi) hT
      exact ⟨st, _, pairs_get f1 f2, fun W' hw => .tup upd_same (.cons ((kp_item g1 hk W' hw).same st) (.cons ((kp_item g2 hk W' hw).same st) .nil))⟩
    | _ => exact q.elim
  | _ => exact q.elim
theorem vi_enum {p pos tpos : Pos} {elts : List Expr} {kk : Nat} (z : Cz X c We k) (h : VE X c M We al e f) (hg : Gl X "enumerate") (hm : X.mg "enumerate" = none) (hs : starEach [e] X.env = [(false, eval e X.env)] := by rfl) (hs1 : starEach [e] X.env = (false, eval e X.env) :: starEach [] X.env := by rfl) :
    VI X c M We al (.Tuple elts kk tpos) (.Call (.Name "enumerate" p) [e] [] pos) (iEn f) := by
  obtain ⟨te, p1, s1⟩ := h.ex
  refine ⟨_, pi_enum hg hm (pa_cons p1 pa_nil hs1) hs, fun w σ H ρ R sl po => s1 w σ H ρ _ sl ((Po.bind po).imp (fun d _ q v H1 hs hi => ?_) fun _ _ q => q)⟩
  cases d with
  | lst l =>
    have q : ∀ (J : It) (G : Hp → Prop) (Y : Nat → Hp → V → Hp → Prop) (H' : Hp), Same H H' → Walk J (pairsD (rngD 0 l.length) l).length G Y → (∀ H'', Kp (NW w al H) H' H'' → G H'') → (∀ i Hi x Hi', i < (pairsD (rngD 0 l.length) l).length → Kp (NW w al H) H' Hi → Y i Hi x Hi' → Same Hi Hi' ∧ ∃ d, (pairsD (rngD 0 l.length) l)[i]? = some d ∧ ∀ W' : Addr → Prop, (∀ a, NW w al H a → H' a ≠ none → W' a) → Is c W' Hi' x d) → R J H' := q
    obtain ⟨a, xa, rfl, _, _⟩ := is_lst hi
    obtain ⟨xs, a1, a2, a3⟩ := sq_list (xs := xa) hi
    have hln : (pairsD (rngD 0 l.length) l).length = xs.length := by rw [pairs_len, rng_len, Nat.min_self, a1.length]
    refine ⟨a, xs, rfl, by rw [z.K]; exact a2, q _ (fun H => SqL X.K H a xs) _ H1 hs (by rw [hln]; exact walk_enum) (fun H'' hk => by rw [z.K]; exact a3 _ hk) fun i Hi x Hi' hi hk hy => ?_⟩
    obtain ⟨T, x1, y1, rfl, hT, rfl, e1, e2⟩ := hy
    cases e1
    obtain ⟨dy, f2, g2⟩ := a1.get e2
    have st : Same Hi (upd Hi T (.tup [.int (i : Nat), y1])) := same_new (Same.refl Hi) hT
    have hil : i < l.length := (List.getElem?_eq_some_iff.mp f2).1
    have e0 : (0 : Int) + (i : Int) = ((i : Nat) : Int) := Int.zero_add _
    exact ⟨st, _, pairs_get (rng_get hil) f2, fun W' hw => .tup upd_same (.cons (by rw [e0]; exact .int _) (.cons ((kp_item g2 hk W' hw).same st) .nil))⟩
  | _ => exact q.elim

/-! ### targets -/
structure VG (X : Cx) (c : Ct) (M : Nat → Mo) (al : Nat) (tg : Expr) (h : D → Rho → O Rho) : Prop where
  ex : ∃ g, PG X tg g ∧ ∀ (B : Bs) (Fs : Nat → List Addr) (H : Hp) (σ : L2.St) (ρ : Rho) (v : V) (d : D) (Q : L2.St → Hp → Prop), RelF c M B Fs H σ ρ → Is c ((wd B Fs).at al) H v d → Po (h d ρ) (fun ρ' => ∀ σ', Rel c M B H σ' ρ' → Q σ' H) (fun _ => True) → g v σ H Q
def gN (i : Nat) (d : D) (ρ : Rho) : O Rho := gd (decide (i < ρ.length)) (.ok (ρ.set i (some d)))
def gP (i j : Nat) (d : D) (ρ : Rho) : O Rho := match d with
  | .tup [x, y] => gd (decide (i < ρ.length) && decide (j < ρ.length)) (.ok ((ρ.set i (some x)).set j (some y)))
  | _ => .bad
theorem gN_ne {d : D} {kx : Value} : gN i d ρ ≠ .exc kx := by unfold gN gd; cases decide (i < ρ.length) <;> simp
theorem vg_name {x : Str} (i : Nat) (hm : M i = .v al') (hal : al' ≤ 1) (hle : al ≤ al') (hN : X.N.Nodup) (hi : X.N[i]? = some x := by rfl) (hx : Loc X.env.scope x := by first | exact .inl rfl | exact .inr rfl) (hf : X.fn x = true ∨ X.env.scope.names.lookup x = some .local := by first | exact .inl rfl | exact .inr rfl) : VG X c M al (.Name x pos) (gN i) := by
  refine ⟨_, pg_name (i := i) hN hi hx hf, fun B Fs H σ ρ v d Q R hv po => ?_⟩
  obtain ⟨hl, q⟩ := Po.gd po
  exact q _ (R.setV hm hal (of_decide_eq_true hl) (hv.up fun a x => .inl ((wd B Fs).up hle a x)) (Same.refl H))
theorem vg_pair {x y : Str} {kk : Nat} {p1 p2 : Pos} {aj : Nat} (i j : Nat) (z : Cz X c We k) (hm : M i = .v al') (hmj : M j = .v aj) (hal : al' ≤ 1) (hle : al ≤ al') (haj : aj ≤ 1) (hlj : al ≤ aj) (hN : X.N.Nodup) (hi : X.N[i]? = some x := by rfl) (hx : Loc X.env.scope x := by first | exact .inl rfl | exact .inr rfl) (hf : X.fn x = true ∨ X.env.scope.names.lookup x = some .local := by first | exact .inl rfl | exact .inr rfl)
    (hj : X.N[j]? = some y := by rfl) (hy : Loc X.env.scope y := by exact .inl rfl) (hfy : X.fn y = true ∨ X.env.scope.names.lookup y = some .local := by first | exact .inl rfl | exact .inr rfl) : VG X c M al (.Tuple [.Name x p1, .Name y p2] kk pos) (gP i j) := by
  refine ⟨_, pg_tup (n := 2) z.calm (pgs_cons (pg_name (i := i) hN hi hx hf) (pgs_cons (pg_name (i := j) hN hj hy hfy) pgs_nil)), fun B Fs H σ ρ v d Q R hv po => ?_⟩
  unfold gP at po
  split at po
  · obtain ⟨hl, q⟩ := Po.gd po
    rw [Bool.and_eq_true, decide_eq_true_eq, decide_eq_true_eq] at hl
    obtain ⟨a, xs, rfl, h1, h2⟩ := is_tup hv
    cases h2 with
    | cons g1 t =>
      cases t with
      | cons g2 t =>
        cases t
        rename_i v1 v2
        refine ⟨a, [v1, v2], rfl, .of h1, rfl, v1, [v2], rfl, v2, [], rfl, rfl, ?_⟩
        have R1 := R.setVF hm hal hl.1 (g1.up fun a x => .inl ((wd B Fs).up hle a x)) (Same.refl H)
        exact q _ (R1.setV hmj haj (by simpa using hl.2) (g2.up fun a x => .inl (wd_drop aj a ((wd B Fs).up hlj a x))) (Same.refl H))
  · exact po.elim

/-! ### for, while -/
def sFor (fi : AF) (h : D → Rho → O Rho) (g : SF) : SF := fun ρ => (fi ρ).bind fun ds => go ds ρ
where go : List D → SF
  | [], ρ => .ok (.nx ρ)
  | d :: ds, ρ => (h d ρ).bind fun ρ1 => (g ρ1).bind fun out => match out with
    | .nx ρ2 => go ds ρ2
    | .ct ρ2 => go ds ρ2
    | .bk ρ2 => .ok (.nx ρ2)
    | .rt d ρ2 => .ok (.rt d ρ2)
    | .ex k ρ2 => .ok (.ex k ρ2)
def sWhile (t : TF) (g : SF) : Nat → SF
  | 0, _ => .bad
  | n + 1, ρ => (t ρ).bind fun b => if b = true then (g ρ).bind fun out => match out with
      | .nx ρ2 => sWhile t g n ρ2
      | .ct ρ2 => sWhile t g n ρ2
      | .bk ρ2 => .ok (.nx ρ2)
      | .rt d ρ2 => .ok (.rt d ρ2)
      | .ex k ρ2 => .ok (.ex k ρ2)
    else .ok (.nx ρ)
/-- what stands at a loop's start, kept beside -/
def Bs.more (B : Bs) (H : Hp) (Fs : Nat → List Addr) : Bs := { B with pr := (H, fun a => ∃ i, a ∈ Fs i) :: B.pr }
theorem RelF.more {Fs : Nat → List Addr} (R : RelF c M B Fs H σ ρ) : RelF c M (B.more H Fs) Fs H σ ρ :=
  ⟨R.nd, R.dj, R.th, fun p hp a o e hn => (List.mem_cons.mp hp).elim (fun z => by rw [z] at e; exact e) fun z => R.fr p z a o e hn,
    fun p hp i a ha => (List.mem_cons.mp hp).elim (fun z => by rw [z]; exact .inr ⟨i, ha⟩) fun z => R.out p z i a ha, R.own, R.old, R.sl, R.mp, R.len⟩
theorem RelF.less {Fs Fs0 : Nat → List Addr} {H0 : Hp} (R : RelF c M (B.more H0 Fs0) Fs H σ ρ) : RelF c M B Fs H σ ρ :=
  ⟨R.nd, R.dj, R.th, fun p hp => R.fr p (List.mem_cons_of_mem _ hp), fun p hp => R.out p (List.mem_cons_of_mem _ hp), R.own, R.old, R.sl, R.mp, R.len⟩
theorem vs_for {body : List Stmt} {h : D → Rho → O Rho} (z : Cz X c We k) (hi : VI X c M We al tg it fi) (hal : al ≤ 1) (hg : VG X c M al tg h) (hb : VSs X c We rs M M M body g) (hfs : ∀ x, foldedSetIterable it X.env x = pure x := by intro _; rfl) : VSt X c We rs Ml M M (.For tg it body [] pos) (sFor fi h g) := by
  obtain ⟨wi, p, s⟩ := hi.ex
  obtain ⟨gg, pg, sg⟩ := hg.ex
  obtain ⟨tb, pb, sb⟩ := hb.ex
  refine ⟨_, ps_for z.po z.calm p pg pb hfs, fun B σ H ρ D R po => ?_⟩
  obtain ⟨Fs, R⟩ := R
  refine s _ σ H ρ _ R.slots ((Po.exc_up R (Po.bind po)).imp (fun ds _ q J G Y H' hs wk hG hy => ?_) fun _ _ q => q)
  have R0 := (R.same hs).more
  -- what is kept of what is walked
  have kp : ∀ {Hi σi ρi} {Fi : Nat → List Addr}, RelF c M (B.more H' Fs) Fi Hi σi ρi → Kp (NW (wd B Fs) al H) H' Hi := fun {Hi σi ρi Fi} Ri a o x e => by
    refine Ri.fr (H', fun a => ∃ i, a ∈ Fs i) (List.mem_cons_self) a o e ?_
    rintro ⟨i, hm⟩
    rcases x with x | x
    · rcases x with x | x
      · exact (wd B Fs).up hal a x i hm
      · exact R.newNot x i hm
    · obtain ⟨o', e', n'⟩ := (R.same hs).th i a hm
      rw [e] at e'; cases e'; exact n' x
  have reg : ∀ {Hi σi ρi} {Fi : Nat → List Addr}, RelF c M (B.more H' Fs) Fi Hi σi ρi → ∀ a, NW (wd B Fs) al H a → H' a ≠ none → (wd B Fi).at al a := fun {Hi σi ρi Fi} Ri a x y => by
    have nin : ∀ i, a ∉ Fi i := fun i z => by
      rcases Ri.out (H', fun a => ∃ i, a ∈ Fs i) (List.mem_cons_self) i a z with e | ⟨l, e⟩
      · exact y e
      · rcases x with x | x
        · exact (wd B Fs).up hal a x l e
        · exact R.newNot x l e
    have h0 : al = 0 → B.H0 a = none := fun e => by
      subst e
      rcases x with x | x
      · exact x.2
      · exact R.old a x
    match al, hal, h0 with
    | 0, _, h0 => exact ⟨nin, h0 rfl⟩
    | 1, _, _ => exact nin
  refine for_it wk (fun i σ H => ∃ ρi, Rel c M (B.more H' Fs) H σ ρi ∧ PoS c Ml M B rs We (sFor.go h g (ds.drop i) ρi) D) ⟨ρ, ⟨Fs, R0⟩, by rw [List.drop_zero]; exact q⟩ (fun i σi Hi _ ⟨ρi, ⟨Fi, Ri⟩, _⟩ => hG Hi (kp Ri)) ?_ ?_
  · rintro i x σi Hi Hi' hlt ⟨ρi, ⟨Fi, Ri⟩, qi⟩ hY
    obtain ⟨st, d, ed, isd⟩ := hy i Hi x Hi' hlt (kp Ri) hY
    have ed2 : ds.drop i = d :: ds.drop (i + 1) := by
      obtain ⟨h1, h2⟩ := List.getElem?_eq_some_iff.mp ed
      rw [List.drop_eq_getElem_cons h1, h2]
    rw [ed2] at qi
    have Ri' := Ri.same st
    have qi := Po.bind qi
    refine sg _ Fi Hi' σi ρi x d _ Ri' (isd _ (reg Ri)) (qi.imp (fun ρ1 _ q1 σ2 R2 => ?_) fun _ _ _ => trivial)
    have q1 := Po.bind q1
    refine sb _ σ2 Hi' ρ1 _ R2 (q1.imp (fun out _ q2 => ?_) fun kx _ q2 σ' H' hf => q2 σ' H' fun p hp => hf p (List.mem_cons_of_mem _ hp))
    cases out with
    | nx ρ2 => exact fun σ' H' R' => ⟨ρ2, R', q2⟩
    | ct ρ2 => exact fun σ' H' R' => ⟨ρ2, R', q2⟩
    | bk ρ2 => exact fun σ' H' ⟨F', R'⟩ => q2 σ' H' ⟨F', R'.less⟩
    | rt d ρ2 => exact fun v H' ⟨M2, F2, σ2, F, R', n1, n2, n3⟩ => q2 v H' ⟨M2, F2, σ2, F, R'.less, n1, n2, n3⟩
    | ex k ρ2 => exact fun σ' H' M2 ⟨F', R'⟩ => q2 σ' H' M2 ⟨F', R'.less⟩
  · rintro σi Hi ⟨ρi, ⟨Fi, Ri⟩, qi⟩
    rw [List.drop_length] at qi
    exact qi σi Hi ⟨Fi, Ri.less⟩
theorem vs_while {cnd : Expr} {body : List Stmt} (n : Nat) (z : Cz X c We k) (hc : VT X c M We cnd t) (hb : VSs X c We rs M M M body g) : VSt X c We rs Ml M M (.While cnd body [] pos) (sWhile t g n) := by
  obtain ⟨tt, p, s⟩ := hc.ex
  obtain ⟨tb, pb, sb⟩ := hb.ex
  refine ⟨_, ps_while z.po p pb, fun B σ H ρ D R po => ?_⟩
  refine ⟨fun m σ H => ∃ ρ, Rel c M B H σ ρ ∧ PoS c Ml M B rs We (sWhile t g m ρ) D, ⟨n, ρ, R, po⟩, ?_⟩
  rintro m σ H ⟨ρ, ⟨Fs, R⟩, q⟩
  cases m with
  | zero => exact q.elim
  | succ m =>
    refine s _ σ H ρ _ R.slots ((Po.exc_up R (Po.bind q)).imp (fun b _ q H' hs => ?_) fun _ _ q => q)
    cases b with
    | false => exact iteF (q σ H' ⟨Fs, R.same hs⟩)
    | true =>
      refine iteT ⟨fun σ' H' => ∃ ρ, Rel c M B H' σ' ρ ∧ PoS c Ml M B rs We (sWhile t g m ρ) D, fun σ' H' w => ⟨m, Nat.lt_succ_self m, w⟩, ?_⟩
      refine sb B σ H' ρ _ ⟨Fs, R.same hs⟩ ((Po.bind (r := g ρ) q).imp (fun out _ q2 => ?_) fun _ _ q => q)
      cases out with
      | nx ρ2 => exact fun σ' H' R' => ⟨ρ2, R', q2⟩
      | ct ρ2 => exact fun σ' H' R' => ⟨ρ2, R', q2⟩
      | bk ρ2 => exact q2
      | rt d ρ2 => exact q2
      | ex k ρ2 => exact q2
end
end VS
set_option Elab.async false
set_option linter.all false
set_option maxRecDepth 100000
set_option maxHeartbeats 2000000
/-! VH: comprehensions, raise, a def's promise by its body's meaning. -/
namespace VS
open PySem L2

abbrev W0 : WX := fun _ _ _ _ => False
structure VTs (X : Cx) (c : Ct) (M : Nat → Mo) (We : WX) (ifs : List Expr) (f : TF) : Prop where
  ex : ∃ tt, PTs X ifs tt ∧ ∀ (w : Wd) (σ : L2.St) (H : Hp) (ρ : Rho) (Q : Bool → Hp → Prop), Sl c M w H σ ρ →
    Po (f ρ) (fun b => ∀ H', Same H H' → Q b H') (fun k => ∀ H', Same H H' → We k none σ H') → tt σ H Q
def tTr : TF := fun _ => .ok true
/-- nothing is raised in a comprehension here -/
def noX {α : Type} : O α → O α
  | .exc _ => .bad
  | x => x
@[simp] theorem noX_ok {α : Type} (a : α) : noX (.ok a) = .ok a := rfl
@[simp] theorem noX_bad {α : Type} : noX (.bad : O α) = .bad := rfl
theorem Po.noX {α : Type} {r : O α} {P : α → Prop} {E E' : Value → Prop} (h : Po (noX r) P E) : Po r P E' := by
  cases r with
  | ok a => exact h
  | bad => exact h
  | exc k => exact h.elim
def cGo (i : Nat) (t : TF) (f : EF) : List D → Rho → O (List D)
  | [], _ => .ok []
  | d :: ds, ρ => (noX (t (ρ.set i (some d)))).bind fun b => if b = true then (noX (f (ρ.set i (some d)))).bind fun x => (cGo i t f ds ρ).bind fun xs => .ok (x :: xs) else cGo i t f ds ρ
def eLc (fi : AF) (i : Nat) (t : TF) (f : EF) : EF := fun ρ => (fi ρ).bind fun ds => gd (decide (i < ρ.length) && decide (ds.length ≤ 100000)) ((cGo i t f ds ρ).bind fun l => .ok (.lst l))

section
variable {c : Ct} {M M' M1 Ml : Nat → Mo} {B : Bs} {H H' : Hp} {σ : L2.St} {ρ : Rho} {X : Cx} {We : WX} {k al al' i j : Nat} {rs : Sh} {st : Stmt} {sts : List Stmt} {e e2 tg it : Expr} {f f2 : EF} {g g' : SF} {t : TF} {fi : AF} {pos : Pos}
theorem vts_nil : VTs X c M We [] tTr := ⟨_, pts_nil, fun w σ H ρ Q sl po => po H (Same.refl H)⟩
theorem vts_one (h : VT X c M We e t) : VTs X c M We [e] t := by
  obtain ⟨tt, p, s⟩ := h.ex
  exact ⟨tt, pts_one p, s⟩
/-- the context of a comprehension's block -/
theorem Cz.blk (z : Cz X c We k) {s : Shared} {H : Hp} {scope : Scope} {C : Addr} {cl : List (Str × Addr)} {fp : List Addr} : Cz (X.blk s H scope (compEnvC scope cl C X.env) fp) c W0 k :=
  ⟨z.K, z.calm, takes0N, z.hr, PassesOwn.never⟩
theorem Po.noexc {α : Type} {r : O α} {P : α → Prop} {E E' : Value → Prop} (h : Po r P E) (n : ∀ k, r ≠ .exc k) : Po r P E' := h.imp (fun _ _ q => q) fun k e _ => (n k e).elim
theorem wipe1 (σ : L2.St) (i : Nat) : wipe σ [i] = σ.set i none := rfl
/-- a comprehension of one for, its name alone: how it is read -/
theorem lc_read {x : Str} {elt : Expr} {ifs : List Expr} {scope : Scope} {s : Sh} {p2 : Pos} (i : Nat) (z : Cz X c We k) (hN : X.N.Nodup) (hi : VI X c M We al (.Name x p2) it fi) (ok : BlkOk X.N X.env.scope scope [(x, i)])
    (hg : ∀ (s : Shared) (H : Hp) (C : Addr) (cl : List (Str × Addr)) (fp : List Addr), PG (X.blk s H scope (compEnvC scope cl C X.env) fp) (.Name x p2) (gName i))
    (ht : ∀ (s : Shared) (H : Hp) (C : Addr) (cl : List (Str × Addr)) (fp : List Addr), VTs (X.blk s H scope (compEnvC scope cl C X.env) fp) c (fset M i (.v al)) W0 ifs t)
    (he : ∀ (s' : Shared) (H : Hp) (C : Addr) (cl : List (Str × Addr)) (fp : List Addr), VO (X.blk s' H scope (compEnvC scope cl C X.env) fp) c (fset M i (.v al)) W0 s elt f)
    : ∃ (wi : TI) (tt : TT) (te : TE), PI X (.Name x p2) it wi ∧ (∀ (s : Shared) (H : Hp) (C : Addr) (cl : List (Str × Addr)) (fp : List Addr), PTs (X.blk s H scope (compEnvC scope cl C X.env) fp) ifs tt) ∧ (∀ (s : Shared) (H : Hp) (C : Addr) (cl : List (Str × Addr)) (fp : List Addr), PE (X.blk s H scope (compEnvC scope cl C X.env) fp) elt te) ∧
      ∀ (w : Wd) (σ : L2.St) (H : Hp) (ρ : Rho) (Q : VK), Sl c M w H σ ρ → Po (eLc fi i t f ρ) (fun d => ∀ v H' F, Same H H' → (∀ a ∈ F, H a = none) → F.Nodup → Own c (fun a => NW w 0 H a ∧ a ∉ F) H' (.l s) v d F → Q v H') (fun k => ∀ H', Same H H' → We k none σ H') → tLc wi (gName i) tt te [i] σ H Q := by
  obtain ⟨wi, p, s1⟩ := hi.ex
  -- one reading for all contexts
  obtain ⟨tt, ptt, stt⟩ : ∃ tt : TT, (∀ (s : Shared) (H : Hp) (C : Addr) (cl : List (Str × Addr)) (fp : List Addr), PTs (X.blk s H scope (compEnvC scope cl C X.env) fp) ifs tt) ∧ ∀ (w : Wd) (σ : L2.St) (H : Hp) (ρ : Rho) (Q : Bool → Hp → Prop), Sl c (fset M i (.v al)) w H σ ρ →
      Po (t ρ) (fun b => ∀ H', Same H H' → Q b H') (fun k => ∀ H', Same H H' → W0 k none σ H') → tt σ H Q :=
    ⟨fun σ H Q => ∀ (s : Shared) (H' : Hp) (C : Addr) (cl : List (Str × Addr)) (fp : List Addr), (ht s H' C cl fp).ex.choose σ H Q, fun s H' C cl fp => ⟨fun pins s' σ H Q I h => (ht s H' C cl fp).ex.choose_spec.1.run pins s' σ H Q I (h s H' C cl fp)⟩,
      fun w σ H ρ Q sl po s H' C cl fp => (ht s H' C cl fp).ex.choose_spec.2 w σ H ρ Q sl po⟩
  obtain ⟨te, pte, ste⟩ : ∃ te : TE, (∀ (s : Shared) (H : Hp) (C : Addr) (cl : List (Str × Addr)) (fp : List Addr), PE (X.blk s H scope (compEnvC scope cl C X.env) fp) elt te) ∧ ∀ (w : Wd) (σ : L2.St) (H : Hp) (ρ : Rho) (Q : VK), Sl c (fset M i (.v al)) w H σ ρ →
      Po (f ρ) (fun d => ∀ v H' F, Same H H' → (∀ a ∈ F, H a = none) → F.Nodup → Own c (fun a => NW w 0 H a ∧ a ∉ F) H' s v d F → Q v H') (fun k => ∀ H', Same H H' → W0 k none σ H') → te σ H Q :=
    ⟨fun σ H Q => ∀ (s : Shared) (H' : Hp) (C : Addr) (cl : List (Str × Addr)) (fp : List Addr), (he s H' C cl fp).ex.choose σ H Q, fun s H' C cl fp => ⟨fun pins s' σ H Q I h => (he s H' C cl fp).ex.choose_spec.1.run pins s' σ H Q I (h s H' C cl fp)⟩,
      fun w σ H ρ Q sl po s H' C cl fp => (he s H' C cl fp).ex.choose_spec.2 w σ H ρ Q sl po⟩
  refine ⟨wi, tt, te, p, ptt, pte, fun w σ H ρ Q sl po => s1 w σ H ρ _ sl ((Po.bind po).imp (fun ds _ q J G Y H1 hs wk hG hy => ?_) fun _ _ q => q)⟩
  intro Dl hD
  have hDH : H Dl = none := hs.free hD
  obtain ⟨hb, q⟩ := Po.gd q
  rw [Bool.and_eq_true, decide_eq_true_eq, decide_eq_true_eq] at hb
  obtain ⟨hil, hdl⟩ := hb
  have q := Po.bind q
  refine lc_it wk (fun n H' => ∃ acc done Gs, H' Dl = some (.lst acc) ∧ Same H1 H' ∧ P3 (Own c (fun a => NW w 0 H a ∧ a ≠ Dl ∧ a ∉ Gs.flatten) H' s) acc done Gs ∧ Gs.flatten.Nodup ∧ (∀ a ∈ Gs.flatten, H1 a = none ∧ a ≠ Dl) ∧ done.length ≤ n ∧
      Po (cGo i t f (ds.drop n) ρ) (fun rest => ∀ v H' F, Same H H' → (∀ a ∈ F, H a = none) → F.Nodup → Own c (fun a => NW w 0 H a ∧ a ∉ F) H' (.l s) v (.lst (done ++ rest)) F → Q v H') (fun k => ∀ H', Same H H' → We k none σ H')) ?_ ?_ ?_ ?_
  · refine ⟨[], [], [], upd_same, same_new (Same.refl _) hD, .nil, by simp, by simp, by simp, ?_⟩
    rw [List.drop_zero]
    exact q.imp (fun l _ q v H' F a b d e => q v H' F a b d e) fun _ _ q => q
  · rintro n H' hn ⟨acc, done, Gs, h1, h2, _⟩
    exact hG H' fun a o _ e => h2 a o e
  · rintro n x H2 H3 hn ⟨acc, done, Gs, h1, h2, h3, h4, h5, h6, h7⟩ hY
    obtain ⟨st, d, ed, isd⟩ := hy n H2 x H3 hn (fun a o _ e => h2 a o e) hY
    have ed2 : ds.drop n = d :: ds.drop (n + 1) := by
      obtain ⟨z1, z2⟩ := List.getElem?_eq_some_iff.mp ed
      rw [List.drop_eq_getElem_cons z1, z2]
    rw [ed2] at h7
    show wipe ((wipe σ [i]).set i (some x)) [i] = wipe σ [i] ∧ _
    refine ⟨by rw [wipe1, wipe1, List.set_set, List.set_set], ?_⟩
    have h13 : Same H1 H3 := h2.trans st
    have hD3 : H3 Dl = some (.lst acc) := st _ _ h1
    -- the state of the element, the regions without the new list and what it holds
    let w' : Wd := ⟨fun a => NW w 0 H a ∧ a ≠ Dl ∧ a ∉ Gs.flatten, fun a => NW w 1 H a ∧ a ≠ Dl ∧ a ∉ Gs.flatten, fun a x => ⟨NW.up (by decide) a x.1, x.2⟩⟩
    have sl3 : Sl c (fset M i (.v al)) w' H3 ((wipe σ [i]).set i (some x)) (ρ.set i (some d)) := by
      refine ⟨by rw [wipe1]; simp [sl.1], fun j dj ej => ?_⟩
      have reg : ∀ l a, NW w l H a → H1 a ≠ none → w'.at l a := fun l a x y => match l, x with
        | 0, x => ⟨x, fun z => y (by rw [z]; exact hD), fun z => y (h5 a z).1⟩
        | 1, x => ⟨x, fun z => y (by rw [z]; exact hD), fun z => y (h5 a z).1⟩
        | _ + 2, _ => trivial
      by_cases hj : j = i
      · subst hj
        rw [List.getElem?_set_self hil] at ej
        cases ej
        refine ⟨x, by rw [wipe1, List.set_set, List.getElem?_set_self (by rw [sl.1]; exact hil)], ?_⟩
        rw [fset_self]
        exact isd _ fun a y y' => reg al a y y'
      · rw [List.getElem?_set_ne (Ne.symm hj)] at ej
        obtain ⟨v, e1, e2⟩ := sl.2 j dj ej
        refine ⟨v, by rw [wipe1, List.set_set, List.getElem?_set_ne (Ne.symm hj)]; exact e1, ?_⟩
        rw [fset_ne hj]
        exact e2.track.mono (fun a x => reg _ a (.inl x.1) fun z => x.2 (hs.free z)) fun a o _ e => h13 a o (hs a o e)
    refine stt w' _ H3 _ _ sl3 ((Po.noX (Po.bind h7)).imp (fun b _ q1 H4 hs4 => ?_) fun _ _ q => q)
    have hD4 : H4 Dl = some (.lst acc) := hs4 _ _ hD3
    have h14 : Same H1 H4 := h13.trans hs4
    have keep : ∀ {v d F} {H' : Hp}, Same H4 H' → F ∈ Gs → Own c (fun a => NW w 0 H a ∧ a ≠ Dl ∧ a ∉ Gs.flatten) H2 s v d F → Own c (fun a => NW w 0 H a ∧ a ≠ Dl ∧ a ∉ Gs.flatten ∧ H2 a ≠ none) H' s v d F := fun {v d F H'} hs' hF ho =>
      ho.track.mono (fun a x => ⟨x.1.1, x.1.2.1, x.1.2.2, x.2⟩) fun a o _ e => hs' a o (hs4 a o (st a o e))
    cases b with
    | false =>
      refine iteF ⟨acc, done, Gs, hD4, h14, h3.imp fun v d F hF ho => (keep (Same.refl _) hF ho).mono (fun a x => ⟨x.1, x.2.1, x.2.2.1⟩) fun a o _ e => e, h4, h5, Nat.le_succ_of_le h6, q1⟩
    | true =>
      refine iteT (ste w' _ H4 _ _ (sl3.same hs4) ((Po.noX (Po.bind (r := noX (f (ρ.set i (some d)))) q1)).imp (fun dy _ q2 y H5 F hs5 hn nd ho => ?_) fun _ _ q => q))
      have q2 := Po.bind (r := cGo i t f (ds.drop (n + 1)) ρ) q2
      have hD5 : H5 Dl = some (.lst acc) := hs5 _ _ hD4
      have nF : Dl ∉ F := fun z => by rw [hn Dl z] at hD4; cases hD4
      have hlen : acc.length = done.length := h3.length.1
      refine ⟨acc, hD5, Nat.lt_of_lt_of_le (by rw [hlen]; omega) (by decide : 100001 ≤ sizeLine), acc ++ [y], done ++ [dy], Gs ++ [F], upd_same, fun a o e => ?_, ?_, ?_, ?_, by simp; omega, ?_⟩
      · rw [upd_ne (ne_of_none e hD)]
        exact hs5 a o (h14 a o e)
      · have ef : (Gs ++ [F]).flatten = Gs.flatten ++ F := by simp
        have up : ∀ {v d F'}, Own c (fun a => NW w 0 H a ∧ a ≠ Dl ∧ a ∉ (Gs ++ [F]).flatten) H5 s v d F' → Dl ∉ F' → Own c (fun a => NW w 0 H a ∧ a ≠ Dl ∧ a ∉ (Gs ++ [F]).flatten) (upd H5 Dl (.lst (acc ++ [y]))) s v d F' := fun {v d F'} ho hF' =>
          ho.mono (fun _ x => x) fun a o x e => by
            have hne : a ≠ Dl := by
              intro z
              subst z
              rcases x with x | x | x
              · exact x.2.1 rfl
              · exact hF' x
              · rw [hD5] at e; cases e; exact x
            rw [upd_ne hne]; exact e
        refine (h3.imp fun v d F' hF' ho' => up ((keep hs5 hF' ho').mono (fun a x => ⟨x.1, x.2.1, fun z => ?_⟩) fun a o _ e => e) fun z => (h5 Dl (mem_flat hF' z)).2 rfl).append (.cons (up (ho.mono (fun a x => ⟨?_, fun z => ?_, fun z => ?_⟩) fun a o _ e => e) nF) .nil)
        · rw [ef] at z
          rcases List.mem_append.mp z with y' | y'
          · exact x.2.2.1 y'
          · exact x.2.2.2 ((st.trans hs4).free (hn a y'))
        · rcases x.1 with y' | y'
          · exact y'.1
          · exact .inr (hs.free (h14.free y'))
        · rcases x.1 with y' | y'
          · exact y'.2.1 z
          · rw [z, hD4] at y'; cases y'
        · rw [ef] at z
          rcases List.mem_append.mp z with y' | y'
          · rcases x.1 with z' | z'
            · exact z'.2.2 y'
            · obtain ⟨G, hG', ha'⟩ := List.mem_flatten.mp y'
              obtain ⟨v', d', ho'⟩ := h3.mem hG'
              obtain ⟨o, eo, _⟩ := ho'.there a ha'
              have := (st.trans hs4) a o eo
              rw [z'] at this; cases this
          · exact x.2 y'
      · rw [show (Gs ++ [F]).flatten = Gs.flatten ++ F by simp]
        refine List.nodup_append.mpr ⟨h4, nd, fun a ha b hb e => ?_⟩
        subst e
        obtain ⟨G, hG', ha'⟩ := List.mem_flatten.mp ha
        obtain ⟨v', d', ho'⟩ := h3.mem hG'
        obtain ⟨o, eo, _⟩ := ho'.there a ha'
        have := (st.trans hs4) a o eo
        rw [hn a hb] at this; cases this
      · intro a ha
        rw [show (Gs ++ [F]).flatten = Gs.flatten ++ F by simp] at ha
        rcases List.mem_append.mp ha with y' | y'
        · exact h5 a y'
        · exact ⟨h14.free (hn a y'), fun z => nF (by rw [← z]; exact y')⟩
      · refine q2.imp (fun rest _ q v H' F a b d e => q v H' F a b d ?_) fun _ _ q => q
        rw [List.append_assoc] at e
        exact e
  · rintro H' ⟨acc, done, Gs, h1, h2, h3, h4, h5, h6, h7⟩
    rw [List.drop_length] at h7
    have h7 : ∀ v H' F, Same H H' → (∀ a ∈ F, H a = none) → F.Nodup → Own c (fun a => NW w 0 H a ∧ a ∉ F) H' (.l s) v (.lst (done ++ [])) F → Q v H' := h7
    rw [List.append_nil] at h7
    refine h7 (.ref Dl) H' (Dl :: Gs.flatten) (hs.trans h2) (fun a ha => ?_) (List.nodup_cons.mpr ⟨fun z => (h5 Dl z).2 rfl, h4⟩) ⟨Dl, acc, done, Gs, rfl, rfl, h1, h3.imp fun v d F _ ho => ho.mono (fun a x => ⟨x.1, fun z => ?_⟩) fun a o _ e => e, rfl⟩
    · rcases List.mem_cons.mp ha with z | z
      · rw [z]; exact hDH
      · exact hs.free (h5 a z).1
    · rcases List.mem_cons.mp z with y | y
      · exact x.2.1 y
      · exact x.2.2 y

theorem vo_lc {x : Str} {elt : Expr} {ifs : List Expr} {scope : Scope} {s : Sh} {p2 : Pos} (i : Nat) (z : Cz X c We k) (hN : X.N.Nodup) (hi : VI X c M We al (.Name x p2) it fi) (ok : BlkOk X.N X.env.scope scope [(x, i)])
    (hg : ∀ (s : Shared) (H : Hp) (C : Addr) (cl : List (Str × Addr)) (fp : List Addr), PG (X.blk s H scope (compEnvC scope cl C X.env) fp) (.Name x p2) (gName i))
    (ht : ∀ (s : Shared) (H : Hp) (C : Addr) (cl : List (Str × Addr)) (fp : List Addr), VTs (X.blk s H scope (compEnvC scope cl C X.env) fp) c (fset M i (.v al)) W0 ifs t)
    (he : ∀ (s' : Shared) (H : Hp) (C : Addr) (cl : List (Str × Addr)) (fp : List Addr), VO (X.blk s' H scope (compEnvC scope cl C X.env) fp) c (fset M i (.v al)) W0 s elt f)
    (hs : ∀ x, foldedSetIterable it X.env x = pure x := by intro _; rfl) : VO X c M We (.l s) (.ListComp elt [⟨.Name x p2, it, ifs, 0⟩] scope pos) (eLc fi i t f) := by
  obtain ⟨wi, tt, te, p, ptt, pte, rd⟩ := lc_read i z hN hi ok hg ht he
  exact ⟨_, pe_lc z.calm hN p ok hg ptt pte hs, rd⟩
/-- y = [.. for ..] -/
theorem vs_setLcO {s0 : Sh} {y : Str} {py spos : Pos} (j : Nat) (hm : M j = .o (.l s0)) {x : Str} {elt : Expr} {ifs : List Expr} {scope : Scope} {p2 : Pos} (i : Nat) (z : Cz X c We k) (hN : X.N.Nodup) (hi : VI X c M We al (.Name x p2) it fi) (ok : BlkOk X.N X.env.scope scope [(x, i)])
    (hg : ∀ (s : Shared) (H : Hp) (C : Addr) (cl : List (Str × Addr)) (fp : List Addr), PG (X.blk s H scope (compEnvC scope cl C X.env) fp) (.Name x p2) (gName i))
    (ht : ∀ (s : Shared) (H : Hp) (C : Addr) (cl : List (Str × Addr)) (fp : List Addr), VTs (X.blk s H scope (compEnvC scope cl C X.env) fp) c (fset M i (.v al)) W0 ifs t)
    (he : ∀ (s' : Shared) (H : Hp) (C : Addr) (cl : List (Str × Addr)) (fp : List Addr), VO (X.blk s' H scope (compEnvC scope cl C X.env) fp) c (fset M i (.v al)) W0 s0 elt f)
    (hs : ∀ x, foldedSetIterable it X.env x = pure x := by intro _; rfl) (hy : X.N[j]? = some y := by rfl) (hyl : X.env.scope.names.lookup y = some .local := by rfl)
    (hsw : swapsWith (.ListComp elt [⟨.Name x p2, it, ifs, 0⟩] scope pos) (some (.Name y py)) spos.line X.env = pure true := by exact sw_true rfl rfl rfl rfl) :
    VSt X c We rs Ml M M (.Assign [.Name y py] (.ListComp elt [⟨.Name x p2, it, ifs, 0⟩] scope pos) spos) (sSet j (eLc fi i t f)) := by
  obtain ⟨wi, tt, te, p, ptt, pte, rd⟩ := lc_read i z hN hi ok hg ht he
  refine ⟨_, ps_setLc z.calm hN hy hyl hsw p ok hg ptt pte hs, fun B σ H ρ D R po => ?_⟩
  obtain ⟨Fs, R⟩ := R
  refine rd _ σ H ρ _ R.slots ((Po.exc_up R (Po.bind po)).imp (fun d _ q v H' F hs hn nd ho => ?_) fun _ _ q => q)
  obtain ⟨hl, q⟩ := Po.gd q
  exact q _ H' (R.setO hm (of_decide_eq_true hl) hs hn nd ho)
theorem vs_setLcV {s0 : Sh} {y : Str} {py spos : Pos} (j : Nat) (hm : M j = .v 0) {x : Str} {elt : Expr} {ifs : List Expr} {scope : Scope} {p2 : Pos} (i : Nat) (z : Cz X c We k) (hN : X.N.Nodup) (hi : VI X c M We al (.Name x p2) it fi) (ok : BlkOk X.N X.env.scope scope [(x, i)])
    (hg : ∀ (s : Shared) (H : Hp) (C : Addr) (cl : List (Str × Addr)) (fp : List Addr), PG (X.blk s H scope (compEnvC scope cl C X.env) fp) (.Name x p2) (gName i))
    (ht : ∀ (s : Shared) (H : Hp) (C : Addr) (cl : List (Str × Addr)) (fp : List Addr), VTs (X.blk s H scope (compEnvC scope cl C X.env) fp) c (fset M i (.v al)) W0 ifs t)
    (he : ∀ (s' : Shared) (H : Hp) (C : Addr) (cl : List (Str × Addr)) (fp : List Addr), VO (X.blk s' H scope (compEnvC scope cl C X.env) fp) c (fset M i (.v al)) W0 s0 elt f)
    (hs : ∀ x, foldedSetIterable it X.env x = pure x := by intro _; rfl) (hy : X.N[j]? = some y := by rfl) (hyl : X.env.scope.names.lookup y = some .local := by rfl)
    (hsw : swapsWith (.ListComp elt [⟨.Name x p2, it, ifs, 0⟩] scope pos) (some (.Name y py)) spos.line X.env = pure true := by exact sw_true rfl rfl rfl rfl) :
    VSt X c We rs Ml M M (.Assign [.Name y py] (.ListComp elt [⟨.Name x p2, it, ifs, 0⟩] scope pos) spos) (sSet j (eLc fi i t f)) := by
  obtain ⟨wi, tt, te, p, ptt, pte, rd⟩ := lc_read i z hN hi ok hg ht he
  refine ⟨_, ps_setLc z.calm hN hy hyl hsw p ok hg ptt pte hs, fun B σ H ρ D R po => ?_⟩
  obtain ⟨Fs, R⟩ := R
  refine rd _ σ H ρ _ R.slots ((Po.exc_up R (Po.bind po)).imp (fun d _ q v H' F hs hn nd ho => ?_) fun _ _ q => q)
  obtain ⟨hl, q⟩ := Po.gd q
  exact q _ H' (R.setV hm (by decide) (of_decide_eq_true hl) (ho.toIs (fun a x => x.1) fun a ha => .inr (hn a ha)) hs)

/-- x.clear(), x its own list -/
theorem vs_clear {x : Str} {p2 apos cpos : Pos} {s : Sh} (i : Nat) (hm : M i = .o (.l s)) (hN : X.N[i]? = some x := by rfl) (hv : Vis X.env.scope x := by first | exact Or.inl rfl | exact Or.inr (Or.inl rfl) | exact Or.inr (Or.inr rfl)) (hd : (x == ("__debug__" : Str)) = false := by decide)
    (hcd : (x == ("__classdict__" : Str)) = false := by decide) (hbase : attributeBase (.Name x p2) "clear" X.env (eval (.Name x p2) X.env) = eval (.Name x p2) X.env := by rfl) (hline : (apos.endLine == cpos.line) = true := by rfl)
    (hs : swapsWith (.Call (.Attribute (.Name x p2) "clear" apos) [] [] cpos) none pos.line X.env = pure false := by rfl) :
    VSt X c We rs Ml M M (.Expr (.Call (.Attribute (.Name x p2) "clear" apos) [] [] cpos) pos) (sClear i) := by
  refine ⟨_, ps_expr (pe_bm0 PySem.F.plainAttrs_list PySem.F.slot_list_clear PySem.F.type_list_clear mt_clear (pv i hN hv hd hcd) hbase hline) hs, fun B σ H ρ D R po => ?_⟩
  obtain ⟨Fs, R⟩ := R
  obtain ⟨ds, er, po⟩ := po_lst po
  obtain ⟨p, xs, Gs, h1, hp, h3, eF, keep, put⟩ := R.lst hm er
  exact ⟨_, h1, .inl ⟨rfl, xs, .of hp⟩, p, xs, rfl, rfl, hp, po _ _ ⟨_, put H [] [] [] (Same.refl H) .nil (by simp) (by simp)⟩⟩

/-! ### raise X('..') -/
/-- the facts of an own class of exceptions over ValueError -/
structure ExK (K : PySem.W.Frag) (mg : Str → Option Value) (x : Str) (C : Addr) : Prop where
  g : mg x = some (.ref C)
  q : PySem.W.excIn K C [.type "ValueError", .type "Exception", .type "BaseException", .type "object"] "ValueError.__new__" = true
  kp : PySem.W.keepIn K (.ref C) = true
  b : PySem.W.subIn K (.ref C) (.type "BaseException") = some true
  t : PySem.W.typeIn K (.ref C) = some (.type "type")
theorem vs_raise {x m : Str} {C : Addr} {n : Nat} {p p2 p3 : Pos} (z : Cz X c We k) (h : ExK X.K X.mg x C) (hg : Gl X x) (hdb : (x == ("__debug__" : Str)) = false := by decide) :
    VSt X c We rs Ml M M' (.Raise (some (.Call (.Name x p) [.Constant (.str m) n p2] [] p3)) none pos) (sExc (.ref C)) :=
  ⟨_, L2N.ps_raise z.calm z.tk (L2N.pmk_own PySem.F.excBase_ValueError h.q h.g h.kp (raises_own h.b h.t) hg hdb), fun B σ H ρ D R po => by
    obtain ⟨Fs, R⟩ := R
    exact po σ H fun p hp a o e hn => R.fr p hp a o e hn⟩
end

/-! ### a def -/
def startD (n : Nat) (ds : List D) : Rho := ds.map some ++ List.replicate (n - ds.length) none
/-- the meaning of a def: n names, the first m its parameters -/
def runF (n m : Nat) (rs : Sh) (g : SF) : List D → O D := fun ds => gd (decide (ds.length = m) && decide (m ≤ n)) ((g (startD n ds)).bind fun out => match out with
  | .nx _ => gd (decide (rs = .fz)) (.ok .non)
  | .rt d _ => .ok d
  | .ex k _ => .exc k
  | _ => .bad)
theorem isA_get {c : Ct} {W : Addr → Prop} {H : Hp} {vs : List V} {ds : List D} (h : IsA c W H vs ds) {n i : Nat} {d : D} (e : (startD n ds)[i]? = some (some d)) : i < ds.length ∧ ∃ v, vs[i]? = some v ∧ Is c W H v d := by
  unfold startD at e
  by_cases hi : i < ds.length
  · rw [List.getElem?_append_left (by simpa using hi), List.getElem?_map] at e
    cases e1 : ds[i]? with
    | none => rw [e1] at e; cases e
    | some d' =>
      rw [e1] at e
      cases e
      exact ⟨hi, h.getD e1⟩
  · rw [List.getElem?_append_right (by simpa using hi), List.getElem?_replicate] at e
    split at e <;> cases e
section
variable {P : Program} {w : World} {K : PySem.W.Frag} {mg : Str → Option Value} {base : Heap} {c : Ct}
/-- a def that changes nothing keeps the promise of its meaning -/
theorem fn_pure {x qual : Str} {st : Stmt} {f : Addr} {fd : FuncData} {N ps : List Str} {k : Nat} {rs : Sh} {g : SF} {M M' : Nat → Mo} (F : Fun K x qual st f fd) (S : FnScope N ps (defScope st)) (hK : K = c.K) (hM : ∀ i, i < ps.length → M i = .v 1)
    (hb : ∀ (cdv : Value) (A : Around) (outer : List Env) (s : Shared) (H : Hp) (E : XK), Cz (cxOf (L2N.CX P w) P w K mg base N qual (defScope st) f cdv A outer s H E) c (fun cls d _ H => E cls d H) k →
      VSs (cxOf (L2N.CX P w) P w K mg base N qual (defScope st) f cdv A outer s H E) c (fun cls d _ H => E cls d H) rs M M M' (defBody st) g) :
    FnOk P w K mg base (L2N.CX P w) (k + 1) f fd ps (spP c rs (runF N.length ps.length rs g)) := by
  refine okG F S (fun vs H Q E h => ?_) (fun cdv A outer s H vs Q E hr h => ?_)
  · obtain ⟨ds, h1, h2⟩ := h
    obtain ⟨hl, _⟩ := Po.gd h2
    rw [Bool.and_eq_true, decide_eq_true_eq] at hl
    rw [h1.length, hl.1]
  · have z : Cz (cxOf (L2N.CX P w) P w K mg base N qual (defScope st) f cdv A outer s H E) c (fun cls d _ H => E cls d H) k := ⟨hK, rfl, L2N.takes_of rfl rfl rfl rfl, hr, passes_of rfl⟩
    obtain ⟨t, p, so⟩ := (hb cdv A outer s H E z).ex
    refine ⟨t, p, ?_⟩
    obtain ⟨ds, h1, h2⟩ := h
    obtain ⟨hl, h2⟩ := Po.gd h2
    rw [Bool.and_eq_true, decide_eq_true_eq, decide_eq_true_eq] at hl
    have h2 := Po.bind h2
    refine so ⟨H, [(H, fun _ => False)], []⟩ _ H (startD N.length ds) _ ⟨fun _ => [], ?_⟩ (h2.imp (fun out _ q => ?_) fun kx _ q σ' H' hf => q H' fun a o e => hf (H, fun _ => False) (by simp) a o e (fun z => z))
    · refine ⟨by simp, by simp, by simp, fun p hp a o e _ => ?_, by simp, by simp, fun a e => e, fun i d e => ?_, by simp, by simp [L2.start, startD, h1.length]⟩
      · have : p = (H, fun _ => False) := by simpa using hp
        rw [this] at e; exact e
      · obtain ⟨hi, v, e1, e2⟩ := isA_get h1 e
        have hv : i < vs.length := (List.getElem?_eq_some_iff.mp e1).1
        refine ⟨v, ?_, ?_⟩
        · unfold L2.start
          rw [List.getElem?_append_left (by simpa using hv), List.getElem?_map, e1]
          rfl
        · rw [hM i (by omega)]
          exact ⟨by decide, rfl, e2.up fun _ _ _ => by simp⟩
    · cases out with
      | nx ρ' =>
        intro σ' H' R
        obtain ⟨hrs, q⟩ := Po.gd q
        have hrs : rs = .fz := of_decide_eq_true hrs
        subst hrs
        obtain ⟨Fs, R⟩ := R
        exact q .non H' [] (fun a o e => R.fr (H, fun _ => False) (by simp) a o e (fun z => z)) (by simp) (by simp) ⟨rfl, .non⟩
      | rt d ρ' =>
        rintro v H' ⟨M2, Fs, σ2, Fp, R, n1, n2, n3⟩
        exact q v H' Fp (fun a o e => R.fr (H, fun _ => False) (by simp) a o e (fun z => z)) (fun a ha => (n2 a ha).1) n1 (n3.mono (fun a x => ⟨x.1, x.2.2⟩) fun a o _ e => e)
      | bk ρ' => exact q.elim
      | ct ρ' => exact q.elim
      | ex k ρ' =>
        rintro σ' H' M2 ⟨Fs, R⟩
        exact q H' fun a o e => R.fr (H, fun _ => False) (by simp) a o e (fun z => z)
end
end VS
set_option Elab.async false
set_option linter.all false
set_option maxRecDepth 100000
set_option maxHeartbeats 2000000
/-! VK: defs as they stand, further rules. -/
namespace VS
open PySem L2

def eCall (fs : AF) (F : List D → O D) : EF := fun ρ => (fs ρ).bind F
def mo (l : List Mo) : Nat → Mo := fun i => l.getD i (.v 0)
/-- a def of the top -/
structure Fact (K : PySem.W.Frag) (mg : Str → Option Value) (x : Str) (st : Stmt) (ps : List Str) : Prop where
  ex : ∃ f fd, Fun K x x st f fd ∧ mg x = some (.ref f) ∧ Binds K fd ps []
/-- a def that keeps a promise -/
structure Dc (P : Program) (w : World) (K : PySem.W.Frag) (mg : Str → Option Value) (base : Heap) (k : Nat) (x : Str) (sp : Sp) : Prop where
  ex : ∃ f fd ps, FnOk P w K mg base (L2N.CX P w) k f fd ps sp ∧ Binds K fd ps [] ∧ mg x = some (.ref f) ∧ PySem.W.keepIn K (.ref f) = true
/-- the built-ins' names are theirs -/
structure Bn (mg : Str → Option Value) : Prop where
  len : mg "len" = none
  isinstance : mg "isinstance" = none
  range : mg "range" = none
  zip : mg "zip" = none
  enumerate : mg "enumerate" = none
  int : mg "int" = none
  bool : mg "bool" = none
  list : mg "list" = none
  tuple : mg "tuple" = none
  str : mg "str" = none
  dict : mg "dict" = none
  sorted : mg "sorted" = none
  min : mg "min" = none
  max : mg "max" = none
  sum : mg "sum" = none
  abs : mg "abs" = none
  set : mg "set" = none
  vErr : mg "ValueError" = none

section
variable {X : Cx} {c : Ct} {M M' Ml : Nat → Mo} {We : WX} {al al' al'' k k' i : Nat} {e a b d : Expr} {f fa fb fc : EF} {pos : Pos} {t t' : TF} {rs : Sh}
theorem ve_any (h : VE X c M We al e f) : VE X c M We 2 e f := by
  obtain ⟨te, p, s⟩ := h.ex
  exact ⟨te, p, fun w σ H ρ Q sl po => s w σ H ρ Q sl (po.imp (fun d _ q v H' hs hi => q v H' hs (hi.up fun _ _ => .inl trivial)) fun _ _ q => q)⟩
/-- arguments of a call, whatever their taint -/
theorem va_arg {es : List Expr} {fs : AF} (h : VE X c M We al e f) (t : VA X c M We 2 es fs) (hs : starEach (e :: es) X.env = (false, eval e X.env) :: starEach es X.env := by rfl) : VA X c M We 2 (e :: es) (aCons f fs) := va_cons (ve_any h) t hs
theorem vo_callD {x : Str} {F : List D → O D} {es : List Expr} {fs : AF} {p : Pos} (z : Cz X c We k) (dc : Dc X.prog X.w X.K X.mg X.base k' x (spP c rs F)) (hk : k' ≤ k) (t : VA X c M We 2 (e :: es) fs) (hg : Gl X x := by rfl) (hdb : (x == ("__debug__" : Str)) = false := by decide)
    (he : starEach (e :: es) X.env = (false, eval e X.env) :: starEach es X.env := by rfl) (hpl : (backTo pos (starEach es X.env)).any (·.1) = false := by rfl) :
    VO X c M We rs (.Call (.Name x p) (e :: es) [] pos) (eCall fs F) := by
  obtain ⟨f, fd, ps, G, hb, hm, kp⟩ := dc.ex
  exact vo_call z (G.mono hk) hb hm kp hg t hdb he hpl
def negD : D → O D
  | .int i => .ok (.int (-i))
  | _ => .bad
theorem ve_neg (h : VE X c M We al a f) : VE X c M We 0 (.UnaryOp .USub a pos) (e1 negD f) := by
  obtain ⟨te, p, s⟩ := h.ex
  refine ⟨_, pe_un un_neg p, fun w σ H ρ Q sl po => s w σ H ρ _ sl ((Po.bind po).imp (fun d _ q v H1 hs hi => ?_) fun _ _ q => q)⟩
  cases d with
  | int i => exact ⟨i, is_int hi, q _ H1 hs (.int _)⟩
  | _ => exact q.elim
/-- int(n), int(a truth) -/
def intD : D → O D
  | .int i => .ok (.int i)
  | .bl b => .ok (.int (if b = true then 1 else 0))
  | _ => .bad
theorem ve_intc {p : Pos} (h : VE X c M We al e f) (hg : Gl X "int") (hm : X.mg "int" = none) (hs : starEach [e] X.env = (false, eval e X.env) :: starEach [] X.env := by rfl) (hpl : (backTo pos (starEach [] X.env)).any (·.1) = false := by rfl) :
    VE X c M We 0 (.Call (.Name "int" p) [e] [] pos) (e1 intD f) := by
  obtain ⟨te, pe, s⟩ := h.ex
  refine ⟨_, pe_callTy call_int1 hg hm PyProof.Rows.boot_int (pa_cons pe pa_nil hs) (by decide) (by decide) hs hpl, fun w σ H ρ Q sl po => s w σ H ρ _ sl ((Po.bind po).imp (fun d _ q v H1 hs hi => ?_) fun _ _ q => q)⟩
  cases d with
  | int i => exact .inl ⟨i, by rw [is_int hi], q _ H1 hs (.int _)⟩
  | bl b => exact .inr ⟨b, by rw [is_bl hi], q _ H1 hs (.int _)⟩
  | _ => exact q.elim
end
theorem fact_mk {K : PySem.W.Frag} {mg : Str → Option Value} {h : Heap} {x : Str} {st : Stmt} {ps : List Str} {f : Addr} {oc : Value} {od an : Option Addr} {osl : Array (Option Value)} {kV doc pm cdv ct : Value} (X : K.In h) (G : h.Ns mainGlobals mg)
    (hb : ∀ {fd : FuncData}, Fun K x x st f fd → Binds K fd ps [])
    (a : PySem.W.nsIn K mainGlobals x = some (some (.ref f))) (l : K.lookup f = some ⟨oc, od, .func (PySem.W.fnOf x x (defArgs st) (defBody st) (defScope st) .none kV doc pm an cdv ct), osl⟩)
    (c : PySem.W.codeIn K cdv x = true) (kp : PySem.W.keepIn K (.ref f) = true) : Fact K mg x st ps :=
  ⟨f, _, fun_mk l c kp, PySem.W.mg_of X G a, hb (fun_mk l c kp)⟩
/-- the law's own promise at the script -/
theorem walk_law {l : PySem.W.OpenLaw} {lv : Nat} {q : Program} {loose : List Str} {XP : (Str → Option Value) → Heap → Prop} {YP : World → Heap → Prop} {d : DefRec} {K : Params → PySem.W.Frag}
    (hn : l.most = some 63) (hdf : d.params.defaults = []) (hr : (callerA.depth + 3 * lv + 5 < recursionLimit)) (hu : callerA.units + 16 * lv + 200 < cLine) (hY : ∀ (w : World) (h : Heap), YP w h → (K w.params).In h)
    (Fn : ∀ (w : World) (mg : Str → Option Value) (fa : Addr) (h : Heap), (K w.params).In h → h.Ns mainGlobals mg → mg d.name = some (.ref fa) →
      ∃ fd : FuncData, (∀ (s : Shared) (u : Value), BindsTo s fd ⟨[u], []⟩ [("_law_script", u)]) ∧ ∃ (c : Ct) (F : List D → O D), c.K = K w.params ∧ (∀ ns : List Int, ns.length ≤ 63 → F [.lst (ns.map .int)] = .ok (.bl true)) ∧
        ∀ base : Heap, FnOk l.prog w (K w.params) mg base (L2N.CX l.prog w) lv fa fd ["_law_script"] (spP c .fz F)) :
    PySem.W.WalkO q loose XP YP l.row.toRowW d [] (fun f vs => PySem.call f vs) := by
  refine L2.walk_of (n := 63) (k := lv) (x := "_law_script") (CX := fun w => L2N.CX l.prog w) (sp := fun w vs H Q E => ∃ (a : Addr) (ns : List Int), vs = [.ref a] ∧ SqL (K w.params) H a (ns.map V.int) ∧ ns.length ≤ 63 ∧ ∀ H', Q (.bl true) H') hn (by decide) hdf ⟨rfl, hr, hu⟩ hY (fun w mg fa h KX G hm => ?_)
    (fun w H a ns hl hO hS => ⟨a, ns, rfl, hS, hl, fun _ => rfl⟩) fun w H s e s' z => ?_
  · obtain ⟨fd, h1, c, F, hc, law, h2⟩ := Fn w mg fa h KX G hm
    refine ⟨fd, h1, fun base _ _ => (h2 base).imp fun vs H Q E hsp => ?_⟩
    obtain ⟨a, ns, rfl, hS, hl, hq⟩ := hsp
    have hA : ∀ ns : List Int, IsA c (fun _ => True) H (ns.map V.int) (ns.map D.int) := by
      intro ns
      induction ns with
      | nil => exact .nil
      | cons n ns ih => exact .cons (.int n) ih
    refine ⟨[.lst (ns.map .int)], .cons ?_ .nil, ?_⟩
    · rw [← hc] at hS
      rcases hS with h | h
      · exact .lst trivial h (hA ns)
      · exact .lstK h (hA ns)
    · rw [law ns hl]
      intro v H' Fp hs hn nd ho
      rw [is_bl ho.2]
      exact hq H'
  · obtain ⟨_, _, _, _, _, _, _, _, _, _, _, _, z⟩ := z
    exact z
end VS
set_option Elab.async false
set_option linter.all false
set_option maxRecDepth 100000
set_option maxHeartbeats 2000000
/-! VM: defs that change what they are handed. -/
namespace VS
open PySem L2

/-- what such a def ends with: a value, or an exception; and its parameters then -/
inductive Rz where
  | rt (d : D) (ps : List D)
  | ex (k : Value) (ps : List D)
def ownAt (ms : List (Option Sh)) (i : Nat) : Option Sh := (ms[i]?).join
structure ArgM (c : Ct) (H : Hp) (ms : List (Option Sh)) (vs : List V) (ds : List D) (Fs : Nat → List Addr) : Prop where
  lv : vs.length = ds.length
  lm : ms.length = ds.length
  nd : ∀ i, (Fs i).Nodup
  dj : ∀ i j a, a ∈ Fs i → a ∈ Fs j → i = j
  no : ∀ i, ownAt ms i = none → Fs i = []
  at_ : ∀ i d, ds[i]? = some d → ∃ v, vs[i]? = some v ∧ (match ownAt ms i with
    | some s => Own c (fun _ => False) H s v d (Fs i)
    | none => Is c (fun a => ∀ j, a ∉ Fs j) H v d)
structure AfterM (c : Ct) (H H' : Hp) (ms : List (Option Sh)) (vs : List V) (ds' : List D) (Fs Fs' : Nat → List Addr) : Prop where
  nd : ∀ i, (Fs' i).Nodup
  dj : ∀ i j a, a ∈ Fs' i → a ∈ Fs' j → i = j
  no : ∀ i, ownAt ms i = none → Fs' i = []
  new : ∀ i a, a ∈ Fs' i → (∃ j, a ∈ Fs j) ∨ H a = none
  fr : ∀ a o, (∀ i, a ∉ Fs i) → H a = some o → H' a = some o
  old : ∀ a, H' a = none → H a = none
  at_ : ∀ i s, ownAt ms i = some s → ∃ v d', vs[i]? = some v ∧ ds'[i]? = some d' ∧ Own c (fun _ => False) H' s v d' (Fs' i)
def spM (c : Ct) (ms : List (Option Sh)) (rs : Sh) (F : List D → O Rz) : Sp := fun vs H Q E => ∃ ds Fs, ArgM c H ms vs ds Fs ∧ Po (F ds) (fun r => match r with
  | .rt d ds' => ∀ v H' Fs' Fp, AfterM c H H' ms vs ds' Fs Fs' → Fp.Nodup → (∀ a ∈ Fp, H a = none ∧ ∀ i, a ∉ Fs' i) → Own c (fun a => H a = none ∧ (∀ i, a ∉ Fs' i) ∧ a ∉ Fp) H' rs v d Fp → Q v H'
  | .ex k ds' => ∀ H' Fs', AfterM c H H' ms vs ds' Fs Fs' → E k none H') (fun _ => False)

/-! ### the meaning of such a def -/
/-- the parameters, those that are changed told -/
def parD (ρ : Rho) : List (Option Sh) → Nat → O (List D)
  | [], _ => .ok []
  | m :: ms, i => (if m.isSome then eVar i ρ else .ok .non).bind fun d => (parD ρ ms (i + 1)).bind fun ds => .ok (d :: ds)
def runM (n : Nat) (ms : List (Option Sh)) (rs : Sh) (g : SF) : List D → O Rz := fun ds => gd (decide (ds.length = ms.length) && decide (ms.length ≤ n)) (match g (startD n ds) with
  | .ok (.nx ρ) => gd (decide (rs = .fz)) ((parD ρ ms 0).bind fun ps => .ok (.rt .non ps))
  | .ok (.rt d ρ) => (parD ρ ms 0).bind fun ps => .ok (.rt d ps)
  | .ok (.ex k ρ) => (parD ρ ms 0).bind fun ps => .ok (.ex k ps)
  | _ => .bad)
theorem parD_get {ρ : Rho} : ∀ {ms : List (Option Sh)} {b : Nat} {ps : List D}, parD ρ ms b = .ok ps → ∀ i s, ownAt ms i = some s → ∃ d, ps[i]? = some d ∧ ρ[b + i]? = some (some d)
  | [], b, ps, e, i, s, h => by simp [ownAt] at h
  | m :: ms, b, ps, e, i, s, h => by
    unfold parD at e
    cases h1 : (if m.isSome then eVar b ρ else .ok .non) with
    | bad => rw [h1] at e; cases e
    | exc k => rw [h1] at e; cases e
    | ok d =>
      rw [h1] at e
      cases h2 : parD ρ ms (b + 1) with
      | bad => rw [O.bind_ok, h2] at e; cases e
      | exc k => rw [O.bind_ok, h2] at e; cases e
      | ok ds =>
        rw [O.bind_ok, h2] at e
        cases e
        cases i with
        | zero =>
          have hm : m = some s := by simpa [ownAt] using h
          rw [hm] at h1
          exact ⟨d, rfl, eVar_ok h1⟩
        | succ i =>
          obtain ⟨d', e1, e2⟩ := parD_get h2 i s (by simpa [ownAt] using h)
          exact ⟨d', by simpa using e1, by rw [show b + (i + 1) = b + 1 + i by omega]; exact e2⟩

def mpL (ms : List (Option Sh)) (vs : List V) : List (Nat × Sh × V) := (List.range vs.length).filterMap fun i => match ownAt ms i, vs[i]? with
  | some s, some v => some (i, s, v)
  | _, _ => none
theorem mpL_mem {ms : List (Option Sh)} {vs : List V} {q : Nat × Sh × V} : q ∈ mpL ms vs ↔ ownAt ms q.1 = some q.2.1 ∧ vs[q.1]? = some q.2.2 := by
  unfold mpL
  rw [List.mem_filterMap]
  constructor
  · rintro ⟨i, hi, h⟩
    split at h
    · rename_i s v h1 h2
      cases h
      exact ⟨h1, h2⟩
    · cases h
  · rintro ⟨h1, h2⟩
    refine ⟨q.1, ?_, ?_⟩
    · rw [List.mem_range]
      exact (List.getElem?_eq_some_iff.mp h2).1
    · rw [h1, h2]
section
variable {P : Program} {w : World} {K : PySem.W.Frag} {mg : Str → Option Value} {base : Heap} {c : Ct}
/-- from what stands at a def's end to what its caller sees -/
theorem afterM {ms : List (Option Sh)} {vs : List V} {H H' : Hp} {Fs Fs2 : Nat → List Addr} {M2 : Nat → Mo} {σ2 : L2.St} {ρ' : Rho} {ps : List D} (R : RelF c M2 ⟨H, [(H, fun a => ∃ i, a ∈ Fs i)], mpL ms vs⟩ Fs2 H' σ2 ρ') (hlen : vs.length = ms.length) (hp : parD ρ' ms 0 = .ok ps) :
    AfterM c H H' ms vs ps Fs (fun i => if (ownAt ms i).isSome then Fs2 i else []) where
  nd := fun i => by
    show (if _ then _ else _ : List Addr).Nodup
    split
    · exact R.nd i
    · simp
  dj := fun i j a ha hb => by
    split at ha
    · split at hb
      · exact R.dj i j a ha hb
      · simp at hb
    · simp at ha
  no := fun i h => by simp [h]
  new := fun i a ha => by
    split at ha
    · exact (R.out (H, fun a => ∃ i, a ∈ Fs i) (by simp) i a ha).symm
    · simp at ha
  fr := fun a o hn e => R.fr (H, fun a => ∃ i, a ∈ Fs i) (by simp) a o e fun ⟨i, z⟩ => hn i z
  old := R.old
  at_ := fun i s h => by
    obtain ⟨d, e1, e2⟩ := parD_get hp i s h
    rw [Nat.zero_add] at e2
    have hi : i < vs.length := by
      rw [hlen]
      unfold ownAt at h
      cases e : ms[i]? with
      | none => rw [e] at h; cases h
      | some m => exact (List.getElem?_eq_some_iff.mp e).1
    obtain ⟨q1, q2⟩ := R.mp (i, s, vs[i]) (mpL_mem.mpr ⟨h, List.getElem?_eq_getElem hi⟩)
    dsimp only at q1 q2
    obtain ⟨v, h1, h2⟩ := R.sl i d e2
    rw [q1] at h1
    cases h1
    rw [q2] at h2
    refine ⟨_, d, List.getElem?_eq_getElem hi, e1, ?_⟩
    simp only [h, Option.isSome_some, if_true]
    exact h2
theorem fn_mut {x qual : Str} {st : Stmt} {f : Addr} {fd : FuncData} {N ps : List Str} {k : Nat} {rs : Sh} {g : SF} {ms : List (Option Sh)} {M M' : Nat → Mo} (F : Fun K x qual st f fd) (S : FnScope N ps (defScope st)) (hK : K = c.K) (hms : ms.length = ps.length)
    (hM : ∀ i, i < ps.length → M i = match ownAt ms i with
      | some s => .p s
      | none => .v 1)
    (hb : ∀ (cdv : Value) (A : Around) (outer : List Env) (s : Shared) (H : Hp) (E : XK), Cz (cxOf (L2N.CX P w) P w K mg base N qual (defScope st) f cdv A outer s H E) c (fun cls d _ H => E cls d H) k →
      VSs (cxOf (L2N.CX P w) P w K mg base N qual (defScope st) f cdv A outer s H E) c (fun cls d _ H => E cls d H) rs M M M' (defBody st) g) :
    FnOk P w K mg base (L2N.CX P w) (k + 1) f fd ps (spM c ms rs (runM N.length ms rs g)) := by
  refine okG F S (fun vs H Q E h => ?_) (fun cdv A outer s H vs Q E hr h => ?_)
  · obtain ⟨ds, Fs, h1, h2⟩ := h
    rw [h1.lv, ← h1.lm, hms]
  · have z : Cz (cxOf (L2N.CX P w) P w K mg base N qual (defScope st) f cdv A outer s H E) c (fun cls d _ H => E cls d H) k := ⟨hK, rfl, L2N.takes_of rfl rfl rfl rfl, hr, passes_of rfl⟩
    obtain ⟨t, p, so⟩ := (hb cdv A outer s H E z).ex
    refine ⟨t, p, ?_⟩
    obtain ⟨ds, Fs, h1, h2⟩ := h
    obtain ⟨hl, h2⟩ := Po.gd h2
    rw [Bool.and_eq_true, decide_eq_true_eq, decide_eq_true_eq] at hl
    have hvm : vs.length = ms.length := by rw [h1.lv, hl.1]
    have big : ∀ i, ds.length ≤ i → Fs i = [] := fun i hi => h1.no i (by
      unfold ownAt
      rw [List.getElem?_eq_none (by omega)]
      rfl)
    have R0 : RelF c M ⟨H, [(H, fun a => ∃ i, a ∈ Fs i)], mpL ms vs⟩ Fs H (L2.start N vs) (startD N.length ds) := by
      have slot : ∀ i v, vs[i]? = some v → (L2.start N vs)[i]? = some (some v) := fun i v e => by
        unfold L2.start
        rw [List.getElem?_append_left (by have := (List.getElem?_eq_some_iff.mp e).1; simpa using this), List.getElem?_map, e]
        rfl
      have own : ∀ i s, ownAt ms i = some s → i < ps.length := fun i s h => by
        rw [← hms]
        unfold ownAt at h
        cases e : ms[i]? with
        | none => rw [e] at h; cases h
        | some m => exact (List.getElem?_eq_some_iff.mp e).1
      refine ⟨h1.nd, h1.dj, fun i a ha => ?_, fun p hp a o e _ => ?_, fun p hp i a ha => ?_, fun i s hs a ha => ?_, fun a e => e, fun i d e => ?_, fun q hq => ?_, by simp [L2.start, startD, h1.lv]⟩
      · cases ho : ownAt ms i with
        | none => rw [h1.no i ho] at ha; simp at ha
        | some s =>
          have hi : i < ds.length := by have := own i s ho; rw [← hms, ← hl.1] at this; exact this
          obtain ⟨v, _, hv⟩ := h1.at_ i _ (List.getElem?_eq_getElem hi)
          rw [ho] at hv
          exact hv.there a ha
      · have : p = (H, fun a => ∃ i, a ∈ Fs i) := by simpa using hp
        rw [this] at e; exact e
      · have : p = (H, fun a => ∃ i, a ∈ Fs i) := by simpa using hp
        rw [this]; exact .inr ⟨i, ha⟩
      · cases ho : ownAt ms i with
        | none => rw [h1.no i ho] at ha; simp at ha
        | some s' =>
          have := hM i (own i s' ho)
          rw [ho, hs] at this; cases this
      · have hi : i < ds.length := by
          unfold startD at e
          by_cases hi : i < ds.length
          · exact hi
          · rw [List.getElem?_append_right (by simpa using hi), List.getElem?_replicate] at e
            split at e <;> cases e
        have e1 : ds[i]? = some d := by
          unfold startD at e
          rw [List.getElem?_append_left (by simpa using hi), List.getElem?_map, List.getElem?_eq_getElem hi] at e
          rw [List.getElem?_eq_getElem hi]
          cases e; rfl
        obtain ⟨v, ev, hv⟩ := h1.at_ i d e1
        refine ⟨v, slot i v ev, ?_⟩
        rw [hM i (by rw [← hms, ← hl.1]; exact hi)]
        cases ho : ownAt ms i with
        | none =>
          rw [ho] at hv
          exact ⟨by decide, h1.no i ho, hv⟩
        | some s =>
          rw [ho] at hv
          exact hv
      · obtain ⟨q1, q2⟩ := mpL_mem.mp hq
        refine ⟨slot _ _ q2, ?_⟩
        have := hM q.1 (own q.1 q.2.1 q1)
        rw [q1] at this
        exact this
    refine so ⟨H, [(H, fun a => ∃ i, a ∈ Fs i)], mpL ms vs⟩ _ H (startD N.length ds) _ ⟨Fs, R0⟩ ?_
    cases hg : g (startD N.length ds) with
    | bad => rw [hg] at h2; exact h2.elim
    | exc k => rw [hg] at h2; exact h2.elim
    | ok out =>
      rw [hg] at h2
      cases out with
      | bk ρ' => exact h2.elim
      | ct ρ' => exact h2.elim
      | nx ρ' =>
        obtain ⟨hrs, q⟩ := Po.gd h2
        have hrs : rs = .fz := of_decide_eq_true hrs
        subst hrs
        cases hp : parD ρ' ms 0 with
        | bad => rw [hp] at q; exact q.elim
        | exc k => rw [hp] at q; exact q.elim
        | ok ps' =>
          rw [hp] at q
          rintro σ' H' ⟨Fs2, R⟩
          exact q .non H' _ [] (afterM R hvm hp) (by simp) (by simp) ⟨rfl, .non⟩
      | rt d ρ' =>
        replace h2 : Po ((parD ρ' ms 0).bind fun ps => O.ok (Rz.rt d ps)) _ _ := h2
        cases hp : parD ρ' ms 0 with
        | bad => rw [hp] at h2; exact h2.elim
        | exc k => rw [hp] at h2; exact h2.elim
        | ok ps' =>
          rw [hp] at h2
          rintro v H' ⟨M2, Fs2, σ2, Fp, R, n1, n2, n3⟩
          refine h2 v H' _ Fp (afterM R hvm hp) n1 (fun a ha => ⟨(n2 a ha).1, fun i z => ?_⟩) (n3.mono (fun a x => ⟨x.1, fun i z => ?_, x.2.2⟩) fun a o _ e => e)
          · split at z
            · exact (n2 a ha).2 i z
            · simp at z
          · split at z
            · exact x.2.1 i z
            · simp at z
      | ex kx ρ' =>
        replace h2 : Po ((parD ρ' ms 0).bind fun ps => O.ok (Rz.ex kx ps)) _ _ := h2
        cases hp : parD ρ' ms 0 with
        | bad => rw [hp] at h2; exact h2.elim
        | exc k => rw [hp] at h2; exact h2.elim
        | ok ps' =>
          rw [hp] at h2
          rintro σ' H' M2 ⟨Fs2, R⟩
          exact h2 H' _ (afterM R hvm hp)
end

/-! ### from the caller's side -/
section
variable {c : Ct} {M : Nat → Mo} {B : Bs} {Fs : Nat → List Addr} {H H' : Hp} {σ : L2.St} {ρ : Rho} {X : Cx} {We : WX} {k al al' i j : Nat}
/-- some slots' own objects changed -/
theorem RelF.putN (R : RelF c M B Fs H σ ρ) {Fs' : Nat → List Addr} {ρ' : Rho} (S : Nat → Prop) (h1 : ∀ a o, (∀ i, S i → a ∉ Fs i) → H a = some o → H' a = some o) (h2 : ∀ a, H' a = none → H a = none) (nd : ∀ i, S i → (Fs' i).Nodup)
    (dj : ∀ i j a, S i → S j → a ∈ Fs' i → a ∈ Fs' j → i = j) (eq : ∀ i, ¬ S i → Fs' i = Fs i) (h3 : ∀ i, S i → ∀ a ∈ Fs' i, (∃ j, S j ∧ a ∈ Fs j) ∨ H a = none) (h4 : ∀ i, S i → ∀ a ∈ Fs' i, ∃ o, H' a = some o ∧ ¬ sta o)
    (hρ : ∀ i, ¬ S i → ρ'[i]? = ρ[i]?) (hl : ρ'.length = ρ.length) (ho : ∀ i j s, S i → S j → M i = .o s → ∀ a ∈ Fs j, B.H0 a = none)
    (hi : ∀ i d, S i → ρ'[i]? = some (some d) → ∃ v, σ[i]? = some (some v) ∧ Sat c B Fs' H' (M i) v d (Fs' i)) : RelF c M B Fs' H' σ ρ' where
  nd := fun i => by
    by_cases h : S i
    · exact nd i h
    · rw [eq i h]; exact R.nd i
  dj := fun i j a ha hb => by
    by_cases h : S i
    · by_cases h' : S j
      · exact dj i j a h h' ha hb
      · rw [eq j h'] at hb
        rcases h3 i h a ha with ⟨l, hs, hm⟩ | e
        · exact absurd (R.dj l j a hm hb) fun z => h' (z ▸ hs)
        · exact absurd e (fun e => by obtain ⟨o, e', _⟩ := R.th j a hb; rw [e] at e'; cases e')
    · rw [eq i h] at ha
      by_cases h' : S j
      · rcases h3 j h' a hb with ⟨l, hs, hm⟩ | e
        · exact absurd (R.dj l i a hm ha) fun z => h (z ▸ hs)
        · exact absurd e (fun e => by obtain ⟨o, e', _⟩ := R.th i a ha; rw [e] at e'; cases e')
      · rw [eq j h'] at hb; exact R.dj i j a ha hb
  th := fun i a ha => by
    by_cases h : S i
    · exact h4 i h a ha
    · rw [eq i h] at ha
      obtain ⟨o, e, n⟩ := R.th i a ha
      exact ⟨o, h1 a o (fun j hj z => h (R.dj j i a z ha ▸ hj)) e, n⟩
  fr := fun p hp a o e hn => h1 a o (fun i _ z => (R.out p hp i a z).elim (fun y => by rw [y] at e; cases e) hn) (R.fr p hp a o e hn)
  out := fun p hp i a ha => by
    by_cases h : S i
    · rcases h3 i h a ha with ⟨l, _, hm⟩ | x
      · exact R.out p hp l a hm
      · by_cases hp2 : p.2 a
        · exact .inr hp2
        · refine .inl ?_
          cases e : p.1 a with
          | none => rfl
          | some o => rw [R.fr p hp a o e hp2] at x; cases x
    · rw [eq i h] at ha; exact R.out p hp i a ha
  own := fun i s hs a ha => by
    by_cases h : S i
    · rcases h3 i h a ha with ⟨l, hl, hm⟩ | x
      · exact ho i l s h hl hs a hm
      · exact R.old a x
    · rw [eq i h] at ha; exact R.own i s hs a ha
  old := fun a e => R.old a (h2 a e)
  sl := fun i d e => by
    by_cases h : S i
    · exact hi i d h e
    · rw [hρ i h] at e
      obtain ⟨v, e1, e2⟩ := R.sl i d e
      refine ⟨v, e1, ?_⟩
      rw [eq i h]
      have nin : ∀ a, (∀ l, a ∉ Fs l) → H a ≠ none → ∀ l, a ∉ Fs' l := fun a x y l z => by
        by_cases hl : S l
        · rcases h3 l hl a z with ⟨m, _, hm⟩ | q
          · exact x m hm
          · exact y q
        · rw [eq l hl] at z; exact x l z
      refine e2.mono (fun al a hal x y => ?_) fun a o x e => h1 a o (fun l hl z => ?_) e
      · match al, hal, x with
        | 0, _, x => exact ⟨nin a x.1 y, x.2⟩
        | 1, _, x => exact nin a x y
      · rcases x with x | x | x
        · exact x l z
        · exact h (R.dj l i a z x ▸ hl)
        · obtain ⟨o', e', n'⟩ := R.th l a z
          rw [e] at e'; cases e'; exact n' x
  mp := R.mp
  len := by rw [R.len, hl]

end
/-- what is owned and holds nothing else that may change -/
def immIn : Sh → D → Bool
  | .fz, d => d.imm
  | .l s, .lst l => l.all (immIn s)
  | .d, .dct m => m.all fun p => p.2.imm
  | .land, _ => true
  | .pile, .pile l => immA l
  | .pile, .raw => true
  | .m, .lst l => immA l
  | .m, d => d.imm
  | .tl, .tup (.lst l :: es) => immA l && immA es
  | _, _ => false
theorem P3.impD {P P' : V → D → List Addr → Prop} : ∀ {vs ds Fs}, P3 P vs ds Fs → (∀ v d F, d ∈ ds → F ∈ Fs → P v d F → P' v d F) → P3 P' vs ds Fs
  | _, _, _, .nil, _ => .nil
  | _, _, _, .cons h t, f => .cons (f _ _ _ (by simp) (by simp) h) (t.impD fun v d F hd hF => f v d F (by simp [hd]) (by simp [hF]))
theorem immA_zip {ks : List (List Key)} : ∀ {ds : List D}, ds.length ≤ ks.length → ((ks.zip ds).all fun p => p.2.imm) = true → immA ds = true := by
  induction ks with
  | nil => intro ds hl _; cases ds with
    | nil => simp
    | cons d ds => simp at hl
  | cons k ks ih =>
    intro ds hl h
    cases ds with
    | nil => simp
    | cons d ds =>
      simp only [List.zip_cons_cons, List.all_cons, Bool.and_eq_true] at h
      rw [immA_cons, h.1, ih (by simpa using hl) h.2]
      rfl
theorem Own.immIn {c : Ct} {W W' : Addr → Prop} {H : Hp} : ∀ {s : Sh} {v : V} {d : D} {F : List Addr}, Own c W H s v d F → immIn s d = true → Own c W' H s v d F
  | .fz, v, d, F, ⟨e, h⟩, hd => ⟨e, h.imm (fun _ _ _ x => x) hd⟩
  | .l s, v, d, F, ⟨a, xs, ds, Gs, e1, e2, h1, h2, e3⟩, hd => by
    subst e2
    rw [VS.immIn, List.all_eq_true] at hd
    exact ⟨a, xs, ds, Gs, e1, rfl, h1, h2.impD fun v d F hm _ ho => Own.immIn ho (hd d hm), e3⟩
  | .d, v, d, F, ⟨a, ks, vs, ds, e1, e2, h1, h2, h3, e3⟩, hd => by
    subst e2
    rw [VS.immIn] at hd
    exact ⟨a, ks, vs, ds, e1, rfl, h1, h2, h3.imm (fun _ _ _ x => x) (immA_zip (by rw [← h3.length, h2]; exact Nat.le_refl _) hd), e3⟩
  | .land, v, d, F, h, hd => h
  | .pile, v, d, F, ⟨a, e1, .inl ⟨dx, r, xs, ds, e2, h1, h2, h3, e3⟩⟩, hd => by
    subst e2
    exact ⟨a, e1, .inl ⟨dx, r, xs, ds, rfl, h1, h2, h3.imm (fun _ _ _ x => x) hd, e3⟩⟩
  | .pile, v, d, F, ⟨a, e1, .inr h⟩, hd => ⟨a, e1, .inr h⟩
  | .m, v, d, F, .inl ⟨e, hi, h⟩, hd => .inl ⟨e, hi, h.imm (fun _ _ _ x => x) hi⟩
  | .m, v, d, F, .inr ⟨a, xs, ds, e1, e2, h1, h2, e3⟩, hd => by
    subst e2
    rw [VS.immIn] at hd
    exact .inr ⟨a, xs, ds, e1, rfl, h1, h2.imm (fun _ _ _ x => x) hd, e3⟩
  | .tl, v, d, F, ⟨t, a, xs, ds, vs, es, e1, e2, h0, h1, h2, h3, e3⟩, hd => by
    subst e2
    rw [VS.immIn, Bool.and_eq_true] at hd
    exact ⟨t, a, xs, ds, vs, es, e1, rfl, h0, h1, h2.imm (fun _ _ _ x => x) hd.1, h3.imm (fun _ _ _ x => x) hd.2, e3⟩

def jAt (js : List (Option (Nat × Sh))) (i : Nat) : Option (Nat × Sh) := (js[i]?).join
def putM (ps : List D) : List (Option (Nat × Sh)) → Nat → Rho → Rho
  | [], _, ρ => ρ
  | m :: js, i, ρ => putM ps js (i + 1) (match m, ps[i]? with
    | some (j, _), some d => ρ.set j (some d)
    | _, _ => ρ)
def jIdx : List (Option (Nat × Sh)) → Nat → Option Nat
  | [], _ => none
  | m :: js, j => if m.map (·.1) = some j then some 0 else (jIdx js j).map (· + 1)
theorem jIdx_some : ∀ {js : List (Option (Nat × Sh))} {j i : Nat}, jIdx js j = some i → ∃ s, jAt js i = some (j, s)
  | [], j, i, h => by simp [jIdx] at h
  | m :: js, j, i, h => by
    unfold jIdx at h
    split at h
    · rename_i e
      cases h
      cases m with
      | none => cases e
      | some p => exact ⟨p.2, by simp at e; simp [jAt, ← e]⟩
    · cases e : jIdx js j with
      | none => rw [e] at h; cases h
      | some i' =>
        rw [e] at h
        cases h
        obtain ⟨s, hs⟩ := jIdx_some e
        exact ⟨s, by simpa [jAt] using hs⟩
theorem jIdx_of : ∀ {js : List (Option (Nat × Sh))} {j i : Nat} {s : Sh}, jAt js i = some (j, s) → ∃ i', jIdx js j = some i'
  | [], j, i, s, h => by simp [jAt] at h
  | m :: js, j, i, s, h => by
    unfold jIdx
    split
    · exact ⟨0, rfl⟩
    · rename_i e
      cases i with
      | zero => simp [jAt] at h; rw [h] at e; exact absurd rfl e
      | succ i =>
        obtain ⟨i', h'⟩ := jIdx_of (js := js) (j := j) (i := i) (s := s) (by simpa [jAt] using h)
        exact ⟨i' + 1, by rw [h']; rfl⟩
theorem putM_len {ps : List D} : ∀ {js : List (Option (Nat × Sh))} {b : Nat} {ρ : Rho}, (putM ps js b ρ).length = ρ.length
  | [], _, _ => rfl
  | m :: js, b, ρ => by
    unfold putM
    rw [putM_len]
    split <;> simp
theorem putM_ne {ps : List D} {j : Nat} : ∀ {js : List (Option (Nat × Sh))} {b : Nat} {ρ : Rho}, (∀ i s, jAt js i ≠ some (j, s)) → (putM ps js b ρ)[j]? = ρ[j]?
  | [], _, _, _ => rfl
  | m :: js, b, ρ, h => by
    unfold putM
    rw [putM_ne fun i s => by have := h (i + 1) s; simpa [jAt] using this]
    split
    · rename_i j' s' d hd
      rw [List.getElem?_set_ne]
      intro e
      exact h 0 s' (by simp [jAt, e])
    · rfl
theorem putM_at {ps : List D} {j : Nat} {s : Sh} {d : D} : ∀ {js : List (Option (Nat × Sh))} {b i : Nat} {ρ : Rho}, (∀ i i' s s', jAt js i = some (j, s) → jAt js i' = some (j, s') → i = i') → jAt js i = some (j, s) → ps[b + i]? = some d → j < ρ.length → (putM ps js b ρ)[j]? = some (some d)
  | [], _, i, _, _, h, _, _ => by simp [jAt] at h
  | m :: js, b, 0, ρ, inj, h, hd, hl => by
    have hm : m = some (j, s) := by simpa [jAt] using h
    subst hm
    unfold putM
    rw [putM_ne fun i s' e => by
      have := inj 0 (i + 1) s s' (by simp [jAt]) (by simpa [jAt] using e)
      omega]
    rw [Nat.add_zero] at hd
    rw [hd]
    exact List.getElem?_set_self hl
  | m :: js, b, i + 1, ρ, inj, h, hd, hl => by
    unfold putM
    refine putM_at (i := i) (fun i i' s s' h1 h2 => ?_) (by simpa [jAt] using h) (by rw [show b + 1 + i = b + (i + 1) by omega]; exact hd) ?_
    · have := inj (i + 1) (i' + 1) s s' (by simpa [jAt] using h1) (by simpa [jAt] using h2)
      omega
    · split <;> simpa using hl
theorem inj_of : ∀ {js : List (Option (Nat × Sh))}, (js.filterMap fun m => m.map (·.1)).Nodup → ∀ j i i' s s', jAt js i = some (j, s) → jAt js i' = some (j, s') → i = i'
  | [], _, j, i, i', s, s', h, _ => by simp [jAt] at h
  | m :: js, nd, j, i, i', s, s', h, h' => by
    have mem : ∀ {i s}, jAt js i = some (j, s) → j ∈ js.filterMap fun m => m.map (·.1) := fun {i s} h => by
      rw [List.mem_filterMap]
      unfold jAt at h
      cases e : js[i]? with
      | none => rw [e] at h; cases h
      | some m =>
        rw [e] at h
        exact ⟨m, List.mem_of_getElem? e, by rw [show m = some (j, s) from h]; rfl⟩
    have nd' : (js.filterMap fun m => m.map (·.1)).Nodup := by
      cases m with
      | none => simpa using nd
      | some p => exact (List.nodup_cons.mp (by simpa using nd)).2
    have hd : ∀ {i s s'}, m = some (j, s') → jAt js i = some (j, s) → False := fun {i s s'} e hh => by
      subst e
      have := (List.nodup_cons.mp (by simpa using nd : (j :: js.filterMap fun m => m.map (·.1)).Nodup)).1
      exact this (mem hh)
    cases i with
    | zero =>
      cases i' with
      | zero => rfl
      | succ i' => exact (hd (by simpa [jAt] using h) (by simpa [jAt] using h' : jAt js i' = _)).elim
    | succ i =>
      cases i' with
      | zero => exact (hd (by simpa [jAt] using h') (by simpa [jAt] using h : jAt js i = _)).elim
      | succ i' => rw [inj_of nd' j i i' s s' (by simpa [jAt] using h) (by simpa [jAt] using h')]
inductive ARG (c : Ct) (md : Sh → Mo) (M : Nat → Mo) (W : Addr → Prop) (H' : Hp) (σ : L2.St) (ρ : Rho) : List (Option (Nat × Sh)) → List V → List D → Prop
  | nil : ARG c md M W H' σ ρ [] [] []
  | rd {v d js vs ds} : Is c W H' v d → ARG c md M W H' σ ρ js vs ds → ARG c md M W H' σ ρ (none :: js) (v :: vs) (d :: ds)
  | own {v d j s js vs ds} : σ[j]? = some (some v) → ρ[j]? = some (some d) → M j = md s → immIn s d = true → ARG c md M W H' σ ρ js vs ds → ARG c md M W H' σ ρ (some (j, s) :: js) (v :: vs) (d :: ds)
section
variable {c : Ct} {M : Nat → Mo} {md : Sh → Mo} {B : Bs} {Fs : Nat → List Addr} {H H' : Hp} {σ : L2.St} {ρ : Rho} {X : Cx} {We : WX} {k al al' i j : Nat} {W W' : Addr → Prop} {js : List (Option (Nat × Sh))} {vs : List V} {ds : List D}
theorem ARG.len : ∀ {js vs ds}, ARG c md M W H' σ ρ js vs ds → vs.length = ds.length ∧ js.length = ds.length
  | _, _, _, .nil => ⟨rfl, rfl⟩
  | _, _, _, .rd _ t => by simp [t.len.1, t.len.2]
  | _, _, _, .own _ _ _ _ t => by simp [t.len.1, t.len.2]
theorem ARG.at_ : ∀ {js vs ds}, ARG c md M W H' σ ρ js vs ds → ∀ i d, ds[i]? = some d → ∃ v, vs[i]? = some v ∧ (match jAt js i with
    | some (j, s) => σ[j]? = some (some v) ∧ ρ[j]? = some (some d) ∧ M j = md s ∧ immIn s d = true
    | none => Is c W H' v d)
  | _, _, _, .nil, i, d, e => by simp at e
  | _, _, _, .rd h t, 0, d, e => by simp at e; subst e; exact ⟨_, rfl, h⟩
  | _, _, _, .own h1 h2 h3 h4 t, 0, d, e => by simp at e; subst e; exact ⟨_, rfl, h1, h2, h3, h4⟩
  | _, _, _, .rd h t, i + 1, d, e => by
    obtain ⟨v, e1, e2⟩ := t.at_ i d (by simpa using e)
    exact ⟨v, by simpa using e1, by simpa [jAt] using e2⟩
  | _, _, _, .own h1 h2 h3 h4 t, i + 1, d, e => by
    obtain ⟨v, e1, e2⟩ := t.at_ i d (by simpa using e)
    exact ⟨v, by simpa using e1, by simpa [jAt] using e2⟩
theorem ARG.slot : ∀ {js vs ds}, ARG c md M W H' σ ρ js vs ds → ∀ i j s, jAt js i = some (j, s) → ∃ v d, vs[i]? = some v ∧ ds[i]? = some d ∧ σ[j]? = some (some v) ∧ ρ[j]? = some (some d) ∧ M j = md s
  | _, _, _, .nil, i, j, s, e => by simp [jAt] at e
  | _, _, _, .rd h t, 0, j, s, e => by simp [jAt] at e
  | _, _, _, .own h1 h2 h3 h4 t, 0, j, s, e => by simp [jAt] at e; obtain ⟨rfl, rfl⟩ := e; exact ⟨_, _, rfl, rfl, h1, h2, h3⟩
  | _, _, _, .rd h t, i + 1, j, s, e => by
    obtain ⟨v, d, e1, e2, e3⟩ := t.slot i j s (by simpa [jAt] using e)
    exact ⟨v, d, by simpa using e1, by simpa using e2, e3⟩
  | _, _, _, .own h1 h2 h3 h4 t, i + 1, j, s, e => by
    obtain ⟨v, d, e1, e2, e3⟩ := t.slot i j s (by simpa [jAt] using e)
    exact ⟨v, d, by simpa using e1, by simpa using e2, e3⟩
theorem ARG.same {H2 : Hp} (hs : Same H' H2) : ∀ {js vs ds}, ARG c md M W H' σ ρ js vs ds → ARG c md M W H2 σ ρ js vs ds
  | _, _, _, .nil => .nil
  | _, _, _, .rd h t => .rd (h.same hs) (t.same hs)
  | _, _, _, .own h1 h2 h3 h4 t => .own h1 h2 h3 h4 (t.same hs)
def shs (js : List (Option (Nat × Sh))) : List (Option Sh) := js.map fun m => m.map (·.2)
theorem ownAt_shs {js : List (Option (Nat × Sh))} {i : Nat} : ownAt (shs js) i = (jAt js i).map (·.2) := by
  unfold ownAt shs jAt
  rw [List.getElem?_map]
  cases js[i]? with
  | none => rfl
  | some m => rfl
def cFs (js : List (Option (Nat × Sh))) (Fs : Nat → List Addr) : Nat → List Addr := fun i => match jAt js i with
  | some p => Fs p.1
  | none => []
theorem ARG.argM (R : RelF c M B Fs H' σ ρ) (hmd : md = Mo.o ∨ md = Mo.p) (inj : ∀ j i i' s s', jAt js i = some (j, s) → jAt js i' = some (j, s') → i = i') (h : ARG c md M (fun a => ∀ l, a ∉ Fs l) H' σ ρ js vs ds) : ArgM c H' (shs js) vs ds (cFs js Fs) where
  lv := h.len.1
  lm := by rw [← h.len.2]; simp [shs]
  nd := fun i => by
    unfold cFs
    split
    · exact R.nd _
    · simp
  dj := fun i i' a ha hb => by
    unfold cFs at ha hb
    cases e1 : jAt js i with
    | none => rw [e1] at ha; simp at ha
    | some p =>
      cases e2 : jAt js i' with
      | none => rw [e2] at hb; simp at hb
      | some p' =>
        rw [e1] at ha; rw [e2] at hb
        have e := R.dj _ _ a ha hb
        obtain ⟨j, s⟩ := p
        obtain ⟨j', s'⟩ := p'
        dsimp only at e
        subst e
        exact inj j i i' s s' e1 e2
  no := fun i e => by
    rw [ownAt_shs] at e
    unfold cFs
    cases e1 : jAt js i with
    | none => rfl
    | some p => rw [e1] at e; cases e
  at_ := fun i d e => by
    obtain ⟨v, e1, e2⟩ := h.at_ i d e
    refine ⟨v, e1, ?_⟩
    rw [ownAt_shs]
    cases e3 : jAt js i with
    | none =>
      rw [e3] at e2
      refine Is.up e2 fun a x l => ?_
      unfold cFs
      split
      · exact x _
      · simp
    | some p =>
      rw [e3] at e2
      obtain ⟨j, s⟩ := p
      obtain ⟨h1, h2, h3, h4⟩ := e2
      obtain ⟨v', q1, q2⟩ := R.sl j d h2
      rw [h1] at q1
      cases q1
      show Own c _ H' s v d (cFs js Fs i)
      unfold cFs
      rw [e3]
      rw [h3] at q2
      rcases hmd with rfl | rfl
      · exact Own.immIn q2 h4
      · exact q2
/-- what stands behind such a call -/
theorem RelF.after {ps : List D} {Fc : Nat → List Addr} (R : RelF c M B Fs H σ ρ) (hmd : md = Mo.o ∨ md = Mo.p) (inj : ∀ j i i' s s', jAt js i = some (j, s) → jAt js i' = some (j, s') → i = i') (h : ARG c md M W H σ ρ js vs ds) (A : AfterM c H H' (shs js) vs ps (cFs js Fs) Fc) :
    RelF c M B (fun j => match jIdx js j with
      | some i => Fc i
      | none => Fs j) H' σ (putM ps js 0 ρ) := by
  have idx : ∀ {i j s}, jAt js i = some (j, s) → jIdx js j = some i := fun {i j s} e => by
    obtain ⟨i', e'⟩ := jIdx_of e
    obtain ⟨s', hs⟩ := jIdx_some e'
    rw [e', inj j i' i s' s hs e]
  have cf : ∀ {i j s}, jAt js i = some (j, s) → cFs js Fs i = Fs j := fun {i j s} e => by
    unfold cFs
    rw [e]
  refine R.putN (fun j => (jIdx js j).isSome) (fun a o hn e => A.fr a o (fun i z => ?_) e) A.old (fun j hj => ?_) (fun j j' a hj hj' ha hb => ?_) (fun j hj => ?_) (fun j hj a ha => ?_) (fun j hj a ha => ?_) (fun j hj => putM_ne fun i s e => hj (by rw [idx e]; rfl)) putM_len (fun j j' s hj hj' hs a ha => ?_) fun j d hj e => ?_
  · unfold cFs at z
    cases e1 : jAt js i with
    | none => rw [e1] at z; simp at z
    | some p =>
      rw [e1] at z
      exact hn p.1 (by rw [idx (s := p.2) e1]; rfl) z
  · obtain ⟨i, e⟩ := Option.isSome_iff_exists.mp hj
    rw [e]; exact A.nd i
  · obtain ⟨i, e⟩ := Option.isSome_iff_exists.mp hj
    obtain ⟨i', e'⟩ := Option.isSome_iff_exists.mp hj'
    rw [e] at ha; rw [e'] at hb
    have := A.dj i i' a ha hb
    subst this
    obtain ⟨s, h1⟩ := jIdx_some e
    obtain ⟨s', h2⟩ := jIdx_some e'
    rw [h1] at h2; cases h2; rfl
  · cases e : jIdx js j with
    | none => rfl
    | some i => exact absurd (by rw [e]; rfl) hj
  · obtain ⟨i, e⟩ := Option.isSome_iff_exists.mp hj
    rw [e] at ha
    rcases A.new i a ha with ⟨i', hm⟩ | x
    · refine .inl ?_
      unfold cFs at hm
      cases e1 : jAt js i' with
      | none => rw [e1] at hm; simp at hm
      | some p => rw [e1] at hm; exact ⟨p.1, by rw [idx (s := p.2) e1]; rfl, hm⟩
    · exact .inr x
  · obtain ⟨i, e⟩ := Option.isSome_iff_exists.mp hj
    rw [e] at ha
    obtain ⟨s, h1⟩ := jIdx_some e
    obtain ⟨v, d', q1, q2, q3⟩ := A.at_ i s (by rw [ownAt_shs, h1]; rfl)
    exact q3.there a ha
  · obtain ⟨i, e⟩ := Option.isSome_iff_exists.mp hj
    obtain ⟨i', e'⟩ := Option.isSome_iff_exists.mp hj'
    obtain ⟨s1, h1⟩ := jIdx_some e
    obtain ⟨s2, h2⟩ := jIdx_some e'
    obtain ⟨_, _, _, _, _, _, m1⟩ := h.slot i j s1 h1
    obtain ⟨_, _, _, _, _, _, m2⟩ := h.slot i' j' s2 h2
    rcases hmd with rfl | rfl
    · exact R.own j' s2 m2 a ha
    · rw [m1] at hs; cases hs
  · obtain ⟨i, e1⟩ := Option.isSome_iff_exists.mp hj
    obtain ⟨s, h1⟩ := jIdx_some e1
    obtain ⟨v, d0, q1, q2, q3, q4, q5⟩ := h.slot i j s h1
    obtain ⟨v', d', p1, p2, p3⟩ := A.at_ i s (by rw [ownAt_shs, h1]; rfl)
    rw [q1] at p1
    cases p1
    have hl : j < ρ.length := (List.getElem?_eq_some_iff.mp q4).1
    rw [putM_at (inj j) h1 (by rw [Nat.zero_add]; exact p2) hl] at e
    cases e
    refine ⟨v, q3, ?_⟩
    rw [q5]
    simp only [e1]
    rcases hmd with rfl | rfl
    · exact p3.mono (fun _ z => z.elim) fun _ _ _ e => e
    · exact p3
end
end VS
set_option Elab.async false
set_option linter.all false
set_option maxRecDepth 100000
set_option maxHeartbeats 2000000
/-! VN: expressions that change what a slot owns; calls of such defs; methods. -/
namespace VS
open PySem L2

/-- what such an expression gives: a value (that can not change), or an exception; the slots then -/
inductive Xo where
  | v (d : D) (ρ : Rho)
  | ex (k : Value) (ρ : Rho)
abbrev XF := Rho → O Xo
structure VX (X : Cx) (c : Ct) (M : Nat → Mo) (We : WX) (e : Expr) (f : XF) : Prop where
  ex : ∃ te, PE X e te ∧ ∀ (B : Bs) (σ : L2.St) (H : Hp) (ρ : Rho) (Q : VK), Rel c M B H σ ρ →
    Po (f ρ) (fun r => match r with
      | .v d ρ' => ∀ v H', Rel c M B H' σ ρ' → Is c (fun _ => False) H' v d → Q v H'
      | .ex k ρ' => ∀ H', Rel c M B H' σ ρ' → We k none σ H') (fun k => ∀ H', FrB B H' → We k none σ H') → te σ H Q
structure VXA (X : Cx) (c : Ct) (M : Nat → Mo) (We : WX) (es : List Expr) (f : Rho → O (Xo × List D)) : Prop where
  ex : ∃ ta, PA X es ta ∧ ∀ (B : Bs) (σ : L2.St) (H : Hp) (ρ : Rho) (Q : List V → Hp → Prop), Rel c M B H σ ρ →
    Po (f ρ) (fun r => match r with
      | (.v _ ρ', ds) => ∀ vs H', Rel c M B H' σ ρ' → IsA c (fun _ => False) H' vs ds → Q vs H'
      | (.ex k ρ', _) => ∀ H', Rel c M B H' σ ρ' → We k none σ H') (fun k => ∀ H', FrB B H' → We k none σ H') → ta σ H Q
structure VXT (X : Cx) (c : Ct) (M : Nat → Mo) (We : WX) (e : Expr) (f : XF) : Prop where
  ex : ∃ tt, PT X e tt ∧ ∀ (B : Bs) (σ : L2.St) (H : Hp) (ρ : Rho) (Q : Bool → Hp → Prop), Rel c M B H σ ρ →
    Po (f ρ) (fun r => match r with
      | .v d ρ' => ∃ b, d = .bl b ∧ ∀ H', Rel c M B H' σ ρ' → Q b H'
      | .ex k ρ' => ∀ H', Rel c M B H' σ ρ' → We k none σ H') (fun k => ∀ H', FrB B H' → We k none σ H') → tt σ H Q
structure VAM (X : Cx) (c : Ct) (md : Sh → Mo) (M : Nat → Mo) (We : WX) (js : List (Option (Nat × Sh))) (es : List Expr) (f : AF) : Prop where
  ex : ∃ ta, PA X es ta ∧ ∀ (B : Bs) (Fs : Nat → List Addr) (σ : L2.St) (H : Hp) (ρ : Rho) (Q : List V → Hp → Prop), RelF c M B Fs H σ ρ →
    Po (f ρ) (fun ds => ∀ vs H', Same H H' → ARG c md M (fun a => ∀ l, a ∉ Fs l) H' σ ρ js vs ds → Q vs H') (fun k => ∀ H', Same H H' → We k none σ H') → ta σ H Q

/-! ### meanings -/
/-- r, then what follows -/
def Xo.then (r : O Xo) (f : D → Rho → O Xo) : O Xo := r.bind fun x => match x with
  | .v d ρ => f d ρ
  | .ex k ρ => .ok (.ex k ρ)
def xP (f : EF) : XF := fun ρ => (f ρ).bind fun d => gd d.imm (.ok (.v d ρ))
/-- a call of a def that changes the slots js -/
def xCall (js : List (Option (Nat × Sh))) (as : AF) (F : List D → O Rz) : XF := fun ρ => (as ρ).bind fun ds => (F ds).bind fun r => match r with
  | .rt d ps => gd d.imm (.ok (.v d (putM ps js 0 ρ)))
  | .ex k ps => .ok (.ex k (putM ps js 0 ρ))
def x1 (f : D → O D) (x : XF) : XF := fun ρ => Xo.then (x ρ) fun d ρ => (f d).bind fun d => gd d.imm (.ok (.v d ρ))
def eOwn (s : Sh) (j : Nat) : EF := fun ρ => (eVar j ρ).bind fun d => gd (immIn s d) (.ok d)
def xaNil : Rho → O (Xo × List D) := fun ρ => .ok (.v .non ρ, [])
def xaCons (x : XF) (xs : Rho → O (Xo × List D)) : Rho → O (Xo × List D) := fun ρ => (x ρ).bind fun r => match r with
  | .v d ρ => (xs ρ).bind fun r => match r with
    | (.v e ρ, ds) => .ok (.v e ρ, d :: ds)
    | (.ex k ρ, ds) => .ok (.ex k ρ, ds)
  | .ex k ρ => .ok (.ex k ρ, [])
/-- a call of a def that changes nothing -/
def xCallP (xs : Rho → O (Xo × List D)) (F : List D → O D) : XF := fun ρ => (xs ρ).bind fun r => match r with
  | (.v _ ρ, ds) => (F ds).bind fun d => gd d.imm (.ok (.v d ρ))
  | (.ex k ρ, _) => .ok (.ex k ρ)
def xB (x : XF) : XF := fun ρ => Xo.then (x ρ) fun d ρ => match d with
  | .bl b => .ok (.v (.bl b) ρ)
  | _ => .bad
def x2 (g : D → D → O D) (x y : XF) : XF := fun ρ => Xo.then (x ρ) fun d ρ => Xo.then (y ρ) fun e ρ => (g d e).bind fun r => gd r.imm (.ok (.v r ρ))
def xNot (x : XF) : XF := fun ρ => Xo.then (x ρ) fun d ρ => match d with
  | .bl b => .ok (.v (.bl !b) ρ)
  | _ => .bad
def xOr (x y : XF) : XF := fun ρ => Xo.then (x ρ) fun d ρ => match d with
  | .bl true => .ok (.v (.bl true) ρ)
  | .bl false => y ρ
  | _ => .bad
def xAnd (x y : XF) : XF := fun ρ => Xo.then (x ρ) fun d ρ => match d with
  | .bl false => .ok (.v (.bl false) ρ)
  | .bl true => y ρ
  | _ => .bad
def xT (t : TF) : XF := fun ρ => (t ρ).bind fun b => .ok (.v (.bl b) ρ)
def sX (x : XF) (f : D → Rho → O Out) : SF := fun ρ => (x ρ).bind fun r => match r with
  | .v d ρ => f d ρ
  | .ex k ρ => .ok (.ex k ρ)
def sDropX (x : XF) : SF := sX x fun _ ρ => .ok (.nx ρ)
def sSetX (i : Nat) (x : XF) : SF := sX x fun d ρ => gd (decide (i < ρ.length)) (.ok (.nx (ρ.set i (some d))))
def sRetX (x : XF) : SF := sX x fun d ρ => .ok (.rt d ρ)
def sIfX (x : XF) (g g' : SF) : SF := sX x fun d ρ => match d with
  | .bl true => g ρ
  | .bl false => g' ρ
  | _ => .bad

section
variable {c : Ct} {M M' M1 Ml : Nat → Mo} {B : Bs} {H H' : Hp} {σ : L2.St} {ρ : Rho} {X : Cx} {We : WX} {k k' al al' i j : Nat} {rs : Sh} {st : Stmt} {sts : List Stmt} {e a b : Expr} {f : EF} {g g' : SF} {t : TF} {pos apos : Pos} {x y : XF} {md : Sh → Mo} {js : List (Option (Nat × Sh))}
  {es : List Expr} {fs : AF} {xs : Rho → O (Xo × List D)}
theorem FrB.of {Fs : Nat → List Addr} (R : RelF c M B Fs H σ ρ) : FrB B H := fun p hp a o e hn => R.fr p hp a o e hn
theorem Po.exc_x {α : Type} {r : O α} {P : α → Prop} {Fs : Nat → List Addr} (R : RelF c M B Fs H σ ρ) (h : Po r P (fun k => ∀ H, FrB B H → We k none σ H)) : Po r P (fun k => ∀ H', Same H H' → We k none σ H') :=
  h.imp (fun _ _ q => q) fun _ _ q H' hs => q H' fun p hp a o e hn => hs a o (R.fr p hp a o e hn)

/-! ### arguments of a call that changes slots -/
theorem vam_nil : VAM X c md M We [] [] aNil := ⟨_, pa_nil, fun B Fs σ H ρ Q R po => po _ H (Same.refl H) .nil⟩
theorem vam_rd (h : VE X c M We al e f) (hal : al ≤ 1) (t : VAM X c md M We js es fs) (hs : starEach (e :: es) X.env = (false, eval e X.env) :: starEach es X.env := by rfl) : VAM X c md M We (none :: js) (e :: es) (aCons f fs) := by
  obtain ⟨te, p, s⟩ := h.ex
  obtain ⟨ta, p', s'⟩ := t.ex
  refine ⟨_, pa_cons p p' hs, fun B Fs σ H ρ Q R po => s _ σ H ρ _ R.slots ((Po.bind po).imp (fun d _ q v H1 hs hi => ?_) fun _ _ q => q)⟩
  refine s' B Fs σ H1 ρ _ (R.same hs) ((Po.bind q).imp (fun ds _ q vs H2 hs2 hi2 => ?_) fun _ _ q H2 hs2 => q H2 (hs.trans hs2))
  refine q _ H2 (hs.trans hs2) (.rd (Is.up (hi.same hs2) fun a z l => ?_) hi2)
  rcases z with z | z
  · exact (wd B Fs).up hal a z l
  · exact R.newNot z l
theorem vam_own {n : Str} (j : Nat) (s : Sh) (hm : M j = md s) (t : VAM X c md M We js es fs) (hN : X.N[j]? = some n := by rfl) (hv : Vis X.env.scope n := by first | exact Or.inl rfl | exact Or.inr (Or.inl rfl) | exact Or.inr (Or.inr rfl)) (hd : (n == ("__debug__" : Str)) = false := by decide)
    (hcd : (n == ("__classdict__" : Str)) = false := by decide) (hs : starEach (.Name n pos :: es) X.env = (false, eval (.Name n pos) X.env) :: starEach es X.env := by rfl) : VAM X c md M We (some (j, s) :: js) (.Name n pos :: es) (aCons (eOwn s j) fs) := by
  obtain ⟨ta, p', s'⟩ := t.ex
  refine ⟨_, pa_cons (pv j hN hv hd hcd) p' hs, fun B Fs σ H ρ Q R po => ?_⟩
  obtain ⟨d, hr, po⟩ := po_var (i := j) (ρ := ρ) (f := fun d => gd (immIn s d) (.ok d)) (Po.bind (r := eOwn s j ρ) po)
  obtain ⟨hi, po⟩ := Po.gd po
  obtain ⟨v, h1, h2⟩ := R.sl j d hr
  refine ⟨v, h1, ?_⟩
  exact s' B Fs σ H ρ _ R ((Po.bind (r := fs ρ) po).imp (fun ds _ q vs H2 hs2 hi2 => q _ H2 hs2 (.own h1 hr hm hi hi2)) fun _ _ q => q)

/-! ### what changes nothing -/
theorem vx_of (h : VE X c M We al e f) : VX X c M We e (xP f) := by
  obtain ⟨te, p, s⟩ := h.ex
  refine ⟨te, p, fun B σ H ρ Q R po => ?_⟩
  obtain ⟨Fs, R⟩ := R
  refine s _ σ H ρ Q R.slots ((Po.exc_x R (Po.bind po)).imp (fun d _ q v H' hs hi => ?_) fun _ _ q => q)
  obtain ⟨hd, q⟩ := Po.gd q
  exact q v H' ⟨Fs, R.same hs⟩ (hi.imm (fun _ _ _ z => z) hd)
theorem vxt_of (h : VT X c M We e t) : VXT X c M We e (xT t) := by
  obtain ⟨tt, p, s⟩ := h.ex
  refine ⟨tt, p, fun B σ H ρ Q R po => ?_⟩
  obtain ⟨Fs, R⟩ := R
  refine s _ σ H ρ Q R.slots ((Po.exc_x R (Po.bind po)).imp (fun b _ q H' hs => ?_) fun _ _ q => q)
  obtain ⟨b', hb, q⟩ := q
  cases hb
  exact q H' ⟨Fs, R.same hs⟩

/-! ### calls -/
/-- behind a callee that keeps spM -/
theorem spM_call {F : List D → O Rz} {Fs : Nat → List Addr} {vs : List V} {ds : List D} {Q : VK} {H0 : Hp} (R : RelF c M B Fs H σ ρ) (hmd : md = Mo.o ∨ md = Mo.p) (inj : (js.filterMap fun m => m.map (·.1)).Nodup) (ha : ARG c md M (fun a => ∀ l, a ∉ Fs l) H σ ρ js vs ds)
    (po : Po ((F ds).bind fun r => match r with
      | .rt d ps => gd d.imm (.ok (Xo.v d (putM ps js 0 ρ)))
      | .ex k ps => .ok (.ex k (putM ps js 0 ρ))) (fun r => match r with
      | .v d ρ' => ∀ v H', Rel c M B H' σ ρ' → Is c (fun _ => False) H' v d → Q v H'
      | .ex k ρ' => ∀ H', Rel c M B H' σ ρ' → We k none σ H') (fun k => ∀ H', FrB B H' → We k none σ H')) (hne : ∀ k, F ds ≠ .exc k) : spM c (shs js) .fz F vs H Q (WE We σ) := by
  refine ⟨ds, cFs js Fs, ha.argM R hmd (inj_of inj), (Po.bind po).imp (fun r _ q => ?_) fun kx ek _ => hne kx ek⟩
  cases r with
  | rt d ps =>
    intro v H' Fc Fp A n1 n2 n3
    obtain ⟨hd, q⟩ := Po.gd q
    exact q v H' ⟨_, R.after hmd (inj_of inj) ha A⟩ (Is.imm (fun _ _ _ z => z) n3.2 hd)
  | ex k ps =>
    intro H' Fc A
    exact q H' ⟨_, R.after hmd (inj_of inj) ha A⟩
/-- a def whose exceptions are told with the state -/
def noExc (F : List D → O Rz) : Prop := ∀ ds k, F ds ≠ .exc k
theorem runM_noExc {n : Nat} {ms : List (Option Sh)} {rs : Sh} {g : SF} : noExc (runM n ms rs g) := by
  intro ds k h
  have hpar : ∀ (ρ : Rho) (ms : List (Option Sh)) (b : Nat) (k : Value), parD ρ ms b ≠ .exc k := by
    intro ρ ms
    induction ms with
    | nil => intro b k h; cases h
    | cons m ms ih =>
      intro b k h
      unfold parD at h
      have hv : ∀ kk, (if m.isSome then eVar b ρ else .ok .non) ≠ .exc kk := by
        intro kk h
        split at h
        · unfold eVar at h
          split at h <;> cases h
        · cases h
      cases h1 : (if m.isSome then eVar b ρ else .ok .non) with
      | bad => rw [h1] at h; cases h
      | exc kk => exact hv kk h1
      | ok d =>
        rw [h1, O.bind_ok] at h
        cases h2 : parD ρ ms (b + 1) with
        | bad => rw [h2] at h; cases h
        | exc kk => exact ih (b + 1) kk h2
        | ok ds => rw [h2] at h; cases h
  unfold runM at h
  cases hb : (decide (ds.length = ms.length) && decide (ms.length ≤ n)) with
  | false => rw [hb] at h; cases h
  | true =>
    rw [hb, gd_true] at h
    cases hg : g (startD n ds) with
    | bad => rw [hg] at h; cases h
    | exc kk => rw [hg] at h; cases h
    | ok out =>
      rw [hg] at h
      cases out with
      | bk ρ' => cases h
      | ct ρ' => cases h
      | nx ρ' =>
        replace h : gd (decide (rs = .fz)) ((parD ρ' ms 0).bind fun ps => O.ok (Rz.rt .non ps)) = O.exc k := h
        cases hd : decide (rs = Sh.fz) with
        | false => rw [hd] at h; cases h
        | true =>
          rw [hd, gd_true] at h
          cases hp : parD ρ' ms 0 with
          | bad => rw [hp] at h; cases h
          | exc kk => exact hpar _ _ _ _ hp
          | ok ps => rw [hp] at h; cases h
      | rt d ρ' =>
        replace h : ((parD ρ' ms 0).bind fun ps => O.ok (Rz.rt d ps)) = O.exc k := h
        cases hp : parD ρ' ms 0 with
        | bad => rw [hp] at h; cases h
        | exc kk => exact hpar _ _ _ _ hp
        | ok ps => rw [hp] at h; cases h
      | ex kx ρ' =>
        replace h : ((parD ρ' ms 0).bind fun ps => O.ok (Rz.ex kx ps)) = O.exc k := h
        cases hp : parD ρ' ms 0 with
        | bad => rw [hp] at h; cases h
        | exc kk => exact hpar _ _ _ _ hp
        | ok ps => rw [hp] at h; cases h
theorem vx_call {n : Str} {F : List D → O Rz} {p : Pos} (z : Cz X c We k) (dc : Dc X.prog X.w X.K X.mg X.base k' n (spM c (shs js) .fz F)) (hk : k' ≤ k) (hne : noExc F) (hmd : md = Mo.o ∨ md = Mo.p) (t : VAM X c md M We js (e :: es) fs) (inj : (js.filterMap fun m => m.map (·.1)).Nodup := by decide) (hg : Gl X n := by rfl)
    (hdb : (n == ("__debug__" : Str)) = false := by decide) (he : starEach (e :: es) X.env = (false, eval e X.env) :: starEach es X.env := by rfl) (hpl : (backTo pos (starEach es X.env)).any (·.1) = false := by rfl) :
    VX X c M We (.Call (.Name n p) (e :: es) [] pos) (xCall js fs F) := by
  obtain ⟨f, fd, ps, G, hb, hm, kp⟩ := dc.ex
  obtain ⟨ta, pt, s⟩ := t.ex
  refine ⟨_, pe_callS (G.mono hk) z.hr hg hm kp hb (fun σ => L2N.passAt z.tk σ) pt hdb he hpl, fun B σ H ρ Q R po => ?_⟩
  obtain ⟨Fs, R⟩ := R
  exact s B Fs σ H ρ _ R ((Po.exc_x R (Po.bind po)).imp (fun ds _ q vs H1 hs ha => spM_call (H0 := H) (R.same hs) hmd inj ha q (hne ds)) fun _ _ q => q)
theorem vxa_nil : VXA X c M We [] xaNil := ⟨_, pa_nil, fun B σ H ρ Q R po => po _ H R .nil⟩
/-- what never changes is kept beside -/
def Bs.sta (B : Bs) (H : Hp) : Bs := { B with pr := (H, fun a => ∀ o, H a = some o → ¬ VS.sta o) :: B.pr }
theorem RelF.keepSta {Fs : Nat → List Addr} (R : RelF c M B Fs H σ ρ) : RelF c M (B.sta H) Fs H σ ρ :=
  ⟨R.nd, R.dj, R.th, fun p hp a o e hn => (List.mem_cons.mp hp).elim (fun z => by rw [z] at e; exact e) fun z => R.fr p z a o e hn,
    fun p hp i a ha => (List.mem_cons.mp hp).elim (fun z => by rw [z]; exact .inr fun o e => by obtain ⟨o', e', n⟩ := R.th i a ha; rw [e] at e'; cases e'; exact n) fun z => R.out p z i a ha, R.own, R.old, R.sl, R.mp, R.len⟩
theorem RelF.unSta {Fs : Nat → List Addr} {H0 : Hp} (R : RelF c M (B.sta H0) Fs H σ ρ) : RelF c M B Fs H σ ρ :=
  ⟨R.nd, R.dj, R.th, fun p hp => R.fr p (List.mem_cons_of_mem _ hp), fun p hp => R.out p (List.mem_cons_of_mem _ hp), R.own, R.old, R.sl, R.mp, R.len⟩
theorem RelF.staAt {Fs : Nat → List Addr} {H0 : Hp} (R : RelF c M (B.sta H0) Fs H σ ρ) : ∀ a o, VS.sta o → H0 a = some o → H a = some o := fun a o hs e =>
  R.fr _ List.mem_cons_self a o e fun z => z o e hs
theorem FrB.unSta {H0 : Hp} (h : FrB (B.sta H0) H) : FrB B H := fun p hp => h p (List.mem_cons_of_mem _ hp)
theorem Is.stay {W : Addr → Prop} {v : V} {d : D} (h : Is c (fun _ => False) H v d) (k : ∀ a o, VS.sta o → H a = some o → H' a = some o) : Is c W H' v d := h.mono (fun _ z => z.elim) fun a o z e => k a o (z.elim (fun y => y.elim) fun y => y) e
theorem vxa_cons (h : VX X c M We e x) (t : VXA X c M We es xs) (hs : starEach (e :: es) X.env = (false, eval e X.env) :: starEach es X.env := by rfl) : VXA X c M We (e :: es) (xaCons x xs) := by
  obtain ⟨te, p, s⟩ := h.ex
  obtain ⟨ta, p', s'⟩ := t.ex
  refine ⟨_, pa_cons p p' hs, fun B σ H ρ Q R po => s B σ H ρ _ R ((Po.bind po).imp (fun r _ q => ?_) fun _ _ q => q)⟩
  cases r with
  | ex k ρ1 => exact q
  | v d ρ1 =>
    rintro v H1 ⟨Fs, R1⟩ hi
    refine s' (B.sta H1) σ H1 ρ1 _ ⟨Fs, R1.keepSta⟩ ((Po.bind (r := xs ρ1) q).imp (fun r _ q => ?_) fun _ _ q H' hf => q H' hf.unSta)
    obtain ⟨r, ds⟩ := r
    cases r with
    | ex k ρ2 => exact fun H' ⟨F2, R2⟩ => q H' ⟨F2, R2.unSta⟩
    | v d2 ρ2 =>
      rintro vs H2 ⟨F2, R2⟩ hi2
      exact q _ H2 ⟨F2, R2.unSta⟩ (.cons (hi.stay R2.staAt) hi2)
theorem vx_callP {n : Str} {F : List D → O D} {p : Pos} (z : Cz X c We k) (dc : Dc X.prog X.w X.K X.mg X.base k' n (spP c .fz F)) (hk : k' ≤ k) (t : VXA X c M We (e :: es) xs) (hg : Gl X n := by rfl) (hdb : (n == ("__debug__" : Str)) = false := by decide)
    (he : starEach (e :: es) X.env = (false, eval e X.env) :: starEach es X.env := by rfl) (hpl : (backTo pos (starEach es X.env)).any (·.1) = false := by rfl) : VX X c M We (.Call (.Name n p) (e :: es) [] pos) (xCallP xs F) := by
  obtain ⟨f, fd, ps, G, hb, hm, kp⟩ := dc.ex
  obtain ⟨ta, pt, s⟩ := t.ex
  refine ⟨_, pe_callS (G.mono hk) z.hr hg hm kp hb (fun σ => L2N.passAt z.tk σ) pt hdb he hpl, fun B σ H ρ Q R po => ?_⟩
  refine s B σ H ρ _ R ((Po.bind po).imp (fun r _ q => ?_) fun _ _ q => q)
  obtain ⟨r, ds⟩ := r
  cases r with
  | ex k ρ1 => exact q
  | v d ρ1 =>
    rintro vs H1 ⟨Fs, R1⟩ hi
    refine ⟨ds, hi.up fun _ y => y.elim, (Po.bind (r := F ds) q).imp (fun d2 _ q v H2 Fp hs hn nd ho => ?_) fun kx _ q H2 hs => q H2 fun p hp a o e hn => hs a o (R1.fr p hp a o e hn)⟩
    obtain ⟨hd, q⟩ := Po.gd q
    exact q v H2 ⟨Fs, R1.same hs⟩ (Is.imm (fun _ _ _ z => z) ho.2 hd)

/-! ### tests -/
theorem vxt_val (h : VX X c M We e x) (he : ∀ whole, isTrue e X.env whole = (do let v ← whole; standAt e.pos; holding [v] (truthy v)) := by intro _; rfl) : VXT X c M We e (xB x) := by
  obtain ⟨te, p, s⟩ := h.ex
  refine ⟨_, pt_val p he, fun B σ H ρ Q R po => s B σ H ρ _ R ((Po.bind (r := x ρ) po).imp (fun r _ q => ?_) fun _ _ q => q)⟩
  cases r with
  | ex k ρ1 => exact q
  | v d ρ1 =>
    intro v H1 R1 hi
    cases d with
    | bl b =>
      obtain ⟨b', hb, q⟩ := q
      cases hb
      exact ⟨b, is_bl hi, q H1 R1⟩
    | _ => exact q.elim
theorem vxt_not (h : VXT X c M We e x) : VXT X c M We (.UnaryOp .Not e pos) (xNot x) := by
  obtain ⟨tt, p, s⟩ := h.ex
  refine ⟨_, pt_not p, fun B σ H ρ Q R po => s B σ H ρ _ R ((Po.bind (r := x ρ) po).imp (fun r _ q => ?_) fun _ _ q => q)⟩
  cases r with
  | ex k ρ1 => exact q
  | v d ρ1 =>
    cases d with
    | bl b =>
      obtain ⟨b', hb, q⟩ := q
      cases hb
      exact ⟨b, rfl, fun H1 R1 => q H1 R1⟩
    | _ => exact q.elim
structure VXW (X : Cx) (c : Ct) (M : Nat → Mo) (We : WX) (e : Expr) (f : XF) : Prop where
  ex : ∃ tt, PW X e tt ∧ ∀ (B : Bs) (σ : L2.St) (H : Hp) (ρ : Rho) (Q : Bool → Hp → Prop), Rel c M B H σ ρ →
    Po (f ρ) (fun r => match r with
      | .v d ρ' => ∃ b, d = .bl b ∧ ∀ H', Rel c M B H' σ ρ' → Q b H'
      | .ex k ρ' => ∀ H', Rel c M B H' σ ρ' → We k none σ H') (fun k => ∀ H', FrB B H' → We k none σ H') → tt σ H Q
theorem VXW.vt (h : VXW X c M We e x) : VXT X c M We e x := by
  obtain ⟨tt, p, s⟩ := h.ex
  exact ⟨tt, p.pt, s⟩
theorem vxw_and1 (h : VXT X c M We a x) : VXW X c M We (.BoolOp .And [a] pos) x := by
  obtain ⟨tt, p, s⟩ := h.ex
  exact ⟨tt, pw_and1 p, s⟩
theorem vxw_or1 (h : VXT X c M We a x) : VXW X c M We (.BoolOp .Or [a] pos) x := by
  obtain ⟨tt, p, s⟩ := h.ex
  exact ⟨tt, pw_or1 p, s⟩
theorem vxw_or {rest : List Expr} (h : VXT X c M We a x) (h' : VXW X c M We (.BoolOp .Or (b :: rest) pos) y) : VXW X c M We (.BoolOp .Or (a :: b :: rest) pos) (xOr x y) := by
  obtain ⟨tt, p, s⟩ := h.ex
  obtain ⟨tt', p', s'⟩ := h'.ex
  refine ⟨_, pw_or p p', fun B σ H ρ Q R po => s B σ H ρ _ R ((Po.bind (r := x ρ) po).imp (fun r _ q => ?_) fun _ _ q => q)⟩
  cases r with
  | ex k ρ1 => exact q
  | v d ρ1 =>
    cases d with
    | bl k =>
      refine ⟨k, rfl, fun H1 R1 => ?_⟩
      cases k with
      | false => exact s' B σ H1 ρ1 Q R1 q
      | true =>
        obtain ⟨b', hb, q⟩ := q
        cases hb
        exact q H1 R1
    | _ => exact q.elim
theorem vxw_and {rest : List Expr} (h : VXT X c M We a x) (h' : VXW X c M We (.BoolOp .And (b :: rest) pos) y) : VXW X c M We (.BoolOp .And (a :: b :: rest) pos) (xAnd x y) := by
  obtain ⟨tt, p, s⟩ := h.ex
  obtain ⟨tt', p', s'⟩ := h'.ex
  refine ⟨_, pw_and p p', fun B σ H ρ Q R po => s B σ H ρ _ R ((Po.bind (r := x ρ) po).imp (fun r _ q => ?_) fun _ _ q => q)⟩
  cases r with
  | ex k ρ1 => exact q
  | v d ρ1 =>
    cases d with
    | bl k =>
      refine ⟨k, rfl, fun H1 R1 => ?_⟩
      cases k with
      | true => exact s' B σ H1 ρ1 Q R1 q
      | false =>
        obtain ⟨b', hb, q⟩ := q
        cases hb
        exact q H1 R1
    | _ => exact q.elim
/-- x is not None .. -/
theorem vxt_cmp {op : CmpOp} {r : R2} {gd' : D → D → O D} (ho : OpR X (compareOp op) r) (hr : RS c r gd') (ha : VX X c M We a x) (hb : VX X c M We b y) (hm : behindInMarks op b = false) : VXT X c M We (.Compare a [op] [b] pos) (xB (x2 gd' x y)) := by
  obtain ⟨ta, p, s⟩ := ha.ex
  obtain ⟨tb, p', s'⟩ := hb.ex
  refine ⟨_, pt_cmpR ho p p' hm, fun B σ H ρ Q R po => s B σ H ρ _ R ((Po.bind (r := x ρ) (Po.bind (r := x2 gd' x y ρ) po)).imp (fun r1 _ q => ?_) fun _ _ q => q)⟩
  cases r1 with
  | ex k ρ1 => exact q
  | v d ρ1 =>
    rintro v H1 ⟨Fs, R1⟩ hi
    refine s' (B.sta H1) σ H1 ρ1 _ ⟨Fs, R1.keepSta⟩ ((Po.bind (r := y ρ1) q).imp (fun r2 _ q => ?_) fun _ _ q H' hf => q H' hf.unSta)
    cases r2 with
    | ex k ρ2 => exact fun H' ⟨F2, R2⟩ => q H' ⟨F2, R2.unSta⟩
    | v d2 ρ2 =>
      rintro v2 H2 ⟨F2, R2⟩ hi2
      have hst : Is c (fun _ => False) H2 v d := hi.stay R2.staAt
      refine hr _ _ v v2 d d2 H2 _ _ hst hi2 ((Po.bind (r := gd' d d2) q).imp (fun d3 _ q v3 H3 hs3 hz => ?_) fun _ _ q => q)
      obtain ⟨_, q⟩ := Po.gd q
      cases d3 with
      | bl k =>
        obtain ⟨b', hb, q⟩ := q
        cases hb
        exact ⟨k, is_bl (hz fun _ => True), q H3 ⟨F2, R2.unSta.same hs3⟩⟩
      | _ => exact q.elim
theorem vxt_isnt (ha : VX X c M We a x) (hb : VX X c M We b y) : VXT X c M We (.Compare a [.IsNot] [b] pos) (xB (x2 (isND true) x y)) := vxt_cmp (op_notN.or op_notBl) rs_isnt ha hb (nomark _)

/-! ### statements -/
theorem vs_exprX (h : VX X c M We e x) (hs : swapsWith e none pos.line X.env = pure false := by rfl) : VSt X c We rs Ml M M (.Expr e pos) (sDropX x) := by
  obtain ⟨te, p, s⟩ := h.ex
  refine ⟨_, ps_expr p hs, fun B σ H ρ D R po => s B σ H ρ _ R ((Po.bind (r := x ρ) po).imp (fun r _ q => ?_) fun _ _ q H' hf => q σ H' hf)⟩
  cases r with
  | ex k ρ1 => exact fun H' R' => q σ H' M R'
  | v d ρ1 => exact fun v H' R' _ => q σ H' R'
theorem vs_setX {n : Str} {pos' : Pos} (i : Nat) (h : VX X c M We e x) (hm : M i = .v 0) (hN : X.N.Nodup) (hi : X.N[i]? = some n := by rfl) (hx : Loc X.env.scope n := by first | exact .inl rfl | exact .inr rfl) (hs : swapsWith e (some (.Name n pos')) pos.line X.env = pure false := by rfl)
    (hf : X.fn n = true ∨ X.env.scope.names.lookup n = some .local := by first | exact .inl rfl | exact .inr rfl) : VSt X c We rs Ml M M (.Assign [.Name n pos'] e pos) (sSetX i x) := by
  obtain ⟨te, p, s⟩ := h.ex
  refine ⟨_, ps_set (i := i) hN hi hx p hs hf, fun B σ H ρ D R po => s B σ H ρ _ R ((Po.bind (r := x ρ) po).imp (fun r _ q => ?_) fun _ _ q H' hf => q σ H' hf)⟩
  cases r with
  | ex k ρ1 => exact fun H' R' => q σ H' M R'
  | v d ρ1 =>
    rintro v H' ⟨Fs, R'⟩ hv
    obtain ⟨hl, q⟩ := Po.gd q
    exact q _ H' (R'.setV hm (by decide) (of_decide_eq_true hl) (hv.up fun _ z => z.elim) (Same.refl H'))
theorem vs_retX (h : VX X c M We e x) : VSt X c We .fz Ml M M' (.Return (some e) pos) (sRetX x) := by
  obtain ⟨te, p, s⟩ := h.ex
  refine ⟨_, ps_ret p, fun B σ H ρ D R po => s B σ H ρ _ R ((Po.bind (r := x ρ) po).imp (fun r _ q => ?_) fun _ _ q H' hf => q σ H' hf)⟩
  cases r with
  | ex k ρ1 => exact fun H' R' => q σ H' M R'
  | v d ρ1 =>
    rintro v H' ⟨Fs, R'⟩ hv
    exact q v H' ⟨M, Fs, σ, [], R', by simp, by simp, rfl, hv.up fun _ z => z.elim⟩
theorem vs_ifX {cnd : Expr} {a b : List Stmt} (hc : VXT X c M We cnd x) (ha : VSs X c We rs Ml M M' a g) (hb : VSs X c We rs Ml M M' b g') : VSt X c We rs Ml M M' (.If cnd a b pos) (sIfX x g g') := by
  obtain ⟨tt, p, s⟩ := hc.ex
  obtain ⟨ta, pa, sa⟩ := ha.ex
  obtain ⟨tb, pb, sb⟩ := hb.ex
  refine ⟨_, ps_if p pa pb, fun B σ H ρ D R po => s B σ H ρ _ R ((Po.bind (r := x ρ) po).imp (fun r _ q => ?_) fun _ _ q H' hf => q σ H' hf)⟩
  cases r with
  | ex k ρ1 => exact fun H' R' => q σ H' M R'
  | v d ρ1 =>
    cases d with
    | bl k =>
      refine ⟨k, rfl, fun H1 R1 => ?_⟩
      cases k with
      | true => exact iteT (sa B σ H1 ρ1 D R1 q)
      | false => exact iteF (sb B σ H1 ρ1 D R1 q)
    | _ => exact q.elim

/-! ### statements whose exception leaves the slots as they were -/
def sK (g : SF) : SF := fun ρ => match g ρ with
  | .exc k => .ok (.ex k ρ)
  | r => r
theorem vs_exprK (h : VE X c M We al e f) (hs : swapsWith e none pos.line X.env = pure false := by rfl) : VSt X c We rs Ml M M (.Expr e pos) (sK (sDrop f)) := by
  obtain ⟨te, p, s⟩ := h.ex
  refine ⟨_, ps_expr p hs, fun B σ H ρ D R po => ?_⟩
  obtain ⟨Fs, R⟩ := R
  refine s _ σ H ρ _ R.slots ?_
  unfold sK sDrop at po
  cases hf : f ρ with
  | bad => rw [hf] at po; exact po.elim
  | exc k =>
    rw [hf] at po
    exact fun H' hs => po σ H' M ⟨Fs, R.same hs⟩
  | ok d =>
    rw [hf] at po
    exact fun v H' hs _ => po σ H' ⟨Fs, R.same hs⟩
theorem vs_raiseK {n m : Str} {C : Addr} {j : Nat} {p p2 p3 : Pos} (z : Cz X c We k) (h : ExK X.K X.mg n C) (hg : Gl X n) (hdb : (n == ("__debug__" : Str)) = false := by decide) :
    VSt X c We rs Ml M M' (.Raise (some (.Call (.Name n p) [.Constant (.str m) j p2] [] p3)) none pos) (sK (sExc (.ref C))) :=
  ⟨_, L2N.ps_raise z.calm z.tk (L2N.pmk_own PySem.F.excBase_ValueError h.q h.g h.kp (raises_own h.b h.t) hg hdb), fun B σ H ρ D R po => po σ H M R⟩
def sIfK (t : TF) (g g' : SF) : SF := fun ρ => match t ρ with
  | .exc k => .ok (.ex k ρ)
  | .bad => .bad
  | .ok b => if b = true then g ρ else g' ρ
theorem vs_ifK {cnd : Expr} {a b : List Stmt} (hc : VT X c M We cnd t) (ha : VSs X c We rs Ml M M' a g) (hb : VSs X c We rs Ml M M' b g') : VSt X c We rs Ml M M' (.If cnd a b pos) (sIfK t g g') := by
  obtain ⟨tt, p, s⟩ := hc.ex
  obtain ⟨ta, pa, sa⟩ := ha.ex
  obtain ⟨tb, pb, sb⟩ := hb.ex
  refine ⟨_, ps_if p pa pb, fun B σ H ρ D R po => ?_⟩
  obtain ⟨Fs, R⟩ := R
  refine s _ σ H ρ _ R.slots ?_
  unfold sIfK at po
  cases ht : t ρ with
  | bad => rw [ht] at po; exact po.elim
  | exc k =>
    rw [ht] at po
    exact fun H' hs => po σ H' M ⟨Fs, R.same hs⟩
  | ok k =>
    rw [ht] at po
    intro H' hs
    cases k with
    | true => exact iteT (sa B σ H' ρ D ⟨Fs, R.same hs⟩ po)
    | false => exact iteF (sb B σ H' ρ D ⟨Fs, R.same hs⟩ po)
theorem vs_retK (h : VO X c M We rs e f) : VSt X c We rs Ml M M' (.Return (some e) pos) (sK (sRet f)) := by
  obtain ⟨te, p, s⟩ := h.ex
  refine ⟨_, ps_ret p, fun B σ H ρ D R po => ?_⟩
  obtain ⟨Fs, R⟩ := R
  refine s _ σ H ρ _ R.slots ?_
  unfold sK sRet at po
  cases hf : f ρ with
  | bad => rw [hf] at po; exact po.elim
  | exc k =>
    rw [hf] at po
    exact fun H' hs => po σ H' M ⟨Fs, R.same hs⟩
  | ok d =>
    rw [hf] at po
    intro v H' F hs hn nd ho
    refine po v H' ⟨M, Fs, σ, F, R.same hs, nd, fun a ha => ⟨R.old a (hn a ha), R.newNot (hn a ha)⟩, ho.mono (fun a x => ?_) fun a o _ e => e⟩
    rcases x.1 with y | y
    · exact ⟨y.2, y.1, x.2⟩
    · exact ⟨R.old a y, R.newNot y, x.2⟩

/-! ### what a slot owns is changed -/
theorem RelF.mut {Fs : Nat → List Addr} {s : Sh} {d : D} (R : RelF c M B Fs H σ ρ) (hm : M i = .o s ∨ M i = .p s) (e : ρ[i]? = some (some d)) : ∃ v W, σ[i]? = some (some v) ∧ Own c W H s v d (Fs i) ∧ (Fs i).Nodup ∧ (∀ a, W a → a ∉ Fs i) ∧ (∀ a ∈ Fs i, ∃ o, H a = some o ∧ ¬ VS.sta o) ∧
    ∀ H' d' F', (∀ a o, a ∉ Fs i → H a = some o → H' a = some o) → (∀ a, H' a = none → H a = none) → F'.Nodup → (∀ a ∈ F', a ∈ Fs i ∨ H a = none) → Own c (fun a => W a ∧ H a ≠ none) H' s v d' F' → Rel c M B H' σ (ρ.set i (some d')) := by
  obtain ⟨v, h1, h2⟩ := R.sl i d e
  have hi : i < ρ.length := (List.getElem?_eq_some_iff.mp e).1
  rcases hm with hm | hm
  · rw [hm] at h2
    refine ⟨v, _, h1, h2, R.nd i, fun a x => x.1 i, R.th i, fun H' d' F' k1 k2 k3 k4 k5 => ⟨fset Fs i F', ?_⟩⟩
    refine R.put k1 k2 k3 k4 k5.there (fun _ _ => rfl) (fun j hj => List.getElem?_set_ne (Ne.symm hj)) (by simp [R.len]) (fun q hq eq => ?_) (fun s hs => R.own i s hs) fun d2 e2 => ?_
    · have := (R.mp q hq).2
      rw [eq, hm] at this; cases this
    · rw [List.getElem?_set_self hi] at e2
      cases e2
      refine ⟨v, h1, ?_⟩
      rw [hm]
      refine Own.mono (fun a x => ⟨fun l z => ?_, x.1.2⟩) (fun _ _ _ e => e) k5
      by_cases hl : l = i
      · rw [hl, fset_self] at z
        rcases k4 a z with y | y
        · exact x.1.1 i y
        · exact x.2 y
      · rw [fset_ne hl] at z; exact x.1.1 l z
  · rw [hm] at h2
    refine ⟨v, _, h1, h2, R.nd i, fun a x => x.elim, R.th i, fun H' d' F' k1 k2 k3 k4 k5 => ⟨fset Fs i F', ?_⟩⟩
    refine R.put k1 k2 k3 k4 k5.there (fun _ _ => rfl) (fun j hj => List.getElem?_set_ne (Ne.symm hj)) (by simp [R.len]) (fun q hq eq => ?_) (fun s hs => R.own i s hs) fun d2 e2 => ?_
    · have := (R.mp q hq).1
      rw [eq] at this; exact this
    · rw [List.getElem?_set_self hi] at e2
      cases e2
      refine ⟨v, h1, ?_⟩
      rw [hm]
      exact Own.mono (fun a x => x.1) (fun _ _ _ e => e) k5
end
end VS
set_option Elab.async false
set_option linter.all false
set_option maxRecDepth 100000
set_option maxHeartbeats 2000000
/-! VQ: lists in what a slot owns; attributes of lands and piles; dicts. -/
namespace VS
open PySem L2

structure VLoc (X : Cx) (c : Ct) (M : Nat → Mo) (We : WX) (i : Nat) (e : Expr) (g : Rho → O (List D)) (p : Rho → List D → Option D) : Prop where
  ex : ∃ te, PE X e te ∧ ∀ (B : Bs) (Fs : Nat → List Addr) (σ : L2.St) (H : Hp) (ρ : Rho) (Q : VK), RelF c M B Fs H σ ρ → Po (g ρ) (fun l => ∀ a xs H0, Same H H0 → H0 a = some (.lst xs) → IsA c (fun _ => False) H0 xs l →
      (∀ H1 xs' l' d', Same H0 H1 → IsA c (fun _ => False) H1 xs' l' → p ρ l' = some d' → Rel c M B (upd H1 a (.lst xs')) σ (ρ.set i (some d'))) → Q (.ref a) H0) (fun k => ∀ H', Same H H' → We k none σ H') → te σ H Q

/-! ### meanings -/
def gVar (i : Nat) : Rho → O (List D) := fun ρ => (eVar i ρ).bind fun d => (lstD d).bind fun l => gd (immA l) (.ok l)
def pVar : Rho → List D → Option D := fun _ l => some (.lst l)
/-- x[e], x a list of lists -/
def gSub (i : Nat) (f : EF) : Rho → O (List D) := fun ρ => (eVar i ρ).bind fun d => (lstD d).bind fun l => (f ρ).bind fun k => match k with
  | .int k => (ofO (atI l k)).bind fun r => (lstD r).bind fun r => gd (immA r) (.ok r)
  | _ => .bad
def pSub (i : Nat) (f : EF) : Rho → List D → Option D := fun ρ r => match eVar i ρ, f ρ with
  | .ok (.lst l), .ok (.int k) => (ixN l.length k).map fun j => .lst (l.set j (.lst r))
  | _, _ => none
def hD : Option Int → D
  | none => .non
  | some i => .int i
def hO : D → Option (Option Int)
  | .non => some none
  | .int i => some (some i)
  | _ => none
def hOs : List D → Option (List (Option Int))
  | [] => some []
  | d :: ds => match hO d, hOs ds with
    | some h, some hs => some (h :: hs)
    | _, _ => none
def rowD (r : List (Option Int)) : D := .lst (r.map hD)
def landO : D → O LandD
  | .land L => .ok L
  | _ => .bad
def gridD (d : D) : O D := (landO d).bind fun L => .ok (.lst (L.g.map rowD))
def rowsD (d : D) : O D := (landO d).bind fun L => .ok (.int L.g.length)
def colsD (d : D) : O D := (landO d).bind fun L => .ok (.int (L.g.headD []).length)
def openD (d : D) : O D := (landO d).bind fun L => .ok (.dct (L.o.map fun p => (p.1, .bl p.2)))
def pileO : D → O (List D)
  | .pile l => .ok l
  | _ => .bad
def rowPD (d : D) : O D := (pileO d).bind fun l => .ok (.lst l)
/-- x.grid[e] -/
def gGrid (i : Nat) (f : EF) : Rho → O (List D) := fun ρ => (eVar i ρ).bind fun d => (landO d).bind fun L => (f ρ).bind fun k => match k with
  | .int k => (ofO (atI L.g k)).bind fun r => .ok (r.map hD)
  | _ => .bad
def pGrid (i : Nat) (f : EF) : Rho → List D → Option D := fun ρ r => match eVar i ρ, f ρ with
  | .ok (.land L), .ok (.int k) => match ixN L.g.length k, hOs r with
    | some j, some r' => if r'.length = (L.g.getD j []).length then some (.land ⟨L.g.set j r', L.o⟩) else none
    | _, _ => none
  | _, _ => none
def gRow (i : Nat) : Rho → O (List D) := fun ρ => (eVar i ρ).bind fun d => (pileO d).bind fun l => gd (immA l) (.ok l)
def pRow : Rho → List D → Option D := fun _ l => some (.pile l)
/-- loc[e] = value -/
def sStore (i : Nat) (g : Rho → O (List D)) (p : Rho → List D → Option D) (fe fv : EF) : SF := fun ρ => (fv ρ).bind fun d => gd d.imm ((g ρ).bind fun l => (fe ρ).bind fun k => match k with
  | .int k => (ofO (ixN l.length k)).bind fun j => (ofO (p ρ (l.set j d))).bind fun d' => .ok (.nx (ρ.set i (some d')))
  | _ => .bad)
def sAppL (i : Nat) (g : Rho → O (List D)) (p : Rho → List D → Option D) (fv : EF) : SF := fun ρ => (g ρ).bind fun l => (fv ρ).bind fun d => gd (d.imm && decide (l.length < 100000)) ((ofO (p ρ (l ++ [d]))).bind fun d' => .ok (.nx (ρ.set i (some d'))))
def xPop (i : Nat) (g : Rho → O (List D)) (p : Rho → List D → Option D) : XF := fun ρ => (g ρ).bind fun l => (ofO l[l.length - 1]?).bind fun d => (ofO (p ρ l.dropLast)).bind fun d' => .ok (.v d (ρ.set i (some d')))
def sClearL (i : Nat) (g : Rho → O (List D)) (p : Rho → List D → Option D) : SF := fun ρ => (g ρ).bind fun _ => (ofO (p ρ [])).bind fun d' => .ok (.nx (ρ.set i (some d')))

structure LandK (K : PySem.W.Frag) (C : Addr) : Prop where
  cl : Cls K C
  nG : NoAttr K C "grid"
  nR : NoAttr K C "rows"
  nC : NoAttr K C "columns"
  nO : NoAttr K C "open_at"
structure PileK (K : PySem.W.Frag) (C : Addr) : Prop where
  cl : Cls K C
  nW : NoAttr K C "row"

section
variable {c : Ct} {M M' M1 Ml : Nat → Mo} {B : Bs} {H H' : Hp} {σ : L2.St} {ρ : Rho} {X : Cx} {We : WX} {k k' al al' i j : Nat} {rs : Sh} {st : Stmt} {sts : List Stmt} {e a b value : Expr} {f fa fb fe fv : EF} {pos pos' apos cpos : Pos} {W W' : Addr → Prop}
  {g : Rho → O (List D)} {p : Rho → List D → Option D}
theorem IsA.stay {vs : List V} {ds : List D} (h : IsA c (fun _ => False) H vs ds) (k : ∀ a o, VS.sta o → H a = some o → H' a = some o) : IsA c W H' vs ds := h.mono (fun _ z => z.elim) fun a o z e => k a o (z.elim (fun y => y.elim) fun y => y) e
theorem IsA.immA {vs : List V} {ds : List D} (h : IsA c W H vs ds) (e : VS.immA ds = true) : IsA c W' H vs ds := IsA.imm (fun _ _ _ z => z) h e
theorem upd_sta {a : Addr} {xs xs' : List V} (h : H a = some (.lst xs)) : ∀ b o, VS.sta o → H b = some o → upd H a (.lst xs') b = some o := fun b o hs e => by
  rw [upd_ne (fun z => by rw [z, h] at e; cases e; exact hs)]
  exact e
/-! ### places -/
theorem vl_var {n : Str} (i : Nat) (hm : M i = .o (.l .fz) ∨ M i = .p (.l .fz)) (hN : X.N[i]? = some n := by rfl) (hv : Vis X.env.scope n := by first | exact Or.inl rfl | exact Or.inr (Or.inl rfl) | exact Or.inr (Or.inr rfl)) (hd : (n == ("__debug__" : Str)) = false := by decide)
    (hcd : (n == ("__classdict__" : Str)) = false := by decide) : VLoc X c M We i (.Name n pos) (gVar i) pVar := by
  refine ⟨_, pv i hN hv hd hcd, fun B Fs σ H ρ Q R po => ?_⟩
  obtain ⟨ds, er, po⟩ := po_lst (i := i) (ρ := ρ) (f := fun l => gd (VS.immA l) (.ok l)) po
  obtain ⟨hi, po⟩ := Po.gd po
  obtain ⟨v, Wm, e1, ho, nd, hW, hth, put⟩ := R.mut hm er
  obtain ⟨q, xs, ds', Gs, rfl, ed, hq, h3, eF⟩ := ho
  cases ed
  obtain ⟨h4, h5⟩ := h3.ofFz
  rw [h5] at eF
  refine ⟨_, e1, po q xs H (Same.refl H) hq (h4.immA hi) fun H1 xs' l' d' hs hi' ed => ?_⟩
  cases ed
  have hq1 := hs _ _ hq
  refine put _ _ [q] (fun b o hb eb => ?_) (fun b eb => ?_) (by simp) (fun b hb => .inl (by rw [eF]; exact hb)) ⟨q, xs', l', ?_⟩
  · rw [upd_ne (fun z => hb (by rw [eF, z]; simp))]; exact hs b o eb
  · by_cases h : b = q
    · rw [h, upd_same] at eb; cases eb
    · rw [upd_ne h] at eb; exact hs.free eb
  · obtain ⟨Gs', g1, g2⟩ := (hi'.stay (W := fun a => Wm a ∧ H a ≠ none) (upd_sta (xs' := xs') hq1)).toP3
    exact ⟨Gs', rfl, rfl, upd_same, g1, by rw [g2]⟩
theorem P3.atI {P : V → D → List Addr → Prop} {vs : List V} {ds : List D} {Fs : List (List Addr)} {k : Int} {d : D} (h : P3 P vs ds Fs) (e : atI ds k = some d) : ∃ j v F, ixN ds.length k = some j ∧ ixN vs.length k = some j ∧ vs[j]? = some v ∧ ds[j]? = some d ∧ Fs[j]? = some F ∧ P v d F := by
  unfold L2.atI at e
  cases hj : ixN ds.length k with
  | none => rw [hj] at e; cases e
  | some j =>
    rw [hj] at e
    have e : ds[j]? = some d := e
    have hlen := h.length.1
    have hv : j < vs.length := by rw [hlen]; exact (List.getElem?_eq_some_iff.mp e).1
    obtain ⟨d', F, q1, q2, q3⟩ := h.get (List.getElem?_eq_getElem hv)
    rw [e] at q1
    cases q1
    exact ⟨j, _, F, rfl, by rw [hlen]; exact hj, List.getElem?_eq_getElem hv, e, q2, q3⟩
theorem nodup_at : ∀ {Gs : List (List Addr)} {j : Nat} {G : List Addr}, Gs.flatten.Nodup → Gs[j]? = some G → ∀ j' G' a, Gs[j']? = some G' → a ∈ G → a ∈ G' → j = j'
  | [], j, G, _, e, _, _, _, _, _, _ => by simp at e
  | G0 :: Gs, j, G, nd, e, j', G', a, e', ha, hb => by
    rw [List.flatten_cons] at nd
    obtain ⟨n1, n2, n3⟩ := List.nodup_append.mp nd
    cases j with
    | zero =>
      cases j' with
      | zero => rfl
      | succ j' =>
        simp at e; subst e
        exact absurd rfl (n3 a ha a (mem_flat (List.mem_of_getElem? (by simpa using e')) hb))
    | succ j =>
      cases j' with
      | zero =>
        simp at e'; subst e'
        exact absurd rfl (n3 a hb a (mem_flat (List.mem_of_getElem? (by simpa using e)) ha))
      | succ j' =>
        have := nodup_at (j := j) n2 (by simpa using e) j' G' a (by simpa using e') ha hb
        omega
/-- one item of a list of owned things is another, in place -/
theorem P3.step {P P' : V → D → List Addr → Prop} : ∀ {vs ds Fs} {j : Nat} {d' : D} {v : V} {F : List Addr}, P3 P vs ds Fs → vs[j]? = some v → Fs[j]? = some F → P' v d' F → (∀ j' v d F, j' ≠ j → vs[j']? = some v → Fs[j']? = some F → P v d F → P' v d F) → P3 P' vs (ds.set j d') Fs
  | _, _, _, j, _, _, _, .nil, e, _, _, _ => by simp at e
  | _, _, _, 0, d', v, F, .cons h t, e, eF, hp, f => by
    simp at e eF; subst e eF
    refine .cons hp ?_
    have : ∀ {vs : List V} {ds : List D} {Fs : List (List Addr)} (b : Nat), P3 P vs ds Fs → (∀ (j' : Nat) (v : V) (d : D) (F : List Addr), vs[j']? = some v → Fs[j']? = some F → P v d F → P' v d F) → P3 P' vs ds Fs := by
      intro vs ds Fs b h
      induction h with
      | nil => intro _; exact .nil
      | cons h t ih => intro f; exact .cons (f 0 _ _ _ rfl rfl h) (ih fun j' v d F e1 e2 => f (j' + 1) v d F (by simpa using e1) (by simpa using e2))
    exact this 0 t fun j' v d F e1 e2 => f (j' + 1) v d F (by omega) (by simpa using e1) (by simpa using e2)
  | _, _, _, j + 1, d', v, F, .cons h t, e, eF, hp, f => by
    refine .cons (f 0 _ _ _ (by omega) rfl rfl h) (t.step (by simpa using e) (by simpa using eF) hp fun j' v d F hj e1 e2 => f (j' + 1) v d F (by omega) (by simpa using e1) (by simpa using e2))
theorem vl_sub {n : Str} (i : Nat) (hm : M i = .o (.l (.l .fz)) ∨ M i = .p (.l (.l .fz))) (hb : VE X c M We al' b fb) (hN : X.N[i]? = some n := by rfl) (hv : Vis X.env.scope n := by first | exact Or.inl rfl | exact Or.inr (Or.inl rfl) | exact Or.inr (Or.inr rfl))
    (hd : (n == ("__debug__" : Str)) = false := by decide) (hcd : (n == ("__classdict__" : Str)) = false := by decide) (hs : PlainIx b := by exact fun _ _ => rfl) : VLoc X c M We i (.Subscript (.Name n pos) b pos') (gSub i fb) (pSub i fb) := by
  obtain ⟨tb, pb, sb⟩ := hb.ex
  refine ⟨_, pe_ix ix_list (pv i hN hv hd hcd) pb hs, fun B Fs σ H ρ Q R po => ?_⟩
  obtain ⟨ds, er, po⟩ := po_lst (i := i) (ρ := ρ) (f := fun l => (fb ρ).bind fun k => match k with
    | .int k => (ofO (atI l k)).bind fun r => (lstD r).bind fun r => gd (VS.immA r) (.ok r)
    | _ => .bad) po
  obtain ⟨v, Wm, e1, ho, nd, hW, hth, put⟩ := R.mut hm er
  obtain ⟨q, xs, ds', Gs, rfl, ed, hq, h3, eF⟩ := ho
  cases ed
  refine ⟨_, e1, sb _ σ H ρ _ R.slots ((Po.bind po).imp (fun kd ek po v2 H2 hs2 hi2 => ?_) fun _ _ q => q)⟩
  cases kd with
  | int kk =>
    obtain ⟨r, hr, po⟩ := Po.ofO (Po.bind (r := ofO (atI ds kk)) po)
    rw [is_int hi2]
    cases r with
    | lst r =>
      obtain ⟨hir, po⟩ := Po.gd po
      obtain ⟨j, vj, F, j1, j2, j3, j4, j5, a, ys, es, Gs', rfl, ed, ha, h5, eF5⟩ := h3.atI hr
      cases ed
      obtain ⟨h6, h7⟩ := h5.ofFz
      rw [h7] at eF5
      refine ⟨q, xs, kk, .ref a, rfl, rfl, .inl (.inl (hs2 _ _ hq)), by unfold L2.atI; rw [j2]; exact j3, po a ys H2 hs2 (hs2 _ _ ha) ((h6.same hs2).immA hir) fun H1 xs' l' d' hs3 hi' ed => ?_⟩
      unfold pSub at ed
      rw [show eVar i ρ = .ok (.lst ds) by unfold eVar; rw [er], ek] at ed
      simp only [j1, Option.map_some, Option.some.injEq] at ed
      subst ed
      have hs4 := hs2.trans hs3
      have ha1 := hs4 _ _ ha
      have aF : a ∈ Fs i := by rw [eF]; exact List.mem_cons_of_mem _ (mem_flat (List.mem_of_getElem? j5) (by rw [eF5]; simp))
      have aq : a ≠ q := by
        rw [eF] at nd
        exact fun z => (List.nodup_cons.mp nd).1 (by rw [← z]; exact mem_flat (List.mem_of_getElem? j5) (by rw [eF5]; simp))
      refine put _ _ (Fs i) (fun b' o hb' eb => ?_) (fun b' eb => ?_) nd (fun b' hb' => .inl hb') ⟨q, xs, ds.set j (.lst l'), Gs, rfl, rfl, by rw [upd_ne (Ne.symm aq)]; exact hs4 _ _ hq, ?_, eF⟩
      · rw [upd_ne (fun z => hb' (by rw [z]; exact aF))]; exact hs4 b' o eb
      · by_cases h : b' = a
        · rw [h, upd_same] at eb; cases eb
        · rw [upd_ne h] at eb; exact hs4.free eb
      · have nd2 : Gs.flatten.Nodup := by rw [eF] at nd; exact (List.nodup_cons.mp nd).2
        refine h3.step j3 j5 ?_ fun j' v d G hj' e1' e2' ho => ?_
        · obtain ⟨Gs2, g1, g2⟩ := (hi'.stay (W := fun a => Wm a ∧ H a ≠ none) (upd_sta (xs' := xs') ha1)).toP3
          exact ⟨a, xs', l', Gs2, rfl, rfl, upd_same, g1, by rw [g2]; exact eF5⟩
        · refine ho.track.mono (fun a x => x) fun b' o x eb => ?_
          rw [upd_ne (fun z => ?_)]
          · exact hs4 _ _ eb
          · rw [z] at x eb
            rcases x with x | x | x
            · exact hW a x.1 aF
            · exact hj' (nodup_at nd2 j5 j' G a e2' (by rw [eF5]; simp) x).symm
            · rw [ha] at eb; cases eb; exact x
    | _ => exact po.elim
  | _ => exact po.elim

/-! ### stores -/
theorem Po.exc_l {α : Type} {r : O α} {P : α → Prop} {Fs : Nat → List Addr} (R : RelF c M B Fs H σ ρ) (h : Po r P (fun k => ∀ σ H, FrB B H → We k none σ H)) : Po r P (fun k => ∀ H', Same H H' → We k none σ H') := Po.exc_up R h
theorem vs_store {o : Expr} (hl : VLoc X c M We i o g p) (hi : VE X c M We al e fe) (hv : VE X c M We al' value fv) (hs : swapsWithSole [.Subscript o e pos'] value pos.line X.env = pure false := by rfl) (hw : swappedStores [.Subscript o e pos'] value X.env = pure none := by rfl)
    (h1 : (assignEach [.Subscript o e pos'] X.env).map (·.2) = [assign (.Subscript o e pos') X.env] := by rfl) (ha : ∀ v, assign (.Subscript o e pos') X.env v = (do
      let ov ← holding [v] (eval o X.env)
      let iv ← holding [v, ov] (eval e X.env)
      standAt pos'
      holding [v, ov, iv] (setItem ov iv v)
      release [v, ov, iv] []) := by intro _; rfl) : VSt X c We rs Ml M M (.Assign [.Subscript o e pos'] value pos) (sStore i g p fe fv) := by
  obtain ⟨tl, pl, sl⟩ := hl.ex
  obtain ⟨ti, pi, si⟩ := hi.ex
  obtain ⟨tv, pv', sv⟩ := hv.ex
  refine ⟨_, ps_asg pv' (pg_sub pl pi set_list ha) hs hw h1, fun B σ H ρ D R po => ?_⟩
  obtain ⟨Fs, R⟩ := R
  refine sv _ σ H ρ _ R.slots ((Po.exc_up R (Po.bind po)).imp (fun d _ q v H1 hs1 hiv => ?_) fun _ _ q => q)
  obtain ⟨hd, q⟩ := Po.gd q
  have R1 := R.same hs1
  refine sl B Fs σ H1 ρ _ R1 ((Po.exc_up R1 (Po.bind q)).imp (fun l _ q a xs H2 hs2 ea hxs upd' => ?_) fun _ _ q => q)
  have R2 := R1.same hs2
  refine si _ σ H2 ρ _ R2.slots ((Po.exc_up R2 (Po.bind q)).imp (fun kd _ q v3 H3 hs3 hi3 => ?_) fun _ _ q => q)
  cases kd with
  | int kk =>
    obtain ⟨j, hj, q⟩ := Po.ofO (Po.bind (r := ofO (ixN l.length kk)) q)
    obtain ⟨d', hp, q⟩ := Po.ofO (Po.bind (r := ofO (p ρ (l.set j d))) q)
    refine ⟨a, xs, kk, j, rfl, is_int hi3, hs3 _ _ ea, by rw [hxs.length]; exact hj, ?_⟩
    exact q σ _ (upd' H3 (xs.set j v) (l.set j d) d' hs3 ((hxs.same hs3).set (Is.imm (fun _ _ _ z => z) (hiv.same (hs2.trans hs3)) hd) j) hp)
  | _ => exact q.elim
theorem vs_appL {o : Expr} (hl : VLoc X c M We i o g p) (hv : VE X c M We al e fv) (hbase : attributeBase o "append" X.env (eval o X.env) = eval o X.env := by rfl)
    (hfew : ((backTo cpos (starEach (e :: []) X.env)).all (fun x => !x.1) && (backToKw cpos (keywordEach [] X.env)).all (fun x => x.1.isSome) && decide ((e :: []).length + ([] : List Keyword).length + (if ([] : List Keyword).isEmpty then 0 else 1) < 30)) = true := by rfl)
    (hline : (apos.endLine == cpos.line) = true := by rfl) (he : starEach (e :: []) X.env = (false, eval e X.env) :: starEach [] X.env := by rfl) (hpl : (backTo cpos (starEach [] X.env)).any (·.1) = false := by rfl)
    (hs : swapsWith (.Call (.Attribute o "append" apos) [e] [] cpos) none pos.line X.env = pure false := by rfl) :
    VSt X c We rs Ml M M (.Expr (.Call (.Attribute o "append" apos) [e] [] cpos) pos) (sAppL i g p fv) := by
  obtain ⟨tl, pl, sl⟩ := hl.ex
  obtain ⟨tv, pv', sv⟩ := hv.ex
  refine ⟨_, ps_expr (pe_bm PySem.F.plainAttrs_list PySem.F.slot_list_append PySem.F.type_list_append mt_append pl (pa_cons pv' pa_nil he) hbase hfew hline he hpl) hs, fun B σ H ρ D R po => ?_⟩
  obtain ⟨Fs, R⟩ := R
  refine sl B Fs σ H ρ _ R ((Po.exc_up R (Po.bind po)).imp (fun l _ q a xs H1 hs1 ea hxs upd' => ?_) fun _ _ q => q)
  have R1 := R.same hs1
  refine ⟨.inl ⟨rfl, xs, .of ea⟩, sv _ σ H1 ρ _ R1.slots ((Po.exc_up R1 (Po.bind q)).imp (fun d _ q v H2 hs2 hiv => ?_) fun _ _ q => q)⟩
  obtain ⟨hd, q⟩ := Po.gd q
  rw [Bool.and_eq_true, decide_eq_true_eq] at hd
  obtain ⟨d', hp, q⟩ := Po.ofO (Po.bind (r := ofO (p ρ (l ++ [d]))) q)
  exact ⟨a, xs, v, rfl, rfl, hs2 _ _ ea, Nat.lt_of_lt_of_le (by rw [hxs.length]; exact hd.2) (by decide : 100000 ≤ sizeLine), q σ _ (upd' H2 (xs ++ [v]) (l ++ [d]) d' hs2 ((hxs.same hs2).append (.cons (Is.imm (fun _ _ _ z => z) hiv hd.1) .nil)) hp)⟩
theorem IsA.dropLast {vs : List V} {ds : List D} (h : IsA c W H vs ds) : IsA c W H vs.dropLast ds.dropLast := by
  rw [List.dropLast_eq_take, List.dropLast_eq_take, h.length]
  exact h.take _
theorem vx_pop {o : Expr} (hl : VLoc X c M We i o g p) (hbase : attributeBase o "pop" X.env (eval o X.env) = eval o X.env := by rfl) (hline : (apos.endLine == cpos.line) = true := by rfl) : VX X c M We (.Call (.Attribute o "pop" apos) [] [] cpos) (xPop i g p) := by
  obtain ⟨tl, pl, sl⟩ := hl.ex
  refine ⟨_, pe_bm0 PySem.F.plainAttrs_list PySem.F.slot_list_pop PySem.F.type_list_pop mt_pop pl hbase hline, fun B σ H ρ Q R po => ?_⟩
  obtain ⟨Fs, R⟩ := R
  refine sl B Fs σ H ρ _ R ((Po.exc_x R (Po.bind po)).imp (fun l _ q a xs H1 hs1 ea hxs upd' => ?_) fun _ _ q => q)
  obtain ⟨d, hd, q⟩ := Po.ofO (Po.bind (r := ofO l[l.length - 1]?) q)
  obtain ⟨d', hp, q⟩ := Po.ofO (Po.bind (r := ofO (p ρ l.dropLast)) q)
  obtain ⟨v, ev, hv⟩ := hxs.getD hd
  have hst : Is c (fun _ => False) (upd H1 a (.lst xs.dropLast)) v d := hv.stay (upd_sta (xs' := xs.dropLast) ea)
  exact ⟨.inl ⟨rfl, xs, .of ea⟩, a, xs, v, rfl, rfl, ea, by rw [hxs.length]; exact ev, q v _ (upd' H1 xs.dropLast l.dropLast d' (Same.refl H1) hxs.dropLast hp) hst⟩
theorem vs_clearL {o : Expr} (hl : VLoc X c M We i o g p) (hbase : attributeBase o "clear" X.env (eval o X.env) = eval o X.env := by rfl) (hline : (apos.endLine == cpos.line) = true := by rfl)
    (hs : swapsWith (.Call (.Attribute o "clear" apos) [] [] cpos) none pos.line X.env = pure false := by rfl) :
    VSt X c We rs Ml M M (.Expr (.Call (.Attribute o "clear" apos) [] [] cpos) pos) (sClearL i g p) := by
  obtain ⟨tl, pl, sl⟩ := hl.ex
  refine ⟨_, ps_expr (pe_bm0 PySem.F.plainAttrs_list PySem.F.slot_list_clear PySem.F.type_list_clear mt_clear pl hbase hline) hs, fun B σ H ρ D R po => ?_⟩
  obtain ⟨Fs, R⟩ := R
  refine sl B Fs σ H ρ _ R ((Po.exc_up R (Po.bind po)).imp (fun l _ q a xs H1 hs1 ea hxs upd' => ?_) fun _ _ q => q)
  obtain ⟨d', hp, q⟩ := Po.ofO (Po.bind (r := ofO (p ρ [])) q)
  exact ⟨.inl ⟨rfl, xs, .of ea⟩, a, xs, rfl, rfl, ea, q σ _ (upd' H1 [] [] d' (Same.refl H1) .nil hp)⟩
/-- x.append(e), e changes another slot -/
def sAppX (i : Nat) (x : XF) : SF := sX x fun d ρ => (eVar i ρ).bind fun y => (lstD y).bind fun l => gd (VS.immA l && decide (l.length < 100000)) (.ok (.nx (ρ.set i (some (.lst (l ++ [d]))))))
theorem vs_appX {n : Str} {x : XF} {p2 : Pos} (i : Nat) (h : VX X c M We e x) (hm : M i = .o (.l .fz) ∨ M i = .p (.l .fz)) (hN : X.N[i]? = some n := by rfl) (hv : Vis X.env.scope n := by first | exact Or.inl rfl | exact Or.inr (Or.inl rfl) | exact Or.inr (Or.inr rfl)) (hd : (n == ("__debug__" : Str)) = false := by decide)
    (hcd : (n == ("__classdict__" : Str)) = false := by decide) (hbase : attributeBase (.Name n p2) "append" X.env (eval (.Name n p2) X.env) = eval (.Name n p2) X.env := by rfl)
    (hfew : ((backTo cpos (starEach (e :: []) X.env)).all (fun x => !x.1) && (backToKw cpos (keywordEach [] X.env)).all (fun x => x.1.isSome) && decide ((e :: []).length + ([] : List Keyword).length + (if ([] : List Keyword).isEmpty then 0 else 1) < 30)) = true := by rfl)
    (hline : (apos.endLine == cpos.line) = true := by rfl) (he : starEach (e :: []) X.env = (false, eval e X.env) :: starEach [] X.env := by rfl) (hpl : (backTo cpos (starEach [] X.env)).any (·.1) = false := by rfl)
    (hs : swapsWith (.Call (.Attribute (.Name n p2) "append" apos) [e] [] cpos) none pos.line X.env = pure false := by rfl) :
    VSt X c We rs Ml M M (.Expr (.Call (.Attribute (.Name n p2) "append" apos) [e] [] cpos) pos) (fun ρ => (gVar i ρ).bind fun _ => sAppX i x ρ) := by
  obtain ⟨tx, px, sx⟩ := h.ex
  refine ⟨_, ps_expr (pe_bm PySem.F.plainAttrs_list PySem.F.slot_list_append PySem.F.type_list_append mt_append (pv i hN hv hd hcd) (pa_cons px pa_nil he) hbase hfew hline he hpl) hs, fun B σ H ρ D R po => ?_⟩
  obtain ⟨Fs, R⟩ := R
  have po := Po.bind po
  obtain ⟨ds, er, po⟩ := po_lst (i := i) (ρ := ρ) (f := fun l => gd (VS.immA l) (.ok l)) po
  obtain ⟨hi, po⟩ := Po.gd po
  obtain ⟨v, Wm, e1, ho, nd, hW, hth, put⟩ := R.mut hm er
  obtain ⟨q, xs, ds', Gs, rfl, ed, hq, h3, eF⟩ := ho
  refine ⟨_, e1, .inl ⟨rfl, xs, .of hq⟩, sx B σ H ρ _ ⟨Fs, R⟩ ((Po.bind (r := x ρ) po).imp (fun r _ q2 => ?_) fun _ _ q2 H' hf => q2 σ H' hf)⟩
  cases r with
  | ex k ρ1 => exact fun H' R' => q2 σ H' M R'
  | v d ρ1 =>
    rintro v2 H2 ⟨F2, R2⟩ hi2
    obtain ⟨ds2, er2, q2⟩ := po_lst (i := i) (ρ := ρ1) (f := fun l => gd (VS.immA l && decide (l.length < 100000)) (.ok (Out.nx (ρ1.set i (some (.lst (l ++ [d]))))))) q2
    obtain ⟨hd2, q2⟩ := Po.gd q2
    rw [Bool.and_eq_true, decide_eq_true_eq] at hd2
    obtain ⟨v3, Wm2, e2, ho2, nd2, hW2, hth2, put2⟩ := R2.mut hm er2
    obtain ⟨q', xs2, ds3, Gs2, rfl, ed2, hq2, h32, eF2⟩ := ho2
    cases ed2
    rw [e1] at e2
    cases e2
    obtain ⟨h4, h5⟩ := h32.ofFz
    rw [h5] at eF2
    refine ⟨q, xs2, v2, rfl, rfl, hq2, Nat.lt_of_lt_of_le (by rw [h4.length]; exact hd2.2) (by decide : 100000 ≤ sizeLine), q2 σ _ (put2 _ _ [q] (fun b o hb eb => ?_) (fun b eb => ?_) (by simp) (fun b hb => .inl (by rw [eF2]; exact hb)) ⟨q, xs2 ++ [v2], ds2 ++ [d], ?_⟩)⟩
    · rw [upd_ne (fun z => hb (by rw [eF2, z]; simp))]; exact eb
    · by_cases h : b = q
      · rw [h, upd_same] at eb; cases eb
      · rw [upd_ne h] at eb; exact eb
    · have hall : IsA c (fun _ => False) H2 (xs2 ++ [v2]) (ds2 ++ [d]) := (h4.immA hd2.1).append (.cons hi2 .nil)
      obtain ⟨Gs', g1, g2⟩ := (hall.stay (W := fun a => Wm2 a ∧ H2 a ≠ none) (upd_sta (xs' := xs2 ++ [v2]) hq2)).toP3
      exact ⟨Gs', rfl, rfl, upd_same, g1, by rw [g2]⟩

/-! ### attributes -/
theorem po_fn {α : Type} {f : D → O α} {d : O D} {P : α → Prop} {E : Value → Prop} (h : Po (d.bind f) P E) : Po d (fun d => Po (f d) P E) E := Po.bind h
theorem is_land {v : V} {L : LandD} (h : Is c W H v (.land L)) : ∃ a F, v = .ref a ∧ LandAt c H a L F ∧ ∀ x ∈ F, W x := by
  cases h with
  | land h1 h2 => exact ⟨_, _, rfl, h1, h2⟩
theorem is_h (h : Option Int) : Is c W H (hV h) (hD h) := by
  cases h with
  | none => exact .non
  | some i => exact .int i
theorem isA_h : ∀ r : List (Option Int), IsA c W H (rowV r) (r.map hD)
  | [] => .nil
  | h :: r => .cons (is_h h) (isA_h r)
theorem isA_grid {rs : List Addr} {gg : List (List (Option Int))} (h : Paired (fun r row => H r = some (.lst (rowV row))) rs gg) : (∀ x ∈ rs, W x) → IsA c W H (rs.map V.ref) (gg.map rowD) := by
  induction h with
  | nil => exact fun _ => .nil
  | cons p t ih => exact fun hw => .cons (.lst (hw _ (by simp)) (.inl p) (isA_h _)) (ih fun x hx => hw x (by simp [hx]))
theorem ve_land {n : Str} {r : D → O D} (lk : Cls X.K c.CL) (hn : NoAttr X.K c.CL n) (h : VE X c M We al e f) (hb : attributeBase e n X.env (eval e X.env) = eval e X.env)
    (hr : ∀ (W : Addr → Prop) H v d (P : D → Prop) (E : Value → Prop), Is c W H v d → Po (r d) P E → ∃ a dx fs u d', v = .ref a ∧ H a = some (.ins c.CL dx fs) ∧ fs.lookup n = some u ∧ Is c W H u d' ∧ P d') : VE X c M We al (.Attribute e n pos) (e1 r f) := by
  obtain ⟨te, p, s⟩ := h.ex
  refine ⟨_, pe_fld p hb, fun w σ H ρ Q sl po => s w σ H ρ _ sl ((Po.bind po).imp (fun d _ q v H1 hs hi => ?_) fun _ _ q => q)⟩
  obtain ⟨a, dx, fs, u, d', rfl, e1, e2, e3, e4⟩ := hr _ _ _ _ _ _ hi q
  exact ⟨a, c.CL, dx, fs, u, rfl, e1, lk, hn, e2, e4 u H1 hs e3⟩
theorem po_land {α : Type} {d : D} {f : LandD → O α} {P : α → Prop} {E : Value → Prop} (h : Po ((landO d).bind f) P E) : ∃ L, d = .land L ∧ Po (f L) P E := by
  cases d with
  | land L => exact ⟨L, rfl, h⟩
  | _ => exact h.elim
theorem po_pile {α : Type} {d : D} {f : List D → O α} {P : α → Prop} {E : Value → Prop} (h : Po ((pileO d).bind f) P E) : ∃ l, d = .pile l ∧ Po (f l) P E := by
  cases d with
  | pile l => exact ⟨l, rfl, h⟩
  | _ => exact h.elim
theorem ve_grid (lk : LandK X.K c.CL) (h : VE X c M We al e f) (hb : attributeBase e "grid" X.env (eval e X.env) = eval e X.env := by rfl) : VE X c M We al (.Attribute e "grid" pos) (e1 gridD f) := by
  refine ve_land lk.cl lk.nG h hb fun W H v d P E hi po => ?_
  obtain ⟨L, rfl, po⟩ := po_land po
  obtain ⟨a, F, rfl, ⟨dx, g, od, rs, h1, h2, h3, h4, rfl⟩, hw⟩ := is_land hi
  exact ⟨a, dx, _, _, _, rfl, h1, rfl, .lst (hw g (by simp)) (.inl h2) (isA_grid h4 fun x hx => hw x (by simp [hx])), po⟩
theorem ve_rows (lk : LandK X.K c.CL) (h : VE X c M We al e f) (hb : attributeBase e "rows" X.env (eval e X.env) = eval e X.env := by rfl) : VE X c M We al (.Attribute e "rows" pos) (e1 rowsD f) := by
  refine ve_land lk.cl lk.nR h hb fun W H v d P E hi po => ?_
  obtain ⟨L, rfl, po⟩ := po_land po
  obtain ⟨a, F, rfl, ⟨dx, g, od, rs, h1, h2, h3, h4, rfl⟩, hw⟩ := is_land hi
  exact ⟨a, dx, _, _, _, rfl, h1, rfl, .int _, po⟩
theorem ve_cols (lk : LandK X.K c.CL) (h : VE X c M We al e f) (hb : attributeBase e "columns" X.env (eval e X.env) = eval e X.env := by rfl) : VE X c M We al (.Attribute e "columns" pos) (e1 colsD f) := by
  refine ve_land lk.cl lk.nC h hb fun W H v d P E hi po => ?_
  obtain ⟨L, rfl, po⟩ := po_land po
  obtain ⟨a, F, rfl, ⟨dx, g, od, rs, h1, h2, h3, h4, rfl⟩, hw⟩ := is_land hi
  exact ⟨a, dx, _, _, _, rfl, h1, rfl, .int _, po⟩
theorem isA_bl : ∀ o : List (List Key × Bool), IsA c W H (o.map fun p => V.bl p.2) (o.map fun p => D.bl p.2)
  | [] => .nil
  | _ :: o => .cons (.bl _) (isA_bl o)
theorem map_pair {α β γ : Type} (f : β → γ) (l : List (α × β)) : l.map (fun p => (p.1, f p.2)) = (l.map (·.1)).zip (l.map fun p => f p.2) := by
  induction l with
  | nil => rfl
  | cons p l ih => simp only [List.map_cons, List.zip_cons_cons, ih]
theorem ve_open (lk : LandK X.K c.CL) (h : VE X c M We al e f) (hb : attributeBase e "open_at" X.env (eval e X.env) = eval e X.env := by rfl) : VE X c M We al (.Attribute e "open_at" pos) (e1 openD f) := by
  refine ve_land lk.cl lk.nO h hb fun W H v d P E hi po => ?_
  obtain ⟨L, rfl, po⟩ := po_land po
  obtain ⟨a, F, rfl, ⟨dx, g, od, rs, h1, h2, h3, h4, rfl⟩, hw⟩ := is_land hi
  refine ⟨a, dx, _, _, .dct (L.o.map fun (p : List Key × Bool) => (p.1, D.bl p.2)), rfl, h1, rfl, ?_, po⟩
  rw [map_pair D.bl L.o]
  exact .dct (hw od (by simp)) (by rw [h3, map_pair V.bl L.o]) (by simp) (isA_bl L.o)
theorem ve_row (pk : PileK X.K c.CP) (h : VE X c M We al e f) (hb : attributeBase e "row" X.env (eval e X.env) = eval e X.env := by rfl) : VE X c M We al (.Attribute e "row" pos) (e1 rowPD f) := by
  obtain ⟨te, p, s⟩ := h.ex
  refine ⟨_, pe_fld p hb, fun w σ H ρ Q sl po => s w σ H ρ _ sl ((Po.bind po).imp (fun d _ q v H1 hs hi => ?_) fun _ _ q => q)⟩
  obtain ⟨l, rfl, po⟩ := po_pile q
  cases hi with
  | pile h1 h2 h3 h4 h5 => exact ⟨_, c.CP, _, _, _, rfl, h3, pk.cl, pk.nW, rfl, po _ H1 hs (.lst h2 (.inl h4) h5)⟩
end
end VS
set_option Elab.async false
set_option linter.all false
set_option maxRecDepth 100000
set_option maxHeartbeats 2000000
/-! VR: lands and piles changed, dicts, calls of methods, instances made. -/
namespace VS
open PySem L2

def putL {β : Type} (kvs : List (List Key × β)) (k : List Key) (v : β) : List (List Key × β) :=
  if (kvs.any fun kv => decide (kv.1 = k)) = true then kvs.map (fun kv => if kv.1 = k then (kv.1, v) else kv) else kvs ++ [(k, v)]
theorem putK_map {β : Type} (f : β → V) (kvs : List (List Key × β)) (k : List Key) (v : β) : putK (kvs.map fun p => (p.1, f p.2)) k (f v) = (putL kvs k v).map fun p => (p.1, f p.2) := by
  unfold putK putL
  have e : ((kvs.map fun p => (p.1, f p.2)).any fun kv => decide (kv.1 = k)) = kvs.any fun kv => decide (kv.1 = k) := by rw [List.any_map]; rfl
  rw [e]
  split
  · rw [List.map_map, List.map_map]
    refine List.map_congr_left fun p _ => ?_
    show (if p.1 = k then (p.1, f v) else (p.1, f p.2)) = _
    by_cases h : p.1 = k <;> simp [h]
  · simp
def blO : D → O Bool
  | .bl b => .ok b
  | _ => .bad
/-- x.open_at[e] = value -/
def sOpen (i : Nat) (fe fv : EF) : SF := fun ρ => (fv ρ).bind fun d => (blO d).bind fun b => (eVar i ρ).bind fun x => (landO x).bind fun L => (fe ρ).bind fun k => (ofO (keyD k)).bind fun ks => gd (decide (L.o.length < 100000)) (.ok (.nx (ρ.set i (some (.land ⟨L.g, putL L.o ks b⟩)))))
def dctO : D → O (List (List Key × D))
  | .dct m => .ok m
  | _ => .bad
/-- x[e] = value, x its own dict -/
def sDput (i : Nat) (fe fv : EF) : SF := fun ρ => (fv ρ).bind fun d => gd d.imm ((eVar i ρ).bind fun x => (dctO x).bind fun m => (fe ρ).bind fun k => (ofO (keyD k)).bind fun ks => gd (decide (m.length < 100000)) (.ok (.nx (ρ.set i (some (.dct (putL m ks d)))))))
def eDct0 : EF := fun _ => .ok (.dct [])
def eGet2 (fa fb fd : EF) : EF := fun ρ => (fa ρ).bind fun x => (dctO x).bind fun m => (fb ρ).bind fun k => (fd ρ).bind fun z => (ofO (keyD k)).bind fun ks => .ok ((lookD m ks).getD z)
def inD (neg : Bool) (k d : D) : O D := (dctO d).bind fun m => (ofO (keyD k)).bind fun ks => .ok (.bl (neg != (lookD m ks).isSome))
def e3 (g : D → D → D → O D) (f h l : EF) : EF := fun ρ => (f ρ).bind fun x => (h ρ).bind fun y => (l ρ).bind fun z => g x y z
def gridO : List D → Option (List (List (Option Int)))
  | [] => some []
  | .lst d :: ds => match hOs d, gridO ds with
    | some r, some rs => some (r :: rs)
    | _, _ => none
  | _ => none
/-- list(x) -/
def listD : D → O D
  | .lst l => gd (immA l) (.ok (.lst l))
  | .tup l => gd (immA l) (.ok (.lst l))
  | _ => .bad

section
variable {c : Ct} {M M' M1 Ml : Nat → Mo} {B : Bs} {H H' : Hp} {σ : L2.St} {ρ : Rho} {X : Cx} {We : WX} {k k' al al' al'' i j : Nat} {rs : Sh} {st : Stmt} {sts : List Stmt} {e a b d value : Expr} {f fa fb fd fe fv : EF} {pos pos' apos cpos : Pos} {W W' : Addr → Prop}
theorem isA_hV : ∀ {ds : List D} {vs : List V} {r : List (Option Int)}, IsA c W H vs ds → hOs ds = some r → vs = rowV r ∧ ds = r.map hD
  | [], _, r, .nil, e => by cases e; exact ⟨rfl, rfl⟩
  | d :: ds, _, r, .cons h t, e => by
    unfold hOs at e
    cases h2 : hOs ds with
    | none => rw [h2] at e; cases d <;> cases e
    | some xs =>
      rw [h2] at e
      obtain ⟨e1, e2⟩ := isA_hV t h2
      cases d with
      | non => cases e; cases h; exact ⟨by rw [e1]; rfl, by rw [e2]; rfl⟩
      | int i => cases e; cases h; exact ⟨by rw [e1]; rfl, by rw [e2]; rfl⟩
      | _ => cases e
theorem paired_set {rs : List Addr} {gg : List (List (Option Int))} {r : Addr} {row : List (Option Int)} : ∀ {j : Nat}, Paired (fun r row => H r = some (.lst (rowV row))) rs gg → rs.Nodup → rs[j]? = some r → (∀ x ∈ rs, x ≠ r → ∀ o, H x = some o → H' x = some o) → H' r = some (.lst (rowV row)) →
    Paired (fun r row => H' r = some (.lst (rowV row))) rs (gg.set j row)
  | _, .nil, _, e, _, _ => by simp at e
  | 0, .cons (a := a) h t, nd, e, hk, hr => by
    simp at e; subst e
    refine .cons hr ?_
    have hn := (List.nodup_cons.mp nd).1
    have : ∀ {rs : List Addr} {gg : List (List (Option Int))}, Paired (fun r row => H r = some (.lst (rowV row))) rs gg → (∀ x ∈ rs, ∀ o, H x = some o → H' x = some o) → Paired (fun r row => H' r = some (.lst (rowV row))) rs gg := by
      intro rs gg h
      induction h with
      | nil => exact fun _ => .nil
      | cons p t ih => exact fun hk => .cons (hk _ (by simp) _ p) (ih fun x hx => hk x (by simp [hx]))
    exact this t fun x hx o => hk x (by simp [hx]) (fun z => hn (by rw [← z]; exact hx)) o
  | j + 1, .cons h t, nd, e, hk, hr => by
    have e' := (by simpa using e : _ = some r)
    refine .cons (hk _ (by simp) (fun z => (List.nodup_cons.mp nd).1 ?_) _ h) (paired_set t (List.nodup_cons.mp nd).2 e' (fun x hx => hk x (by simp [hx])) hr)
    rw [z]; exact List.mem_of_getElem? e'
theorem paired_len {rs : List Addr} {gg : List (List (Option Int))} (h : Paired (fun r row => H r = some (.lst (rowV row))) rs gg) : rs.length = gg.length := by
  induction h with
  | nil => rfl
  | cons _ _ ih => simp [ih]
theorem paired_get {rs : List Addr} {gg : List (List (Option Int))} : ∀ {j : Nat} {row : List (Option Int)}, Paired (fun r row => H r = some (.lst (rowV row))) rs gg → gg[j]? = some row → ∃ r, rs[j]? = some r ∧ H r = some (.lst (rowV row))
  | _, _, .nil, e => by simp at e
  | 0, row, .cons h t, e => by simp at e; subst e; exact ⟨_, rfl, h⟩
  | j + 1, row, .cons h t, e => by
    obtain ⟨r, e1, e2⟩ := paired_get (j := j) t (by simpa using e)
    exact ⟨r, by simpa using e1, e2⟩
theorem head_set {g : List (List (Option Int))} {j : Nat} {r : List (Option Int)} (h : r.length = (g.getD j []).length) : ((g.set j r).headD []).length = (g.headD []).length := by
  cases g with
  | nil => rfl
  | cons x g =>
    cases j with
    | zero => simpa using h
    | succ j => rfl
theorem vl_grid {n : Str} {p2 : Pos} (i : Nat) (lk : LandK X.K c.CL) (hm : M i = .o .land ∨ M i = .p .land) (hb : VE X c M We al' b fb) (hN : X.N[i]? = some n := by rfl) (hv : Vis X.env.scope n := by first | exact Or.inl rfl | exact Or.inr (Or.inl rfl) | exact Or.inr (Or.inr rfl))
    (hd : (n == ("__debug__" : Str)) = false := by decide) (hcd : (n == ("__classdict__" : Str)) = false := by decide) (ht : attributeBase (.Name n p2) "grid" X.env (eval (.Name n p2) X.env) = eval (.Name n p2) X.env := by rfl) (hs : PlainIx b := by exact fun _ _ => rfl) :
    VLoc X c M We i (.Subscript (.Attribute (.Name n p2) "grid" pos) b pos') (gGrid i fb) (pGrid i fb) := by
  obtain ⟨tb, pb, sb⟩ := hb.ex
  refine ⟨_, pe_ix ix_list (pe_fld (pv i hN hv hd hcd) ht) pb hs, fun B Fs σ H ρ Q R po => ?_⟩
  obtain ⟨d, er, po⟩ := po_var (i := i) (ρ := ρ) (f := fun d => (landO d).bind fun L => (fb ρ).bind fun k => match k with
    | .int k => (ofO (atI L.g k)).bind fun r => .ok (r.map hD)
    | _ => .bad) po
  obtain ⟨L, rfl, po⟩ := po_land po
  obtain ⟨v, Wm, e1, ho, nd, hW, hth, put⟩ := R.mut hm er
  obtain ⟨q, rfl, ⟨L', ed, dx, g, od, rs, h1, h2, h3, h4, eF⟩ | ⟨dx, ed, _⟩⟩ := ho
  · cases ed
    refine ⟨_, e1, q, c.CL, dx, _, .ref g, rfl, h1, lk.cl, lk.nG, rfl, sb _ σ H ρ _ R.slots ((Po.bind (r := fb ρ) po).imp (fun kd ek po v2 H2 hs2 hi2 => ?_) fun _ _ q => q)⟩
    cases kd with
    | int kk =>
      obtain ⟨row, hr, po⟩ := Po.ofO (Po.bind (r := ofO (atI L.g kk)) po)
      rw [is_int hi2]
      have hr' := hr
      unfold L2.atI at hr'
      cases hj : ixN L.g.length kk with
      | none => rw [hj] at hr'; cases hr'
      | some j =>
        rw [hj] at hr'
        replace hr' : L.g[j]? = some row := hr'
        obtain ⟨r, hrs, hrow⟩ := paired_get h4 hr'
        have rF : r ∈ Fs i := by rw [eF]; simp [List.mem_of_getElem? hrs]
        rw [eF] at nd
        have nd1 := List.nodup_cons.mp nd
        have nd2 := List.nodup_cons.mp nd1.2
        have nd3 := List.nodup_cons.mp nd2.2
        have hrm := List.mem_of_getElem? hrs
        have qr : q ≠ r := fun z => nd1.1 (by rw [z]; simp [hrm])
        have gr : g ≠ r := fun z => nd2.1 (by rw [z]; simp [hrm])
        have or' : od ≠ r := fun z => nd3.1 (by rw [z]; exact hrm)
        refine ⟨g, rs.map V.ref, kk, .ref r, rfl, rfl, .inl (.inl (hs2 _ _ h2)), ?_, po r (rowV row) H2 hs2 (hs2 _ _ hrow) (isA_h row) fun H1 xs' l' d' hs3 hi' ed => ?_⟩
        · unfold L2.atI
          rw [List.length_map, paired_len h4, hj]
          show (rs.map V.ref)[j]? = _
          rw [List.getElem?_map, hrs]; rfl
        · unfold pGrid at ed
          rw [show eVar i ρ = .ok (.land L) by unfold eVar; rw [er], ek] at ed
          simp only [hj] at ed
          cases hro : hOs l' with
          | none => rw [hro] at ed; cases ed
          | some r' =>
            rw [hro] at ed
            simp only [] at ed
            split at ed
            · rename_i hlen
              cases ed
              obtain ⟨ex, _⟩ := isA_hV hi' hro
              subst ex
              have hs4 := hs2.trans hs3
              refine put _ _ (Fs i) (fun b' o hb' eb => ?_) (fun b' eb => ?_) (by rw [eF]; exact nd) (fun b' hb' => .inl hb') ⟨q, rfl, .inl ⟨_, rfl, dx, g, od, rs, ?_, ?_, ?_, ?_, eF⟩⟩
              · rw [upd_ne (fun z => hb' (by rw [z]; exact rF))]; exact hs4 b' o eb
              · by_cases h : b' = r
                · rw [h, upd_same] at eb; cases eb
                · rw [upd_ne h] at eb; exact hs4.free eb
              · rw [upd_ne qr, hs4 _ _ h1]
                unfold landF
                simp only [List.length_set, head_set hlen]
              · rw [upd_ne gr]; exact hs4 _ _ h2
              · rw [upd_ne or']; exact hs4 _ _ h3
              · refine paired_set (H := H) h4 nd3.2 hrs (fun x hx hne o eo => ?_) upd_same
                rw [upd_ne hne]; exact hs4 _ _ eo
            · cases ed
    | _ => exact po.elim
  · cases ed
theorem vl_row {n : Str} {p2 : Pos} (i : Nat) (pk : PileK X.K c.CP) (hm : M i = .o .pile ∨ M i = .p .pile) (hN : X.N[i]? = some n := by rfl) (hv : Vis X.env.scope n := by first | exact Or.inl rfl | exact Or.inr (Or.inl rfl) | exact Or.inr (Or.inr rfl))
    (hd : (n == ("__debug__" : Str)) = false := by decide) (hcd : (n == ("__classdict__" : Str)) = false := by decide) (ht : attributeBase (.Name n p2) "row" X.env (eval (.Name n p2) X.env) = eval (.Name n p2) X.env := by rfl) : VLoc X c M We i (.Attribute (.Name n p2) "row" pos) (gRow i) pRow := by
  refine ⟨_, pe_fld (pv i hN hv hd hcd) ht, fun B Fs σ H ρ Q R po => ?_⟩
  obtain ⟨d, er, po⟩ := po_var (i := i) (ρ := ρ) (f := fun d => (pileO d).bind fun l => gd (VS.immA l) (.ok l)) po
  obtain ⟨l, rfl, po⟩ := po_pile po
  obtain ⟨hi, po⟩ := Po.gd po
  obtain ⟨v, Wm, e1, ho, nd, hW, hth, put⟩ := R.mut hm er
  obtain ⟨q, rfl, ⟨dx, r, xs, ds, ed, h1, h2, h3, eF⟩ | ⟨dx, ed, _⟩⟩ := ho
  · cases ed
    rw [eF] at nd
    have qr : q ≠ r := fun z => by rw [z] at nd; simp at nd
    refine ⟨_, e1, q, c.CP, dx, _, .ref r, rfl, h1, pk.cl, pk.nW, rfl, po r xs H (Same.refl H) h2 (h3.immA hi) fun H1 xs' l' d' hs hi' ed => ?_⟩
    cases ed
    have hr1 := hs _ _ h2
    refine put _ _ (Fs i) (fun b' o hb' eb => ?_) (fun b' eb => ?_) (by rw [eF]; exact nd) (fun b' hb' => .inl hb') ⟨q, rfl, .inl ⟨dx, r, xs', l', rfl, ?_, upd_same, ?_, eF⟩⟩
    · rw [upd_ne (fun z => hb' (by rw [eF, z]; simp))]; exact hs b' o eb
    · by_cases h : b' = r
      · rw [h, upd_same] at eb; cases eb
      · rw [upd_ne h] at eb; exact hs.free eb
    · rw [upd_ne qr]; exact hs _ _ h1
    · exact hi'.stay (upd_sta (xs' := xs') hr1)
  · cases ed

/-! ### dicts -/
theorem upd_staD {a : Addr} {kvs kvs' : List (List Key × V)} (h : H a = some (.dT kvs)) : ∀ b o, VS.sta o → H b = some o → upd H a (.dT kvs') b = some o := fun b o hs e => by
  rw [upd_ne (fun z => by rw [z, h] at e; cases e; exact hs)]
  exact e
theorem vs_open {n : Str} {p2 : Pos} (i : Nat) (z : Cz X c We k) (lk : LandK X.K c.CL) (hm : M i = .o .land ∨ M i = .p .land) (hi : VE X c M We al e fe) (hv : VE X c M We al' value fv) (hN : X.N[i]? = some n := by rfl) (hvis : Vis X.env.scope n := by first | exact Or.inl rfl | exact Or.inr (Or.inl rfl) | exact Or.inr (Or.inr rfl))
    (hd : (n == ("__debug__" : Str)) = false := by decide) (hcd : (n == ("__classdict__" : Str)) = false := by decide) (ht : attributeBase (.Name n p2) "open_at" X.env (eval (.Name n p2) X.env) = eval (.Name n p2) X.env := by rfl)
    (hs : swapsWith value (some (.Subscript (.Attribute (.Name n p2) "open_at" apos) e pos')) pos.line X.env = pure false := by rfl) : VSt X c We rs Ml M M (.Assign [.Subscript (.Attribute (.Name n p2) "open_at" apos) e pos'] value pos) (sOpen i fe fv) := by
  obtain ⟨ti, pi, si⟩ := hi.ex
  obtain ⟨tv, pv', sv⟩ := hv.ex
  refine ⟨_, ps_dput (hu_of z.hr) (pe_fld (pv i hN hvis hd hcd) ht) pi pv' hs, fun B σ H ρ D R po => ?_⟩
  obtain ⟨Fs, R⟩ := R
  refine sv _ σ H ρ _ R.slots ((Po.exc_up R (Po.bind po)).imp (fun d _ q v H1 hs1 hiv => ?_) fun _ _ q => q)
  cases d with
  | bl bb =>
    rw [is_bl hiv]
    have R1 := R.same hs1
    obtain ⟨d, er, q⟩ := po_var (i := i) (ρ := ρ) q
    obtain ⟨L, rfl, q⟩ := po_land q
    obtain ⟨v', Wm, e1, ho, nd, hW, hth, put⟩ := R1.mut hm er
    obtain ⟨q0, rfl, ⟨L', ed, dx, g, od, rs, h1, h2, h3, h4, eF⟩ | ⟨dx, ed, _⟩⟩ := ho
    · cases ed
      refine ⟨_, e1, q0, c.CL, dx, _, .ref od, rfl, h1, lk.cl, lk.nO, rfl, si _ σ H1 ρ _ R1.slots ((Po.exc_up R1 (Po.bind (r := fe ρ) q)).imp (fun kd ek q v2 H2 hs2 hi2 => ?_) fun _ _ q => q)⟩
      obtain ⟨ks, hk, q⟩ := Po.ofO (Po.bind (r := ofO (keyD kd)) q)
      obtain ⟨hz, q⟩ := Po.gd q
      obtain ⟨b, rfl, hb⟩ := key_is hi2 hk
      refine ⟨od, _, rfl, DPut.t (hs2 _ _ h3) hb (by rw [List.length_map]; exact Nat.lt_of_lt_of_le (of_decide_eq_true hz) (by decide)), q σ _ ?_⟩
      rw [eF] at nd
      have nd1 := List.nodup_cons.mp nd
      have nd2 := List.nodup_cons.mp nd1.2
      have nd3 := List.nodup_cons.mp nd2.2
      have oF : od ∈ Fs i := by rw [eF]; simp
      have qo : q0 ≠ od := fun z => nd1.1 (by rw [z]; simp)
      have go : g ≠ od := fun z => nd2.1 (by rw [z]; simp)
      refine put _ _ (Fs i) (fun b' o hb' eb => ?_) (fun b' eb => ?_) (by rw [eF]; exact nd) (fun b' hb' => .inl hb') ⟨q0, rfl, .inl ⟨_, rfl, dx, g, od, rs, ?_, ?_, ?_, ?_, eF⟩⟩
      · rw [upd_ne (fun z => hb' (by rw [z]; exact oF))]; exact hs2 b' o eb
      · by_cases h : b' = od
        · rw [h, upd_same] at eb; cases eb
        · rw [upd_ne h] at eb; exact hs2.free eb
      · rw [upd_ne qo]; exact hs2 _ _ h1
      · rw [upd_ne go]; exact hs2 _ _ h2
      · rw [upd_same, putK_map V.bl]
      · have : ∀ {rs : List Addr} {gg : List (List (Option Int))}, Paired (fun r row => H1 r = some (.lst (rowV row))) rs gg → (∀ x ∈ rs, x ≠ od) → Paired (fun r row => upd H2 od (.dT (putK (L.o.map fun p => (p.1, V.bl p.2)) ks (.bl bb))) r = some (.lst (rowV row))) rs gg := by
          intro rs gg h
          induction h with
          | nil => exact fun _ => .nil
          | cons p t ih => exact fun hk => .cons (by rw [upd_ne (hk _ (by simp))]; exact hs2 _ _ p) (ih fun x hx => hk x (by simp [hx]))
        exact this h4 fun x hx z => nd3.1 (by rw [← z]; exact hx)
    · cases ed
  | _ => exact q.elim
theorem zip_put {ks : List (List Key)} {vs : List V} {ds : List D} {kk : List Key} {v : V} {d : D} (hl : vs.length = ks.length) (h : IsA c W H vs ds) (hv : Is c W H v d) : ∃ (ks' : List (List Key)) (vs' : List V) (ds' : List D), putK (ks.zip vs) kk v = ks'.zip vs' ∧ putL (ks.zip ds) kk d = ks'.zip ds' ∧ vs'.length = ks'.length ∧ IsA c W H vs' ds' := by
  have hld : ds.length = ks.length := by rw [← h.length, hl]
  have any : ∀ {γ : Type} {xs : List γ}, xs.length = ks.length → ((ks.zip xs).any fun kv => decide (kv.1 = kk)) = ks.any fun k0 => decide (k0 = kk) := by
    intro γ xs hx
    have e : ((ks.zip xs).map (·.1)) = ks := List.map_fst_zip (by omega)
    have e2 : (((ks.zip xs).map (·.1)).any fun k0 => decide (k0 = kk)) = (ks.zip xs).any fun kv => decide (kv.1 = kk) := by rw [List.any_map]; rfl
    rw [← e2, e]
  unfold putK putL
  rw [any hl, any hld]
  split
  · clear any
    have : ∀ {ks : List (List Key)} {vs : List V} {ds : List D}, vs.length = ks.length → IsA c W H vs ds → ∃ vs' ds', (ks.zip vs).map (fun kv => if kv.1 = kk then (kv.1, v) else kv) = ks.zip vs' ∧ (ks.zip ds).map (fun kv => if kv.1 = kk then (kv.1, d) else kv) = ks.zip ds' ∧ vs'.length = ks.length ∧ IsA c W H vs' ds' := by
      intro ks
      induction ks with
      | nil => intro vs ds hl h; exact ⟨[], [], by simp, by simp, rfl, .nil⟩
      | cons k0 ks ih =>
        intro vs ds hl h
        cases h with
        | nil => simp at hl
        | @cons v0 vs d0 ds h0 t =>
          obtain ⟨vs', ds', e1, e2, e3, e4⟩ := ih (by simpa using hl) t
          by_cases hk : k0 = kk
          · exact ⟨v :: vs', d :: ds', by simp [hk, e1], by simp [hk, e2], by simp [e3], .cons hv e4⟩
          · exact ⟨v0 :: vs', d0 :: ds', by simp [hk, e1], by simp [hk, e2], by simp [e3], .cons h0 e4⟩
    obtain ⟨vs', ds', e1, e2, e3, e4⟩ := this hl h
    exact ⟨ks, vs', ds', e1, e2, e3, e4⟩
  · exact ⟨ks ++ [kk], vs ++ [v], ds ++ [d], by rw [List.zip_append hl.symm]; rfl, by rw [List.zip_append hld.symm]; rfl, by simp [hl], h.append (.cons hv .nil)⟩
theorem vs_dput {n : Str} {p2 : Pos} (i : Nat) (z : Cz X c We k) (hm : M i = .o .d ∨ M i = .p .d) (hi : VE X c M We al e fe) (hv : VE X c M We al' value fv) (hN : X.N[i]? = some n := by rfl) (hvis : Vis X.env.scope n := by first | exact Or.inl rfl | exact Or.inr (Or.inl rfl) | exact Or.inr (Or.inr rfl))
    (hd : (n == ("__debug__" : Str)) = false := by decide) (hcd : (n == ("__classdict__" : Str)) = false := by decide)
    (hs : swapsWith value (some (.Subscript (.Name n p2) e pos')) pos.line X.env = pure false := by rfl) : VSt X c We rs Ml M M (.Assign [.Subscript (.Name n p2) e pos'] value pos) (sDput i fe fv) := by
  obtain ⟨ti, pi, si⟩ := hi.ex
  obtain ⟨tv, pv', sv⟩ := hv.ex
  refine ⟨_, ps_dput (hu_of z.hr) (pv i hN hvis hd hcd) pi pv' hs, fun B σ H ρ D R po => ?_⟩
  obtain ⟨Fs, R⟩ := R
  refine sv _ σ H ρ _ R.slots ((Po.exc_up R (Po.bind po)).imp (fun d _ q v H1 hs1 hiv => ?_) fun _ _ q => q)
  obtain ⟨hdi, q⟩ := Po.gd q
  have R1 := R.same hs1
  obtain ⟨dx, er, q⟩ := po_var (i := i) (ρ := ρ) q
  cases dx with
  | dct m =>
    obtain ⟨v', Wm, e1, ho, nd, hW, hth, put⟩ := R1.mut hm er
    obtain ⟨q0, kss, vs, ds, rfl, ed, h1, h2, h3, eF⟩ := ho
    cases ed
    refine ⟨_, e1, si _ σ H1 ρ _ R1.slots ((Po.exc_up R1 (Po.bind (r := fe ρ) q)).imp (fun kd ek q v2 H2 hs2 hi2 => ?_) fun _ _ q => q)⟩
    obtain ⟨ks, hk, q⟩ := Po.ofO (Po.bind (r := ofO (keyD kd)) q)
    obtain ⟨hz, q⟩ := Po.gd q
    obtain ⟨b, rfl, hb⟩ := key_is hi2 hk
    have hlen : (kss.zip vs).length = (kss.zip ds).length := by simp [List.length_zip, h2, h3.length.symm]
    have h3' : IsA c (fun a => Wm a ∧ H1 a ≠ none) H2 vs ds := (h3.track).same hs2
    obtain ⟨ks', vs', ds', p1, p2', p3, p4⟩ := zip_put (kk := ks) (v := v) (d := d) h2 h3' (Is.imm (fun _ _ _ z => z) (hiv.same hs2) hdi)
    refine ⟨q0, _, rfl, DPut.t (hs2 _ _ h1) hb (by rw [hlen]; exact Nat.lt_of_lt_of_le (of_decide_eq_true hz) (by decide)), q σ _ ?_⟩
    rw [p2']
    refine put _ _ [q0] (fun b' o hb' eb => ?_) (fun b' eb => ?_) (by simp) (fun b' hb' => .inl (by rw [eF]; exact hb')) ⟨q0, ks', vs', ds', rfl, rfl, by rw [upd_same, p1], p3, ?_, rfl⟩
    · rw [upd_ne (fun z => hb' (by rw [eF, z]; simp))]; exact hs2 b' o eb
    · by_cases h : b' = q0
      · rw [h, upd_same] at eb; cases eb
      · rw [upd_ne h] at eb; exact hs2.free eb
    · refine p4.mono (fun a x => x) fun a o x ea => ?_
      rw [upd_ne (fun z => ?_)]
      · exact ea
      · rw [z] at x ea
        rcases x with x | x
        · exact hW q0 x.1 (by rw [eF]; simp)
        · rw [hs2 _ _ h1] at ea; cases ea; exact x
  | _ => exact q.elim
theorem vo_dct0 : VO X c M We .d (.Dict [] [] pos) eDct0 := by
  refine ⟨_, pe_dnewT, fun w σ H ρ Q sl po => ?_⟩
  intro p hp
  have hn : ∀ a ∈ [p], H a = none := fun a ha => by
    have e : a = p := by simpa using ha
    rw [e]; exact hp
  exact po _ _ [p] (same_new (Same.refl _) hp) hn (by simp) ⟨p, [], [], [], rfl, rfl, upd_same, rfl, .nil, rfl⟩
theorem ve_dget2 (z : Cz X c We k) (ha : VE X c M We al a fa) (hb : VE X c M We al' b fb) (hd : VE X c M We al'' d fd) (m : M2 X a "get" apos b d cpos := by exact ⟨rfl, rfl, rfl, rfl⟩) : VE X c M We (max al al'') (.Call (.Attribute a "get" apos) [b, d] [] cpos) (eGet2 fa fb fd) := by
  obtain ⟨ta, pa, sa⟩ := ha.ex
  obtain ⟨tb, pb, sb⟩ := hb.ex
  obtain ⟨td, pd, sd⟩ := hd.ex
  refine ⟨_, pe_dget2 (hu_of z.hr) pa pb pd m, fun w σ H ρ Q sl po => ?_⟩
  refine sa w σ H ρ _ sl ((Po.bind po).imp (fun x _ q v H1 hs1 hi1 => ?_) fun _ _ q => q)
  cases x with
  | dct mm =>
    have q : Po ((fb ρ).bind fun k => (fd ρ).bind fun z => (ofO (keyD k)).bind fun ks => .ok ((lookD mm ks).getD z)) _ _ := q
    cases hi1 with
    | @dct p kss vs ds h1 h2 h3 h4 =>
      refine ⟨p, rfl, .inr ⟨_, .inl h2⟩, sb w σ H1 ρ _ (sl.same hs1) ((Po.bind q).imp (fun y _ q v2 H2 hs2 hi2 => ?_) fun _ _ q H' hs => q H' (hs1.trans hs))⟩
      refine sd w σ H2 ρ _ ((sl.same hs1).same hs2) ((Po.bind q).imp (fun zd _ q v3 H3 hs3 hi3 => ?_) fun _ _ q H' hs => q H' ((hs1.trans hs2).trans hs))
      obtain ⟨ks, hk, q⟩ := Po.ofO (Po.bind (r := ofO (keyD y)) q)
      obtain ⟨bb, rfl, hbb⟩ := key_is hi2 hk
      have hs23 := hs2.trans hs3
      refine ⟨_, DGet.t (hs23 _ _ h2) (hs3 _ _ hbb), q _ H3 ((hs1.trans hs2).trans hs3) ?_⟩
      obtain ⟨l1, l2⟩ := look_is (k := ks) h4 h3
      have up1 : ∀ {vv dd}, Is c (NW w al H) H1 vv dd → Is c (NW w (max al al'') H) H3 vv dd := fun h => (h.same hs23).up (NW.up (Nat.le_max_left _ _))
      have up2 : Is c (NW w (max al al'') H) H3 v3 zd := hi3.up fun a x => NW.up (Nat.le_max_right al al'') a (NW.back hs1 a (NW.back hs2 a x))
      cases hl : lookD (kss.zip ds) ks with
      | none => rw [l2 hl]; exact up2
      | some dd =>
        obtain ⟨vv, e1, e2⟩ := l1 dd hl
        rw [e1]; exact up1 e2
  | _ => exact q.elim
/-- k in d -/
def eIn (neg : Bool) (fk fd : EF) : EF := fun ρ => (fk ρ).bind fun k => (fd ρ).bind fun d => inD neg k d
theorem din_is {kd dd : D} {v vk : V} {P : D → Prop} {E : Value → Prop} {neg : Bool} (hk : Is c W H vk kd) (hd : Is c W' H v dd) (po : Po (inD neg kd dd) P E) : ∃ a o, v = .ref a ∧ DGet H a vk o ∧ P (.bl (neg != o.isSome)) := by
  cases dd with
  | dct m =>
    cases hd with
    | @dct p kss vs ds h1 h2 h3 h4 =>
      obtain ⟨ks, hk', q⟩ := Po.ofO (Po.bind (r := ofO (keyD kd)) po)
      obtain ⟨bb, rfl, hbb⟩ := key_is hk hk'
      refine ⟨p, _, rfl, DGet.t h2 hbb, ?_⟩
      obtain ⟨l1, l2⟩ := look_is (k := ks) h4 h3
      have e : (valV (kss.zip vs) ks).isSome = (lookD (kss.zip ds) ks).isSome := by
        cases hl : lookD (kss.zip ds) ks with
        | none => rw [l2 hl]; rfl
        | some d' =>
          obtain ⟨vv, e1, _⟩ := l1 d' hl
          rw [e1]; rfl
      rw [e]
      exact q
  | _ => exact po.elim
theorem ve_din (z : Cz X c We k) (hb : VE X c M We al' b fb) (ha : VE X c M We al a fa) (hmk : behindInMarks .In a = false := by first | exact nobehind _ (by decide) (by decide) | rfl) : VE X c M We 0 (.Compare b [.In] [a] pos) (eIn false fb fa) := by
  obtain ⟨tb, pb, sb⟩ := hb.ex
  obtain ⟨ta, pa, sa⟩ := ha.ex
  refine ⟨_, pe_cmp (pc_din (hu_of z.hr) pb pa) hmk, fun w σ H ρ Q sl po => sb w σ H ρ _ sl ((Po.bind po).imp (fun kd _ q v H1 hs1 hi1 => ?_) fun _ _ q => q)⟩
  refine sa w σ H1 ρ _ (sl.same hs1) ((Po.bind q).imp (fun dd _ q v2 H2 hs2 hi2 => ?_) fun _ _ q H' hs => q H' (hs1.trans hs))
  obtain ⟨p, o, rfl, g, q⟩ := din_is (hi1.same hs2) hi2 q
  exact ⟨p, o, rfl, g, by simpa using q _ H2 (hs1.trans hs2) (.bl _)⟩
theorem ve_dnotin (z : Cz X c We k) (hb : VE X c M We al' b fb) (ha : VE X c M We al a fa) (hmk : behindInMarks .NotIn a = false := by first | exact nobehind _ (by decide) (by decide) | rfl) : VE X c M We 0 (.Compare b [.NotIn] [a] pos) (eIn true fb fa) := by
  obtain ⟨tb, pb, sb⟩ := hb.ex
  obtain ⟨ta, pa, sa⟩ := ha.ex
  refine ⟨_, pe_cmp (pc_dnotin (hu_of z.hr) pb pa) hmk, fun w σ H ρ Q sl po => sb w σ H ρ _ sl ((Po.bind po).imp (fun kd _ q v H1 hs1 hi1 => ?_) fun _ _ q => q)⟩
  refine sa w σ H1 ρ _ (sl.same hs1) ((Po.bind q).imp (fun dd _ q v2 H2 hs2 hi2 => ?_) fun _ _ q H' hs => q H' (hs1.trans hs))
  obtain ⟨p, o, rfl, g, q⟩ := din_is (hi1.same hs2) hi2 q
  exact ⟨p, o, rfl, g, by simpa using q _ H2 (hs1.trans hs2) (.bl _)⟩
theorem vt_din (z : Cz X c We k) (hb : VE X c M We al' b fb) (ha : VE X c M We al a fa) (hmk : behindInMarks .In a = false := by first | exact nobehind _ (by decide) (by decide) | rfl) : VT X c M We (.Compare b [.In] [a] pos) (tE (eIn false fb fa)) := by
  obtain ⟨tb, pb, sb⟩ := hb.ex
  obtain ⟨ta, pa, sa⟩ := ha.ex
  refine ⟨_, pt_cmp (pc_din (hu_of z.hr) pb pa) hmk, fun w σ H ρ Q sl po => sb w σ H ρ _ sl ((Po.bind (Po.bind po)).imp (fun kd _ q v H1 hs1 hi1 => ?_) fun _ _ q => q)⟩
  refine sa w σ H1 ρ _ (sl.same hs1) ((Po.bind q).imp (fun dd _ q v2 H2 hs2 hi2 => ?_) fun _ _ q H' hs => q H' (hs1.trans hs))
  obtain ⟨p, o, rfl, g, q⟩ := din_is (hi1.same hs2) hi2 q
  exact ⟨p, o, rfl, g, _, rfl, by simpa using q H2 (hs1.trans hs2)⟩
theorem vt_dnotin (z : Cz X c We k) (hb : VE X c M We al' b fb) (ha : VE X c M We al a fa) (hmk : behindInMarks .NotIn a = false := by first | exact nobehind _ (by decide) (by decide) | rfl) : VT X c M We (.Compare b [.NotIn] [a] pos) (tE (eIn true fb fa)) := by
  obtain ⟨tb, pb, sb⟩ := hb.ex
  obtain ⟨ta, pa, sa⟩ := ha.ex
  refine ⟨_, pt_cmp (pc_dnotin (hu_of z.hr) pb pa) hmk, fun w σ H ρ Q sl po => sb w σ H ρ _ sl ((Po.bind (Po.bind po)).imp (fun kd _ q v H1 hs1 hi1 => ?_) fun _ _ q => q)⟩
  refine sa w σ H1 ρ _ (sl.same hs1) ((Po.bind q).imp (fun dd _ q v2 H2 hs2 hi2 => ?_) fun _ _ q H' hs => q H' (hs1.trans hs))
  obtain ⟨p, o, rfl, g, q⟩ := din_is (hi1.same hs2) hi2 q
  exact ⟨p, o, rfl, g, _, rfl, by simpa using q H2 (hs1.trans hs2)⟩

/-! ### list(x) -/
theorem own_new {H1 : Hp} {w : Wd} {xs : List V} {l : List D} {p : Addr} (hs : Same H H1) (hp : H1 p = none) (hi : IsA c W H1 xs l) (hd : VS.immA l = true) :
    Same H (upd H1 p (.lst xs)) ∧ (∀ a ∈ [p], H a = none) ∧ [p].Nodup ∧ Own c (fun a => NW w 0 H a ∧ a ∉ [p]) (upd H1 p (.lst xs)) (.l .fz) (.ref p) (.lst l) [p] := by
  refine ⟨same_new hs hp, fun a ha => ?_, by simp, p, xs, l, ?_⟩
  · have e : a = p := by simpa using ha
    rw [e]; exact hs.free hp
  · have hi2 : IsA c (fun a => NW w 0 H a ∧ a ∉ [p]) (upd H1 p (.lst xs)) xs l := (hi.immA hd).same (same_new (Same.refl _) hp)
    obtain ⟨Gs, g1, g2⟩ := hi2.toP3
    exact ⟨Gs, rfl, rfl, upd_same, g1, by rw [g2]⟩
theorem vo_list {p : Pos} (z : Cz X c We k) (h : VE X c M We al e f) (hg : Gl X "list") (hm : X.mg "list" = none) (hs : starEach [e] X.env = (false, eval e X.env) :: starEach [] X.env := by rfl) (hpl : (backTo pos (starEach [] X.env)).any (·.1) = false := by rfl) :
    VO X c M We (.l .fz) (.Call (.Name "list" p) [e] [] pos) (e1 listD f) := by
  obtain ⟨te, pe, s⟩ := h.ex
  refine ⟨_, pe_callTy call_list_of hg hm (by decide +kernel) (pa_cons pe pa_nil hs) (by decide) (by decide) hs hpl, fun w σ H ρ Q sl po => s w σ H ρ _ sl ((Po.bind po).imp (fun d _ q v H1 hs1 hi => ?_) fun _ _ q => q)⟩
  cases d with
  | lst l =>
    obtain ⟨hd, q⟩ := Po.gd q
    obtain ⟨a, xs, rfl, h1, h2⟩ := is_lst hi
    refine ⟨a, xs, rfl, .inl (by rw [z.K]; exact h1), fun p hp => ?_⟩
    obtain ⟨o1, o2, o3, o4⟩ := own_new (w := w) hs1 hp h2 hd
    exact q _ _ [p] o1 o2 o3 o4
  | tup l =>
    obtain ⟨hd, q⟩ := Po.gd q
    obtain ⟨a, xs, rfl, h1, h2⟩ := is_tup hi
    refine ⟨a, xs, rfl, .inr (.of h1), fun p hp => ?_⟩
    obtain ⟨o1, o2, o3, o4⟩ := own_new (w := w) hs1 hp h2 hd
    exact q _ _ [p] o1 o2 o3 o4
  | _ => exact q.elim

/-! ### what an instance starts with -/
/-- self.grid, .rows, .columns, .open_at: a land is there -/
def sLand (i : Nat) (fg fr fc : EF) : SF := fun ρ => (fg ρ).bind fun g => (eVar i ρ).bind fun x => match x with
  | .raw => (lstD g).bind fun rows => (fr (ρ.set i none)).bind fun r => (fc (ρ.set i none)).bind fun cc => match r, cc with
    | .int r, .int cc => (ofO (gridO rows)).bind fun gg => gd (decide (r = (gg.length : Int)) && decide (cc = ((gg.headD []).length : Int))) (.ok (.nx (ρ.set i (some (.land ⟨gg, []⟩)))))
    | _, _ => .bad
  | _ => .bad
def sPile0 (i : Nat) : SF := fun ρ => (eVar i ρ).bind fun x => match x with
  | .raw => .ok (.nx (ρ.set i (some (.pile []))))
  | _ => .bad
/-- slot i holds a bare instance at q: what else stands while its attributes come -/
theorem RelF.bare {Fs : Nat → List Addr} {q C C' dx dx' : Addr} {fs fs' : List (Str × V)} (R : RelF c M B Fs H σ ρ) (hs : Same H H') (hq : H q = some (.ins C dx fs)) (hF : Fs i = [q]) (hr : ρ[i]? = some none) (hi : σ[i]? = some (some (.ref q))) (hm : M i = .o .land ∨ M i = .p .land ∨ M i = .o .pile ∨ M i = .p .pile) :
    RelF c M B Fs (upd H' q (.ins C' dx' fs')) σ ρ := by
  have e : fset Fs i (Fs i) = Fs := funext fun j => by
    by_cases h : j = i
    · rw [h, fset_self]
    · rw [fset_ne h]
  have := R.put (i := i) (F' := Fs i) (H' := upd H' q (.ins C' dx' fs')) (σ' := σ) (ρ' := ρ) (fun a o hn ea => by rw [upd_ne (fun z => hn (by rw [hF, z]; simp))]; exact hs a o ea) (fun a ea => by
      by_cases h : a = q
      · rw [h, upd_same] at ea; cases ea
      · rw [upd_ne h] at ea; exact hs.free ea) (R.nd i) (fun a ha => .inl ha) (fun a ha => by
      rw [hF] at ha
      have ea : a = q := by simpa using ha
      rw [ea, upd_same]; exact ⟨_, rfl, fun z => z⟩) (fun _ _ => rfl) (fun _ _ => rfl) R.len (fun p hp ep => by have := (R.mp p hp).1; rw [ep] at this; exact this) (fun s hs => R.own i s hs) (fun d ed => by rw [hr] at ed; cases ed)
  rw [e] at this
  exact this
theorem po_raw {α : Type} {x : D} {y : O α} {P : α → Prop} {E : Value → Prop} (h : Po (match x with | .raw => y | _ => .bad) P E) : x = .raw ∧ Po y P E := by
  cases x with
  | raw => exact ⟨rfl, h⟩
  | _ => exact h.elim
theorem grid_is {W : Addr → Prop} : ∀ {xs : List V} {rows : List D} {Gs : List (List Addr)} {gg : List (List (Option Int))}, P3 (Own c W H (.l .fz)) xs rows Gs → gridO rows = some gg → ∃ rs, xs = rs.map V.ref ∧ Gs.flatten = rs ∧ Paired (fun r row => H r = some (.lst (rowV row))) rs gg
  | _, _, _, _, .nil, e => by cases e; exact ⟨[], rfl, rfl, .nil⟩
  | _, _, _, gg, .cons (ds := ds2) h t, e => by
    obtain ⟨a, ys, ds, Gs', rfl, rfl, ha, h5, eF⟩ := h
    unfold gridO at e
    cases h1 : hOs ds with
    | none => rw [h1] at e; cases e
    | some r =>
      cases h2 : gridO ds2 with
      | none => rw [h1, h2] at e; cases e
      | some rs2 =>
        rw [h1, h2] at e
        cases e
        obtain ⟨rs, e1, e2, e3⟩ := grid_is t h2
        obtain ⟨f1, f2⟩ := h5.ofFz
        obtain ⟨g1, _⟩ := isA_hV f1 h1
        rw [g1] at ha
        exact ⟨a :: rs, by rw [e1]; rfl, by rw [List.flatten_cons, e2, eF, f2]; rfl, .cons ha e3⟩
theorem vss_land {n : Str} {eg er ec : Expr} {fg fr fc : EF} {p1 p2 p3 p4 q1 q2 q3 q4 r1 r2 r3 r4 r5 : Pos} (i : Nat) (lk : LandK X.K c.CL) (hm : M i = .p .land) (hg : VO X c M We (.l (.l .fz)) eg fg) (hr : VE X c M We al er fr) (hc : VE X c M We al' ec fc) (hN : X.N[i]? = some n := by rfl)
    (hv : Vis X.env.scope n := by first | exact Or.inl rfl | exact Or.inr (Or.inl rfl) | exact Or.inr (Or.inr rfl)) (hd : (n == ("__debug__" : Str)) = false := by decide) (hcd : (n == ("__classdict__" : Str)) = false := by decide)
    (s1 : swapsWith eg (some (.Attribute (.Name n p1) "grid" q1)) r1.line X.env = pure false := by rfl) (s2 : swapsWith er (some (.Attribute (.Name n p2) "rows" q2)) r2.line X.env = pure false := by rfl)
    (s3 : swapsWith ec (some (.Attribute (.Name n p3) "columns" q3)) r3.line X.env = pure false := by rfl) (s4 : swapsWith (.Dict [] [] r5) (some (.Attribute (.Name n p4) "open_at" q4)) r4.line X.env = pure false := by rfl) :
    VSs X c We rs Ml M M [.Assign [.Attribute (.Name n p1) "grid" q1] eg r1, .Assign [.Attribute (.Name n p2) "rows" q2] er r2, .Assign [.Attribute (.Name n p3) "columns" q3] ec r3, .Assign [.Attribute (.Name n p4) "open_at" q4] (.Dict [] [] r5) r4] (sLand i fg fr fc) := by
  obtain ⟨tg, pg, sg⟩ := hg.ex
  obtain ⟨tr, pr, sr⟩ := hr.ex
  obtain ⟨tc, pc, sc⟩ := hc.ex
  refine ⟨_, pss_cons (ps_fld (pv i hN hv hd hcd) pg s1) (pss_cons (ps_fld (pv i hN hv hd hcd) pr s2) (pss_cons (ps_fld (pv i hN hv hd hcd) pc s3) (pss_one (ps_fld (pv i hN hv hd hcd) pe_dnewT s4)))), fun B σ H ρ D R po => ?_⟩
  obtain ⟨Fs, R⟩ := R
  refine sg _ σ H ρ _ R.slots ((Po.exc_up R (Po.bind po)).imp (fun gd0 eg' q v H1 F hs1 hn nd ho => ?_) fun _ _ q => q)
  obtain ⟨x, er0, q⟩ := po_var (i := i) (ρ := ρ) q
  obtain ⟨rfl, q⟩ := po_raw q
  obtain ⟨v0, e0, hsat⟩ := R.sl i _ er0
  rw [hm] at hsat
  obtain ⟨qa, rfl, ⟨L, ed, _⟩ | ⟨dx, _, hq, hF⟩⟩ := hsat
  · cases ed
  have hil : i < ρ.length := (List.getElem?_eq_some_iff.mp er0).1
  have hr0 : (ρ.set i none)[i]? = some none := List.getElem?_set_self hil
  have Rn : RelF c M B Fs H1 σ (ρ.set i none) := by
    have e : fset Fs i (Fs i) = Fs := funext fun j => by
      by_cases h : j = i
      · rw [h, fset_self]
      · rw [fset_ne h]
    have := (R.same hs1).put (i := i) (F' := Fs i) (H' := H1) (σ' := σ) (ρ' := ρ.set i none) (fun a o _ ea => ea) (fun a ea => ea) (R.nd i) (fun a ha => .inl ha) ((R.same hs1).th i) (fun _ _ => rfl) (fun j hj => List.getElem?_set_ne (Ne.symm hj)) (by simp [R.len])
      (fun p hp ep => by have := (R.mp p hp).1; rw [ep] at this; exact this) (fun s hs => R.own i s hs) (fun d ed => by rw [hr0] at ed; cases ed)
    rw [e] at this
    exact this
  obtain ⟨g, xs, rows, Gs, rfl, rfl, hgl, h3, eF⟩ := ho
  replace q : Po ((fr (ρ.set i none)).bind fun r => (fc (ρ.set i none)).bind fun cc => match r, cc with
    | .int r, .int cc => (ofO (gridO rows)).bind fun gg => gd (decide (r = (gg.length : Int)) && decide (cc = ((gg.headD []).length : Int))) (.ok (Out.nx (ρ.set i (some (.land ⟨gg, []⟩)))))
    | _, _ => .bad) _ _ := q
  have hq1 := hs1 _ _ hq
  refine ⟨_, e0, qa, c.CL, dx, [], rfl, hq1, lk.cl, lk.nG, by decide, ?_⟩
  have R1 := Rn.bare (H' := H1) (C' := c.CL) (dx' := dx) (fs' := putF "grid" (.ref g) []) (Same.refl H1) hq1 hF hr0 e0 (.inr (.inl hm))
  refine sr _ σ _ (ρ.set i none) _ R1.slots ((Po.exc_up R1 (Po.bind q)).imp (fun rd _ q v2 H2 hs2 hi2 => ?_) fun _ _ q => q)
  have hq2 := hs2 _ _ (upd_same (H := H1) (a := qa))
  refine ⟨_, e0, qa, c.CL, dx, _, rfl, hq2, lk.cl, lk.nR, Nat.lt_of_le_of_lt (length_putF ..) (by decide), ?_⟩
  have R2 := (R1.same hs2).bare (H' := H2) (C' := c.CL) (dx' := dx) (fs' := putF "rows" v2 (putF "grid" (.ref g) [])) (Same.refl H2) hq2 hF hr0 e0 (.inr (.inl hm))
  refine sc _ σ _ (ρ.set i none) _ R2.slots ((Po.exc_up R2 (Po.bind q)).imp (fun cd _ q v3 H3 hs3 hi3 => ?_) fun _ _ q => q)
  have hq3 := hs3 _ _ (upd_same (H := H2) (a := qa))
  refine ⟨_, e0, qa, c.CL, dx, _, rfl, hq3, lk.cl, lk.nC, Nat.lt_of_le_of_lt (length_putF ..) (Nat.lt_of_le_of_lt (Nat.add_le_add_right (length_putF ..) 1) (by decide)), ?_⟩
  have R3 := (R2.same hs3).bare (H' := H3) (C' := c.CL) (dx' := dx) (fs' := putF "columns" v3 (putF "rows" v2 (putF "grid" (.ref g) []))) (Same.refl H3) hq3 hF hr0 e0 (.inr (.inl hm))
  cases rd with
  | int r =>
    cases cd with
    | int cc =>
      replace q : Po ((ofO (gridO rows)).bind fun gg => gd (decide (r = (gg.length : Int)) && decide (cc = ((gg.headD []).length : Int))) (.ok (Out.nx (ρ.set i (some (.land ⟨gg, []⟩)))))) _ _ := q
      obtain ⟨gg, hgg, q⟩ := Po.ofO (Po.bind (r := ofO (gridO rows)) q)
      obtain ⟨hz, q⟩ := Po.gd q
      rw [Bool.and_eq_true, decide_eq_true_eq, decide_eq_true_eq] at hz
      rw [is_int hi2, is_int hi3, hz.1, hz.2]
      rw [is_int hi2, is_int hi3] at R3
      intro od hod
      have odq : od ≠ qa := fun z => by rw [z, upd_same] at hod; cases hod
      have hod3 : H3 od = none := by rw [upd_ne odq] at hod; exact hod
      have hod2 : H2 od = none := by have := hs3.free hod3; rw [upd_ne odq] at this; exact this
      have hod1 : H1 od = none := by have := hs2.free hod2; rw [upd_ne odq] at this; exact this
      refine ⟨_, e0, qa, c.CL, dx, _, rfl, by rw [upd_ne (Ne.symm odq), upd_same], lk.cl, lk.nO, Nat.lt_of_le_of_lt (length_putF ..) (Nat.lt_of_le_of_lt (Nat.add_le_add_right (length_putF ..) 1) (Nat.lt_of_le_of_lt (Nat.add_le_add_right (Nat.add_le_add_right (length_putF ..) 1) 1) (by decide))), q σ _ ?_⟩
      obtain ⟨rs', ex, eG, hp⟩ := grid_is h3 hgg
      have keep1 : ∀ a o, a ≠ qa → H1 a = some o → ∀ f1 f2 f3 f4 : HO, upd (upd (upd H3 qa f3) od f4) qa f1 a = some o := fun a o hne ea f1 f2 f3 f4 => by
        have e1 : H2 a = some o := hs2 _ _ (by rw [upd_ne hne]; exact ea)
        have e2 : H3 a = some o := hs3 _ _ (by rw [upd_ne hne]; exact e1)
        have hao : a ≠ od := fun z => by rw [z, hod1] at ea; cases ea
        rw [upd_ne hne, upd_ne hao, upd_ne hne]
        exact e2
      have hnq : ∀ a ∈ F, a ≠ qa := fun a ha z => by
        have := hn a ha
        rw [z, hq] at this; cases this
      have hFe : F = g :: rs' := by rw [eF, eG]
      have hrs : ∀ x ∈ rs', x ∈ F := fun x hx => by rw [hFe]; exact List.mem_cons_of_mem _ hx
      have hgF : g ∈ F := by rw [hFe]; simp
      have odF : od ∉ F := fun z => by
        rw [hFe] at z
        rcases List.mem_cons.mp z with z | z
        · rw [z, hgl] at hod1; cases hod1
        · have : ∀ {rs : List Addr} {gg : List (List (Option Int))}, Paired (fun r row => H1 r = some (.lst (rowV row))) rs gg → od ∈ rs → False := by
            intro rs gg h
            induction h with
            | nil => intro hm; simp at hm
            | cons p t ih =>
              intro hm
              rcases List.mem_cons.mp hm with e | e
              · rw [← e, hod1] at p; cases p
              · exact ih e
          exact this hp z
      have hod0 : H od = none := hs1.free hod1
      have hown : Own c (fun _ => False) (upd (upd (upd H3 qa (.ins c.CL dx (putF "columns" (V.int ((gg.headD []).length : Int)) (putF "rows" (V.int (gg.length : Int)) (putF "grid" (.ref g) []))))) od (.dT [])) qa (.ins c.CL dx (landF ⟨gg, []⟩ g od))) .land (.ref qa) (.land ⟨gg, []⟩) (qa :: g :: od :: rs') := by
        refine ⟨qa, rfl, .inl ⟨_, rfl, dx, g, od, rs', upd_same, ?_, ?_, ?_, rfl⟩⟩
        · rw [keep1 g _ (hnq g hgF) hgl _ (.lst []) _ _, ex]
        · rw [upd_ne odq, upd_same]; rfl
        · have : ∀ {rs : List Addr} {gg : List (List (Option Int))}, Paired (fun r row => H1 r = some (.lst (rowV row))) rs gg → (∀ x ∈ rs, x ≠ qa) → ∀ {H4 : Hp}, (∀ a o, a ≠ qa → H1 a = some o → H4 a = some o) → Paired (fun r row => H4 r = some (.lst (rowV row))) rs gg := by
            intro rs gg h
            induction h with
            | nil => exact fun _ _ _ => .nil
            | cons p t ih => exact fun hk H4 hh => .cons (hh _ _ (hk _ (by simp)) p) (ih (fun x hx => hk x (by simp [hx])) hh)
          exact this hp (fun x hx => hnq x (hrs x hx)) fun a o h1 h2 => keep1 a o h1 h2 _ (.lst []) _ _
      refine ⟨_, R.put (i := i) (F' := qa :: g :: od :: rs') (fun a o ha ea => ?_) (fun a ea => ?_) ?_ (fun a ha => ?_) (fun a ha => ?_) (fun _ _ => rfl) (fun j hj => List.getElem?_set_ne (Ne.symm hj)) (by simp [R.len]) (fun p hp ep => by have := (R.mp p hp).1; rw [ep] at this; exact this) (fun s hs => R.own i s hs) fun d2 e2 => ?_⟩
      · exact keep1 a o (fun z => ha (by rw [hF, z]; simp)) (hs1 _ _ ea) _ (.lst []) _ _
      · by_cases h : a = qa
        · rw [h, upd_same] at ea; cases ea
        · cases e1 : H a with
          | none => rfl
          | some o =>
            rw [keep1 a o h (hs1 _ _ e1) _ (.lst []) _ _] at ea; cases ea
      · rw [hFe] at nd hnq odF
        have nd1 := List.nodup_cons.mp nd
        refine List.nodup_cons.mpr ⟨fun z => ?_, List.nodup_cons.mpr ⟨fun z => ?_, List.nodup_cons.mpr ⟨fun z => odF (List.mem_cons_of_mem _ z), nd1.2⟩⟩⟩
        · rcases List.mem_cons.mp z with z | z
          · exact hnq g (by simp) z.symm
          · rcases List.mem_cons.mp z with z | z
            · exact odq z.symm
            · exact hnq qa (List.mem_cons_of_mem _ z) rfl
        · rcases List.mem_cons.mp z with z | z
          · exact odF (by rw [z]; simp)
          · exact nd1.1 z
      · rcases List.mem_cons.mp ha with z | z
        · exact .inl (by rw [hF, z]; simp)
        · rcases List.mem_cons.mp z with z | z
          · exact .inr (by rw [z]; exact hn g hgF)
          · rcases List.mem_cons.mp z with z | z
            · exact .inr (by rw [z]; exact hod0)
            · exact .inr (hn a (hrs a z))
      · exact hown.there a ha
      · rw [List.getElem?_set_self hil] at e2
        cases e2
        refine ⟨_, e0, ?_⟩
        rw [hm]
        exact hown
    | _ => exact q.elim
  | _ => cases cd <;> exact q.elim
end
end VS
set_option Elab.async false
set_option linter.all false
set_option maxRecDepth 100000
set_option maxHeartbeats 2000000
/-! VT: calls of methods, instances made. -/
namespace VS
open PySem PySem.Spec PyProof.Rows L2

section
variable {X : Cx} {CX : CXT} {k : Nat} {f C : Addr} {fd : FuncData} {ps : List Str} {sp : Sp} {E : L2.St → XK} {m x : Str} {pos apos p : Pos} {e o : Expr} {es : List Expr} {ta : TE} {t : TA}
/-- o.m(..), its way out told with the slots -/
def tMe (C : Addr) (m : Str) (sp : Sp) (E : L2.St → XK) (ta : TE) (t : TA) : TE := fun σ H Q => ta σ H fun v H1 => ∃ a dx fs, v = .ref a ∧ H1 a = some (.ins C dx fs) ∧ fs.lookup m = none ∧ t σ H1 fun vs H2 => sp (v :: vs) H2 Q (E σ)
theorem pe_me {pl : Sem Bool} (he : PE X o ta) (c : Cls X.K C) (hm : Meth X.K C m f) (F : FnOk X.prog X.w X.K X.mg X.base CX k f fd ps sp) (hr : Room k X.A) (hb : Binds X.K fd ps []) (hx : ∀ σ, PassesAt CX X σ (E σ)) (ha : PA X (e :: es) t)
    (hst : starEach (e :: es) X.env = (false, eval e X.env) :: starEach es X.env := by rfl) (hpl : (backTo pos (starEach es X.env)).any (·.1) = false := by rfl)
    (ht : eval (.Call (.Attribute o m apos) (e :: es) [] pos) X.env = (do
      let ov ← eval o X.env
      standAt apos.atName
      let (f, first) ← holding [ov] (getMethod ov m pl)
      callWith pos f first (backTo pos (starEach (e :: es) X.env)) (backToKw pos (keywordEach [] X.env))) := by rfl) :
    PE X (.Call (.Attribute o m apos) (e :: es) [] pos) (tMe C m sp E ta t) := by
  refine ⟨fun pins s σ H Q I h => ?_⟩
  refine PySem.W.methodCall_KW (pl := pl) (thn (he.run pins s σ H _ I h) fun u s1 ⟨v, H1, I1, rx, a, dx, fs, ex, ea, l, q⟩ => ?_) ht
  subst ex
  obtain rfl : u = Value.ref a := rx
  refine getmeth_ok I1 ea c hm l ?_
  refine PySem.W.callWith_K (first := [.ref a]) (h₀ := X.base) I.ok.mod.kin hm.kp (thn (ha.run pos pins s1 σ H1 _ I1 q) fun us s2 ⟨vs, H2, I2, r, q2⟩ => ⟨I2.kIn, ?_⟩) hst hpl
  exact run_fnS (us := .ref a :: us) (vs := .ref a :: vs) F hr hb (hx σ) I2 (.cons rfl r) q2
theorem pe_me0 {pl : Sem Bool} (he : PE X o ta) (c : Cls X.K C) (hm : Meth X.K C m f) (F : FnOk X.prog X.w X.K X.mg X.base CX k f fd ps sp) (hr : Room k X.A) (hb : Binds X.K fd ps []) (hx : ∀ σ, PassesAt CX X σ (E σ))
    (ht : eval (.Call (.Attribute o m apos) [] [] pos) X.env = (do
      let ov ← eval o X.env
      standAt apos.atName
      let (f, first) ← holding [ov] (getMethod ov m pl)
      callWith pos f first (backTo pos (starEach [] X.env)) (backToKw pos (keywordEach [] X.env))) := by rfl) :
    PE X (.Call (.Attribute o m apos) [] [] pos) (tMe C m sp E ta tNil) := by
  refine ⟨fun pins s σ H Q I h => ?_⟩
  refine PySem.W.methodCall_KW (pl := pl) (thn (he.run pins s σ H _ I h) fun u s1 ⟨v, H1, I1, rx, a, dx, fs, ex, ea, l, q⟩ => ?_) ht
  subst ex
  obtain rfl : u = Value.ref a := rx
  refine getmeth_ok I1 ea c hm l ?_
  exact PySem.W.callWith_K0 (first := [.ref a]) I1.kIn hm.kp (run_fnS (us := [.ref a]) (vs := [.ref a]) F hr hb (hx σ) I1 (.cons rfl .nil) q)
/-- C(..), its way out told with the slots -/
def tMk (C : Addr) (sp : Sp) (E : L2.St → XK) (t : TA) : TE := fun σ H Q => t σ H fun vs H1 => ∀ a dx, H1 a = none → H1 dx = none → dx ≠ a → sp (.ref a :: vs) (upd (upd H1 dx (.own a)) a (.ins C dx [])) (fun v H2 => v = .non ∧ Q (.ref a) H2) fun cls d H2 => E σ cls d H2
theorem run_mk {pins : List (Addr × Obj)} {σ : L2.St} {H : Hp} {s : Shared} {Q : VK} {us : List Value} {vs : List V} (M : Mk X.K C f) (F : FnOk X.prog X.w X.K X.mg X.base CX k f fd ps sp) (hr : Room (k + 1) X.A) (hb : Binds X.K fd ps []) (hx : PassesAt CX X σ (E σ)) (I : Inv X pins σ H s) (r : Vals vs us)
    (h : ∀ a dx, H a = none → H dx = none → dx ≠ a → sp (.ref a :: vs) (upd (upd H dx (.own a)) a (.ins C dx [])) (fun v H2 => v = .non ∧ Q (.ref a) H2) fun cls d H2 => E σ cls d H2) : wpAny (model X.prog X.w) X.A (call (.ref C) us) (EP X pins σ Q) X.xe s := by
  have hq := h (s.heap.objs.size + 1) s.heap.objs.size (I.hok.fresh (Nat.le_succ _)) (I.hok.fresh (Nat.le_refl _)) (Nat.ne_of_lt (Nat.lt_succ_self _))
  have I2 := Inv.made (C := C) I
  have r2 : Vals (V.ref (s.heap.objs.size + 1) :: vs) (Value.ref (s.heap.objs.size + 1) :: us) := .cons rfl r
  have hl : (Value.ref (s.heap.objs.size + 1) :: us).length = ps.length := by
    have e := r2.length
    rw [F.len _ _ _ _ hq] at e
    exact e.symm
  have b := hb _ (Value.ref (s.heap.objs.size + 1) :: us) I2.kIn (by rw [List.append_nil]; exact hl)
  rw [List.append_nil] at b
  refine wpAny_call (make_map (f := f) I.kIn M.makes M.init (beq_iff_eq.mp M.fn) (codeAny_mono (F.run _ X.stack _ _ ⟨Value.ref (s.heap.objs.size + 1) :: us, []⟩ (Value.ref (s.heap.objs.size + 1) :: us) _ _ (E σ) (hr.make C us [])
    (I2.env0.make C us []) b r2 hq) fun r s' hq' => ?_))
  cases r with
  | error e => exact hx pins _ _ e s' I2 hq'
  | ok fl =>
    cases fl with
    | ret u =>
      obtain ⟨v, H', I3, rv, ev, q3⟩ := I2.after hq'
      subst ev
      exact ⟨rv, ⟨V.ref (s.heap.objs.size + 1), H', I3, rfl, q3⟩⟩
    | next => exact False.elim hq'
    | brk => exact False.elim hq'
    | cont => exact False.elim hq'
theorem pe_mk (M : Mk X.K C f) (F : FnOk X.prog X.w X.K X.mg X.base CX k f fd ps sp) (hr : Room (k + 1) X.A) (hg : Gl X x) (hm : X.mg x = some (.ref C)) (hb : Binds X.K fd ps []) (hx : ∀ σ, PassesAt CX X σ (E σ))
    (ha : PA X (e :: es) t) (hdb : (x == ("__debug__" : Str)) = false := by decide) (he : starEach (e :: es) X.env = (false, eval e X.env) :: starEach es X.env := by rfl) (hpl : (backTo pos (starEach es X.env)).any (·.1) = false := by rfl) :
    PE X (.Call (.Name x p) (e :: es) [] pos) (tMk C sp E t) := by
  refine ⟨fun pins s σ H Q I h => ?_⟩
  refine wpAny_Call_Name_kw (ld_glob I hg hm ?_ hdb)
  refine PySem.W.callWith_K (h₀ := X.base) I.ok.mod.kin M.kp (thn (ha.run pos pins s σ H _ I h) fun us s1 ⟨vs, H1, I1, r, q⟩ => ⟨I1.kIn, ?_⟩) he hpl
  exact run_mk M F hr hb (hx σ) I1 r q
theorem pe_mk0 (M : Mk X.K C f) (F : FnOk X.prog X.w X.K X.mg X.base CX k f fd ps sp) (hr : Room (k + 1) X.A) (hg : Gl X x) (hm : X.mg x = some (.ref C)) (hb : Binds X.K fd ps []) (hx : ∀ σ, PassesAt CX X σ (E σ))
    (hdb : (x == ("__debug__" : Str)) = false := by decide) : PE X (.Call (.Name x p) [] [] pos) (tMk C sp E tNil) := by
  refine ⟨fun pins s σ H Q I h => ?_⟩
  refine wpAny_Call_Name_kw (ld_glob I hg hm ?_ hdb)
  exact PySem.W.callWith_K0 I.kIn M.kp (run_mk (us := []) M F hr hb (hx σ) I .nil h)
end

/-- a method that keeps a promise -/
structure Dm (P : Program) (w : World) (K : PySem.W.Frag) (mg : Str → Option Value) (base : Heap) (k : Nat) (C : Addr) (m : Str) (sp : Sp) : Prop where
  ex : ∃ f fd ps, FnOk P w K mg base (L2N.CX P w) k f fd ps sp ∧ Binds K fd ps [] ∧ Meth K C m f
/-- __init__ -/
structure Di (P : Program) (w : World) (K : PySem.W.Frag) (mg : Str → Option Value) (base : Heap) (k : Nat) (x : Str) (C : Addr) (sp : Sp) : Prop where
  ex : ∃ f fd ps, FnOk P w K mg base (L2N.CX P w) k f fd ps sp ∧ Binds K fd ps [] ∧ Mk K C f ∧ mg x = some (.ref C)
/-- the two classes -/
inductive Kd where
  | land
  | pile
def Kd.cl (c : Ct) : Kd → Addr
  | .land => c.CL
  | .pile => c.CP
def Kd.sh : Kd → Sh
  | .land => .land
  | .pile => .pile
def Kd.is : Kd → D → Bool
  | .land, .land _ => true
  | .pile, .pile _ => true
  | _, _ => false
def Kd.no : Kd → Str → Bool
  | .land, m => (([("grid", V.non), ("rows", V.non), ("columns", V.non), ("open_at", V.non)] : List (Str × V)).lookup m).isNone
  | .pile, m => (([("row", V.non)] : List (Str × V)).lookup m).isNone
def eMe (kd : Kd) (fo : EF) (fs : AF) (F : List D → O D) : EF := fun ρ => (fo ρ).bind fun x => gd (kd.is x) ((fs ρ).bind fun ds => F (x :: ds))
def xMe (kd : Kd) (j : Nat) (js : List (Option (Nat × Sh))) (fs : AF) (F : List D → O Rz) : XF := fun ρ => (eOwn kd.sh j ρ).bind fun x => gd (kd.is x) ((fs ρ).bind fun ds => (F (x :: ds)).bind fun r => match r with
  | .rt d ps => gd d.imm (.ok (.v d (putM ps (some (j, kd.sh) :: js) 0 ρ)))
  | .ex k ps => .ok (.ex k (putM ps (some (j, kd.sh) :: js) 0 ρ)))
def eMk (fs : AF) (F : List D → O Rz) : EF := fun ρ => (fs ρ).bind fun ds => (F (.raw :: ds)).bind fun r => match r with
  | .rt .non (x :: _) => .ok x
  | .ex k _ => .exc k
  | _ => .bad
section
variable {c : Ct} {M M' M1 Ml : Nat → Mo} {B : Bs} {H H' : Hp} {σ : L2.St} {ρ : Rho} {X : Cx} {We : WX} {k k' al al' al'' i j : Nat} {rs : Sh} {a b e o : Expr} {es : List Expr} {f fo : EF} {fs : AF} {pos apos p : Pos} {W W' : Addr → Prop} {kd : Kd} {m x : Str} {md : Sh → Mo} {js : List (Option (Nat × Sh))}
theorem lk_no {fs fs' : List (Str × V)} {m : Str} (h : fs.map (·.1) = fs'.map (·.1)) : (fs.lookup m).isNone = (fs'.lookup m).isNone := by
  induction fs generalizing fs' with
  | nil => cases fs' with
    | nil => rfl
    | cons _ _ => simp at h
  | cons p fs ih =>
    cases fs' with
    | nil => simp at h
    | cons p' fs' =>
      simp only [List.map_cons, List.cons.injEq] at h
      obtain ⟨k, v⟩ := p
      obtain ⟨k', v'⟩ := p'
      obtain ⟨rfl, h2⟩ := h
      simp only [List.lookup_cons]
      split
      · rfl
      · exact ih h2
theorem meth_is {v : V} {d : D} (h : Is c W H v d) (hk : kd.is d = true) (hn : kd.no m = true) : ∃ a dx fs, v = .ref a ∧ H a = some (.ins (kd.cl c) dx fs) ∧ fs.lookup m = none := by
  cases kd with
  | land =>
    cases d with
    | land L =>
      obtain ⟨a, F, rfl, ⟨dx, g, od, rs, h1, h2, h3, h4, rfl⟩, _⟩ := is_land h
      refine ⟨a, dx, _, rfl, h1, ?_⟩
      have := lk_no (m := m) (fs := landF L g od) (fs' := [("grid", V.non), ("rows", V.non), ("columns", V.non), ("open_at", V.non)]) rfl
      exact Option.isNone_iff_eq_none.mp (this.trans hn)
    | _ => cases hk
  | pile =>
    cases d with
    | pile l =>
      cases h with
      | pile h1 h2 h3 h4 h5 =>
        refine ⟨_, _, _, rfl, h3, ?_⟩
        rename_i r xs
        have := lk_no (m := m) (fs := [("row", V.ref r)]) (fs' := [("row", V.non)]) rfl
        exact Option.isNone_iff_eq_none.mp (this.trans hn)
    | _ => cases hk
/-- o.m(..), nothing changes -/
theorem vo_me {F : List D → O D} {pl : Sem Bool} (z : Cz X c We k) (cl : Cls X.K (kd.cl c)) (dm : Dm X.prog X.w X.K X.mg X.base k' (kd.cl c) m (spP c rs F)) (hk : k' ≤ k) (hno : kd.no m = true) (ho : VE X c M We al o fo) (t : VA X c M We 2 (e :: es) fs)
    (hst : starEach (e :: es) X.env = (false, eval e X.env) :: starEach es X.env := by rfl) (hpl : (backTo pos (starEach es X.env)).any (·.1) = false := by rfl)
    (ht : eval (.Call (.Attribute o m apos) (e :: es) [] pos) X.env = (do
      let ov ← eval o X.env
      standAt apos.atName
      let (f, first) ← holding [ov] (getMethod ov m pl)
      callWith pos f first (backTo pos (starEach (e :: es) X.env)) (backToKw pos (keywordEach [] X.env))) := by rfl) :
    VO X c M We rs (.Call (.Attribute o m apos) (e :: es) [] pos) (eMe kd fo fs F) := by
  obtain ⟨g, fd, ps, G, hb, hm⟩ := dm.ex
  obtain ⟨to, po', so⟩ := ho.ex
  obtain ⟨ta, pa, sa⟩ := t.ex
  refine ⟨_, pe_me po' cl hm (G.mono hk) z.hr hb (fun σ => L2N.passAt z.tk σ) pa hst hpl ht, fun w σ H ρ Q sl po => so w σ H ρ _ sl ((Po.bind po).imp (fun d _ q v H1 hs hi => ?_) fun _ _ q => q)⟩
  obtain ⟨hd, q⟩ := Po.gd q
  obtain ⟨a, dx, fl, rfl, h1, h2⟩ := meth_is hi hd hno
  refine ⟨a, dx, fl, rfl, h1, h2, sa w σ H1 ρ _ (sl.same hs) ((Po.bind q).imp (fun ds _ q vs H2 hs2 hi2 => ?_) fun _ _ q H2 hs2 => q H2 (hs.trans hs2))⟩
  refine ⟨d :: ds, .cons ((hi.same hs2).up fun _ _ => trivial) (hi2.up fun _ _ => trivial), q.imp (fun d _ q v H' Fp hs3 hn nd ho => q v H' Fp ((hs.trans hs2).trans hs3) (fun a ha => (hs.trans hs2).free (hn a ha)) nd (ho.mono (fun a x => ⟨.inr ((hs.trans hs2).free x.1), x.2⟩) fun a o _ e => e)) fun kx _ q H' hs3 => q H' ((hs.trans hs2).trans hs3)⟩
theorem vo_me0 {F : List D → O D} {pl : Sem Bool} (z : Cz X c We k) (cl : Cls X.K (kd.cl c)) (dm : Dm X.prog X.w X.K X.mg X.base k' (kd.cl c) m (spP c rs F)) (hk : k' ≤ k) (hno : kd.no m = true) (ho : VE X c M We al o fo)
    (ht : eval (.Call (.Attribute o m apos) [] [] pos) X.env = (do
      let ov ← eval o X.env
      standAt apos.atName
      let (f, first) ← holding [ov] (getMethod ov m pl)
      callWith pos f first (backTo pos (starEach [] X.env)) (backToKw pos (keywordEach [] X.env))) := by rfl) :
    VO X c M We rs (.Call (.Attribute o m apos) [] [] pos) (eMe kd fo aNil F) := by
  obtain ⟨g, fd, ps, G, hb, hm⟩ := dm.ex
  obtain ⟨to, po', so⟩ := ho.ex
  refine ⟨_, pe_me0 po' cl hm (G.mono hk) z.hr hb (fun σ => L2N.passAt z.tk σ) ht, fun w σ H ρ Q sl po => so w σ H ρ _ sl ((Po.bind po).imp (fun d _ q v H1 hs hi => ?_) fun _ _ q => q)⟩
  obtain ⟨hd, q⟩ := Po.gd q
  obtain ⟨a, dx, fl, rfl, h1, h2⟩ := meth_is hi hd hno
  refine ⟨a, dx, fl, rfl, h1, h2, [d], .cons (hi.up fun _ _ => trivial) .nil, Po.imp (r := F [d]) q (fun d _ q v H' Fp hs3 hn nd ho => q v H' Fp (hs.trans hs3) (fun a ha => hs.free (hn a ha)) nd (ho.mono (fun a x => ⟨.inr (hs.free x.1), x.2⟩) fun a o _ e => e)) fun kx _ q H' hs3 => q H' (hs.trans hs3)⟩
/-- x.m(..), what x owns changes -/
theorem vx_me {F : List D → O Rz} {pl : Sem Bool} {n : Str} {p2 : Pos} (j : Nat) (z : Cz X c We k) (cl : Cls X.K (kd.cl c)) (dm : Dm X.prog X.w X.K X.mg X.base k' (kd.cl c) m (spM c (shs (some (j, kd.sh) :: js)) .fz F)) (hk : k' ≤ k) (hne : noExc F) (hmd : md = Mo.o ∨ md = Mo.p) (hno : kd.no m = true) (hm : M j = md kd.sh)
    (t : VAM X c md M We js (e :: es) fs) (inj : ((some (j, kd.sh) :: js).filterMap fun m => m.map (·.1)).Nodup := by decide) (hN : X.N[j]? = some n := by rfl) (hv : Vis X.env.scope n := by first | exact Or.inl rfl | exact Or.inr (Or.inl rfl) | exact Or.inr (Or.inr rfl)) (hdb : (n == ("__debug__" : Str)) = false := by decide)
    (hcd : (n == ("__classdict__" : Str)) = false := by decide) (hst : starEach (e :: es) X.env = (false, eval e X.env) :: starEach es X.env := by rfl) (hpl : (backTo pos (starEach es X.env)).any (·.1) = false := by rfl)
    (ht : eval (.Call (.Attribute (.Name n p2) m apos) (e :: es) [] pos) X.env = (do
      let ov ← eval (.Name n p2) X.env
      standAt apos.atName
      let (f, first) ← holding [ov] (getMethod ov m pl)
      callWith pos f first (backTo pos (starEach (e :: es) X.env)) (backToKw pos (keywordEach [] X.env))) := by rfl) :
    VX X c M We (.Call (.Attribute (.Name n p2) m apos) (e :: es) [] pos) (xMe kd j js fs F) := by
  obtain ⟨g, fd, ps, G, hb, hmm⟩ := dm.ex
  obtain ⟨ta, pa, sa⟩ := t.ex
  refine ⟨_, pe_me (pv j hN hv hdb hcd) cl hmm (G.mono hk) z.hr hb (fun σ => L2N.passAt z.tk σ) pa hst hpl ht, fun B σ H ρ Q R po => ?_⟩
  obtain ⟨Fs, R⟩ := R
  obtain ⟨d, er, po⟩ := po_var (i := j) (ρ := ρ) (f := fun d => gd (immIn kd.sh d) (.ok d)) (Po.bind (r := eOwn kd.sh j ρ) po)
  obtain ⟨hi, po⟩ := Po.gd po
  obtain ⟨hd, po⟩ := Po.gd po
  obtain ⟨v, e1, hsl⟩ := R.slots.2 j d er
  obtain ⟨a, dx, fl, rfl, h1, h2⟩ := meth_is hsl hd hno
  refine ⟨_, e1, a, dx, fl, rfl, h1, h2, sa B Fs σ H ρ _ R ((Po.exc_x R (Po.bind (r := fs ρ) po)).imp (fun ds _ q vs H1 hs ha => ?_) fun _ _ q => q)⟩
  exact spM_call (H0 := H) (R.same hs) hmd inj (.own e1 er hm hi ha) q (hne _)
theorem vx_me0 {F : List D → O Rz} {pl : Sem Bool} {n : Str} {p2 : Pos} (j : Nat) (z : Cz X c We k) (cl : Cls X.K (kd.cl c)) (dm : Dm X.prog X.w X.K X.mg X.base k' (kd.cl c) m (spM c [some kd.sh] .fz F)) (hk : k' ≤ k) (hne : noExc F) (hmd : md = Mo.o ∨ md = Mo.p) (hno : kd.no m = true) (hm : M j = md kd.sh)
    (hN : X.N[j]? = some n := by rfl) (hv : Vis X.env.scope n := by first | exact Or.inl rfl | exact Or.inr (Or.inl rfl) | exact Or.inr (Or.inr rfl)) (hdb : (n == ("__debug__" : Str)) = false := by decide)
    (hcd : (n == ("__classdict__" : Str)) = false := by decide)
    (ht : eval (.Call (.Attribute (.Name n p2) m apos) [] [] pos) X.env = (do
      let ov ← eval (.Name n p2) X.env
      standAt apos.atName
      let (f, first) ← holding [ov] (getMethod ov m pl)
      callWith pos f first (backTo pos (starEach [] X.env)) (backToKw pos (keywordEach [] X.env))) := by rfl) :
    VX X c M We (.Call (.Attribute (.Name n p2) m apos) [] [] pos) (xMe kd j [] aNil F) := by
  obtain ⟨g, fd, ps, G, hb, hmm⟩ := dm.ex
  refine ⟨_, pe_me0 (pv j hN hv hdb hcd) cl hmm (G.mono hk) z.hr hb (fun σ => L2N.passAt z.tk σ) ht, fun B σ H ρ Q R po => ?_⟩
  obtain ⟨Fs, R⟩ := R
  obtain ⟨d, er, po⟩ := po_var (i := j) (ρ := ρ) (f := fun d => gd (immIn kd.sh d) (.ok d)) (Po.bind (r := eOwn kd.sh j ρ) po)
  obtain ⟨hi, po⟩ := Po.gd po
  obtain ⟨hd, po⟩ := Po.gd po
  obtain ⟨v, e1, hsl⟩ := R.slots.2 j d er
  obtain ⟨a, dx, fl, rfl, h1, h2⟩ := meth_is hsl hd hno
  refine ⟨_, e1, a, dx, fl, rfl, h1, h2, ?_⟩
  exact spM_call (js := [some (j, kd.sh)]) (H0 := H) R hmd (by simp) (.own e1 er hm hi .nil) po (hne _)

/-! ### C(..) -/
def one (F : List Addr) : Nat → List Addr := fun i => if i = 0 then F else []
theorem mk_arg {H1 : Hp} {a dx : Addr} {vs : List V} {ds : List D} (ha : H1 a = none) (hdx : H1 dx = none) (hne : dx ≠ a) (hi : IsA c W H1 vs ds) (kd : Kd) :
    Same H1 (upd (upd H1 dx (.own a)) a (.ins (kd.cl c) dx [])) ∧ ArgM c (upd (upd H1 dx (.own a)) a (.ins (kd.cl c) dx [])) (some kd.sh :: ds.map fun _ => none) (.ref a :: vs) (.raw :: ds) (one [a]) := by
  have hs : Same H1 (upd (upd H1 dx (.own a)) a (.ins (kd.cl c) dx [])) := fun b o e => by
    rw [upd_ne (ne_of_none e ha), upd_ne (ne_of_none e hdx)]
    exact e
  refine ⟨hs, by simp [hi.length], by simp, fun i => ?_, fun i j b hb hb' => ?_, fun i e => ?_, fun i d e => ?_⟩
  · unfold one; split <;> simp
  · unfold one at hb hb'
    split at hb
    · split at hb'
      · omega
      · simp at hb'
    · simp at hb
  · unfold one
    split
    · rename_i hz
      subst hz
      simp [ownAt] at e
    · rfl
  · cases i with
    | zero =>
      simp at e
      subst e
      refine ⟨.ref a, rfl, ?_⟩
      show Own c _ _ kd.sh (.ref a) .raw [a]
      cases kd with
      | land => exact ⟨a, rfl, .inr ⟨dx, rfl, upd_same, rfl⟩⟩
      | pile => exact ⟨a, rfl, .inr ⟨dx, rfl, upd_same, rfl⟩⟩
    | succ i =>
      have e' : ds[i]? = some d := by simpa using e
      obtain ⟨v, ev, hv⟩ := hi.getD e'
      refine ⟨v, by simpa using ev, ?_⟩
      have hno : ownAt (some kd.sh :: ds.map fun _ => (none : Option Sh)) (i + 1) = none := by
        unfold ownAt
        rw [List.getElem?_cons_succ, List.getElem?_map, e']
        rfl
      rw [hno]
      refine (hv.track.same hs).up fun b x l => ?_
      unfold one
      split
      · intro z
        have : b = a := by simpa using z
        rw [this] at x
        exact x.2 ha
      · simp
theorem mk_after {F : List D → O Rz} {H1 : Hp} {a dx : Addr} {vs : List V} {ds : List D} {w : Wd} {Q : VK} {E : XK} (hs0 : Same H H1) (ha : H1 a = none) (hdx : H1 dx = none) (hne : dx ≠ a) (hi : IsA c W H1 vs ds) (hnx : noExc F)
    (po : Po ((F (.raw :: ds)).bind fun r => match r with
      | .rt .non (x :: _) => .ok x
      | .ex k _ => .exc k
      | _ => .bad) (fun d => ∀ v H' F, Same H H' → (∀ a ∈ F, H a = none) → F.Nodup → Own c (fun a => NW w 0 H a ∧ a ∉ F) H' kd.sh v d F → Q v H') (fun k => ∀ H', Same H H' → E k none H')) :
    spM c (some kd.sh :: ds.map fun _ => none) .fz F (.ref a :: vs) (upd (upd H1 dx (.own a)) a (.ins (kd.cl c) dx [])) (fun v H2 => v = .non ∧ Q (.ref a) H2) E := by
  obtain ⟨hs, hA⟩ := mk_arg ha hdx hne hi kd
  refine ⟨_, _, hA, (Po.bind po).imp (fun r _ q => ?_) fun k ek _ => hnx _ k ek⟩
  have fr : ∀ {H2 : Hp} {ds' : List D} {Fs' : Nat → List Addr}, AfterM c (upd (upd H1 dx (.own a)) a (.ins (kd.cl c) dx [])) H2 (some kd.sh :: ds.map fun _ => none) (.ref a :: vs) ds' (one [a]) Fs' → Same H H2 := fun A b o e => by
    have e1 := hs0 _ _ e
    refine A.fr b o (fun i z => ?_) (hs _ _ e1)
    unfold one at z
    split at z
    · have : b = a := by simpa using z
      rw [this, ha] at e1; cases e1
    · simp at z
  cases r with
  | ex k ps => exact fun H2 Fs' A => q H2 (fr A)
  | rt d ps =>
    cases d with
    | non =>
      cases ps with
      | nil => exact q.elim
      | cons x ps =>
        intro v H2 Fs' Fp A n1 n2 n3
        obtain ⟨v', d', e1, e2, e3⟩ := A.at_ 0 kd.sh rfl
        simp at e1 e2
        subst e1 e2
        refine ⟨is_non n3.2, q (.ref a) H2 (Fs' 0) (fr A) (fun b hb => ?_) (A.nd 0) (e3.mono (fun _ z => z.elim) fun _ _ _ e => e)⟩
        rcases A.new 0 b hb with ⟨i, hm⟩ | e
        · unfold one at hm
          split at hm
          · have : b = a := by simpa using hm
            rw [this]; exact hs0.free ha
          · simp at hm
        · exact hs0.free (hs.free e)
    | _ => exact q.elim
theorem vo_mk {F : List D → O Rz} (z : Cz X c We k) (di : Di X.prog X.w X.K X.mg X.base k' x (kd.cl c) (spM c (some kd.sh :: (e :: es).map fun _ => none) .fz F)) (hk : k' + 1 ≤ k) (hnx : noExc F) (t : VA X c M We 2 (e :: es) fs) (hg : Gl X x := by rfl) (hdb : (x == ("__debug__" : Str)) = false := by decide)
    (hlen : ∀ ρ ds, fs ρ = .ok ds → ds.length = (e :: es).length)
    (he : starEach (e :: es) X.env = (false, eval e X.env) :: starEach es X.env := by rfl) (hpl : (backTo pos (starEach es X.env)).any (·.1) = false := by rfl) : VO X c M We kd.sh (.Call (.Name x p) (e :: es) [] pos) (eMk fs F) := by
  obtain ⟨f, fd, ps, G, hb, mk, hm⟩ := di.ex
  obtain ⟨ta, pa, sa⟩ := t.ex
  refine ⟨_, pe_mk mk G (z.hr.mono hk) hg hm hb (fun σ => L2N.passAt z.tk σ) pa hdb he hpl, fun w σ H ρ Q sl po => sa w σ H ρ _ sl ((Po.bind po).imp (fun ds ed q vs H1 hs hi => ?_) fun _ _ q => q)⟩
  intro a dx ha hdx hne
  have hl : (ds.map fun _ => (none : Option Sh)) = (e :: es).map fun _ => none := by
    rw [List.map_const', List.map_const', hlen ρ ds ed]
  rw [← hl]
  exact mk_after hs ha hdx hne hi hnx q
theorem vo_mk0 {F : List D → O Rz} (z : Cz X c We k) (di : Di X.prog X.w X.K X.mg X.base k' x (kd.cl c) (spM c [some kd.sh] .fz F)) (hk : k' + 1 ≤ k) (hnx : noExc F) (hg : Gl X x := by rfl) (hdb : (x == ("__debug__" : Str)) = false := by decide) : VO X c M We kd.sh (.Call (.Name x p) [] [] pos) (eMk aNil F) := by
  obtain ⟨f, fd, ps, G, hb, mk, hm⟩ := di.ex
  refine ⟨_, pe_mk0 mk G (z.hr.mono hk) hg hm hb (fun σ => L2N.passAt z.tk σ) hdb, fun w σ H ρ Q sl po => ?_⟩
  intro a dx ha hdx hne
  exact mk_after (W := fun _ => True) (vs := []) (ds := []) (Same.refl H) ha hdx hne .nil hnx po
/-- self.row = [] -/
theorem vs_pile0 {n : Str} {p1 q1 r1 r2 : Pos} (i : Nat) (pk : PileK X.K c.CP) (hm : M i = .p .pile) (hN : X.N[i]? = some n := by rfl) (hv : Vis X.env.scope n := by first | exact Or.inl rfl | exact Or.inr (Or.inl rfl) | exact Or.inr (Or.inr rfl))
    (hd : (n == ("__debug__" : Str)) = false := by decide) (hcd : (n == ("__classdict__" : Str)) = false := by decide) (s1 : swapsWith (.List [] r2) (some (.Attribute (.Name n p1) "row" q1)) r1.line X.env = pure false := by rfl) :
    VSt X c We rs Ml M M (.Assign [.Attribute (.Name n p1) "row" q1] (.List [] r2) r1) (sPile0 i) := by
  refine ⟨_, ps_fld (pv i hN hv hd hcd) (pe_lst pa_nil) s1, fun B σ H ρ D R po => ?_⟩
  obtain ⟨Fs, R⟩ := R
  obtain ⟨x, er0, q⟩ := po_var (i := i) (ρ := ρ) po
  obtain ⟨rfl, q⟩ := po_raw q
  obtain ⟨v0, e0, hsat⟩ := R.sl i _ er0
  rw [hm] at hsat
  obtain ⟨qa, rfl, ⟨_, _, _, _, ed, _⟩ | ⟨dx, _, hq, hF⟩⟩ := hsat
  · cases ed
  have hil : i < ρ.length := (List.getElem?_eq_some_iff.mp er0).1
  refine ⟨Nat.zero_le _, fun r hr => ?_⟩
  have rq : r ≠ qa := fun z => by rw [z, hq] at hr; cases hr
  refine ⟨_, e0, qa, c.CP, dx, [], rfl, by rw [upd_ne (Ne.symm rq)]; exact hq, pk.cl, pk.nW, by decide, q σ _ ?_⟩
  have hown : Own c (fun _ => False) (upd (upd H r (.lst [])) qa (.ins c.CP dx (putF "row" (.ref r) []))) .pile (.ref qa) (.pile []) [qa, r] :=
    ⟨qa, rfl, .inl ⟨dx, r, [], [], rfl, upd_same, by rw [upd_ne rq, upd_same], .nil, rfl⟩⟩
  refine ⟨_, R.put (i := i) (F' := [qa, r]) (fun a o ha ea => ?_) (fun a ea => ?_) (by simp [Ne.symm rq]) (fun a ha => ?_) (fun a ha => hown.there a ha) (fun _ _ => rfl) (fun j hj => List.getElem?_set_ne (Ne.symm hj)) (by simp [R.len]) (fun p hp ep => by have := (R.mp p hp).1; rw [ep] at this; exact this) (fun s hs => R.own i s hs) fun d2 e2 => ?_⟩
  · rw [upd_ne (fun z => ha (by rw [hF, z]; simp)), upd_ne (ne_of_none ea hr)]; exact ea
  · by_cases h : a = qa
    · rw [h, upd_same] at ea; cases ea
    · rw [upd_ne h] at ea
      by_cases h2 : a = r
      · rw [h2]; exact hr
      · rw [upd_ne h2] at ea; exact ea
  · have : a = qa ∨ a = r := by simpa using ha
    rcases this with e | e
    · exact .inl (by rw [hF, e]; simp)
    · exact .inr (by rw [e]; exact hr)
  · rw [List.getElem?_set_self hil] at e2
    cases e2
    refine ⟨_, e0, ?_⟩
    rw [hm]
    exact hown
end
end VS
set_option Elab.async false
set_option linter.all false
set_option maxRecDepth 100000
set_option maxHeartbeats 2000000
/-! VU: further rules; the classes' facts. -/
namespace VS
open PySem L2

/-- x.append(e), e an own thing -/
def sAppO (i : Nat) (f : EF) : SF := fun ρ => (eVar i ρ).bind fun x => (lstD x).bind fun l => (f ρ).bind fun d => gd (decide (l.length < 100000)) (.ok (.nx (ρ.set i (some (.lst (l ++ [d]))))))
def max2D : D → D → O D
  | .int i, .int j => .ok (.int (if j > i then j else i))
  | _, _ => .bad
def min2D : D → D → O D
  | .int i, .int j => .ok (.int (if j < i then j else i))
  | _, _ => .bad
def absD : D → O D
  | .int i => .ok (.int (if i < 0 then -i else i))
  | _ => .bad
section
variable {c : Ct} {M M' M1 Ml : Nat → Mo} {B : Bs} {H H' : Hp} {σ : L2.St} {ρ : Rho} {X : Cx} {We : WX} {k k' al al' al'' i j : Nat} {rs : Sh} {a b e o : Expr} {es : List Expr} {f fa fb fo : EF} {fs : AF} {pos apos p : Pos} {W W' : Addr → Prop}
theorem vs_appO {x : Str} {s : Sh} {p2 apos cpos : Pos} (i : Nat) (h : VO X c M We s e f) (hm : M i = .o (.l s)) (hN : X.N[i]? = some x := by rfl) (hv : Vis X.env.scope x := by first | exact Or.inl rfl | exact Or.inr (Or.inl rfl) | exact Or.inr (Or.inr rfl)) (hd : (x == ("__debug__" : Str)) = false := by decide)
    (hcd : (x == ("__classdict__" : Str)) = false := by decide) (hbase : attributeBase (.Name x p2) "append" X.env (eval (.Name x p2) X.env) = eval (.Name x p2) X.env := by rfl)
    (hfew : ((backTo cpos (starEach (e :: []) X.env)).all (fun x => !x.1) && (backToKw cpos (keywordEach [] X.env)).all (fun x => x.1.isSome) && decide ((e :: []).length + ([] : List Keyword).length + (if ([] : List Keyword).isEmpty then 0 else 1) < 30)) = true := by rfl)
    (hline : (apos.endLine == cpos.line) = true := by rfl) (he : starEach (e :: []) X.env = (false, eval e X.env) :: starEach [] X.env := by rfl) (hpl : (backTo cpos (starEach [] X.env)).any (·.1) = false := by rfl)
    (hs : swapsWith (.Call (.Attribute (.Name x p2) "append" apos) [e] [] cpos) none pos.line X.env = pure false := by rfl) :
    VSt X c We rs Ml M M (.Expr (.Call (.Attribute (.Name x p2) "append" apos) [e] [] cpos) pos) (sAppO i f) := by
  obtain ⟨te, p, so⟩ := h.ex
  refine ⟨_, ps_expr (pe_bm PySem.F.plainAttrs_list PySem.F.slot_list_append PySem.F.type_list_append mt_append (pv i hN hv hd hcd) (pa_cons p pa_nil he) hbase hfew hline he hpl) hs, fun B σ H ρ D R po => ?_⟩
  obtain ⟨Fs, R⟩ := R
  obtain ⟨ds, er, po⟩ := po_lst po
  obtain ⟨p0, xs, Gs, h1, hp, h3, eF, keep, put⟩ := R.lst hm er
  refine ⟨_, h1, .inl ⟨rfl, xs, .of hp⟩, so _ σ H ρ _ R.slots ((Po.exc_up R (Po.bind po)).imp (fun d _ q v H' F hs hn nd ho => ?_) fun _ _ q => q)⟩
  obtain ⟨hz, q⟩ := Po.gd q
  have fl : (Gs ++ [F]).flatten = Gs.flatten ++ F := by simp
  have pF : p0 ∉ F := fun z => by have := hn p0 z; rw [hp] at this; cases this
  have gF : ∀ a ∈ Gs.flatten, a ∉ F := fun a ha z => by
    obtain ⟨o, e', _⟩ := R.th i a (by rw [eF]; exact List.mem_cons_of_mem _ ha)
    rw [hn a z] at e'; cases e'
  refine ⟨p0, xs, v, rfl, rfl, hs _ _ hp, Nat.lt_of_lt_of_le (by rw [h3.length.1]; exact of_decide_eq_true hz) (by decide : 100000 ≤ sizeLine), q σ _ ⟨_, put H' (xs ++ [v]) (ds ++ [d]) (Gs ++ [F]) hs ?_ ?_ ?_⟩⟩
  · have sub : ∀ a, (wd B Fs).n a → a ∉ F → (wd B (fset Fs i (p0 :: (Gs ++ [F]).flatten))).n a := fun a x y => ⟨fun l z => by
      by_cases hl : l = i
      · rw [hl, fset_self, fl] at z
        rcases List.mem_cons.mp z with z | z
        · exact x.1 i (by rw [eF, z]; simp)
        · rcases List.mem_append.mp z with z | z
          · exact x.1 i (by rw [eF]; exact List.mem_cons_of_mem _ z)
          · exact y z
      · rw [fset_ne hl] at z; exact x.1 l z, x.2⟩
    refine (h3.imp fun v d G hG ho => keep H' _ _ v d G hs hG (fun a x hne => sub a x fun z => hne (hn a z)) ho).append (.cons ?_ .nil)
    refine ho.mono (fun a x => ?_) fun a o x ea => ?_
    · refine sub a ?_ x.2
      rcases x.1 with y | y
      · exact y
      · exact ⟨R.newNot y, R.old a y⟩
    · have hap : a ≠ p0 := by
        intro z
        subst z
        rcases x with x | x | x
        · rcases x.1 with y | y
          · exact y.1 i (by rw [eF]; simp)
          · rw [hp] at y; cases y
        · exact pF x
        · rw [hs _ _ hp] at ea; cases ea; exact x
      rw [upd_ne hap]; exact ea
  · rw [fl]
    have nd1 := R.nd i
    rw [eF] at nd1
    have nd2 := List.nodup_cons.mp nd1
    refine List.nodup_cons.mpr ⟨fun z => ?_, List.nodup_append.mpr ⟨nd2.2, nd, fun a ha b hb e => gF a ha (by rw [e]; exact hb)⟩⟩
    rcases List.mem_append.mp z with z | z
    · exact nd2.1 z
    · exact pF z
  · intro a ha
    rw [fl] at ha
    rcases List.mem_append.mp ha with z | z
    · exact .inl z
    · exact .inr (hn a z)
theorem vo_lst0 {s : Sh} : VO X c M We (.l s) (.List [] pos) (eLst aNil) := by
  refine ⟨_, pe_lst pa_nil, fun w σ H ρ Q sl po => ?_⟩
  refine ⟨Nat.zero_le _, fun p hp => ?_⟩
  have hn : ∀ a ∈ [p], H a = none := fun a ha => by
    have e : a = p := by simpa using ha
    rw [e]; exact hp
  exact po _ _ [p] (same_new (Same.refl _) hp) hn (by simp) ⟨p, [], [], [], rfl, rfl, upd_same, .nil, rfl⟩
theorem ve_max2 {p : Pos} (z : Cz X c We k) (ha : VE X c M We al a fa) (hb : VE X c M We al' b fb) (hg : Gl X "max") (hm : X.mg "max" = none) (hs : starEach [a, b] X.env = (false, eval a X.env) :: starEach [b] X.env := by rfl) (hs1 : starEach [b] X.env = (false, eval b X.env) :: starEach [] X.env := by rfl)
    (hpl : (backTo pos (starEach [b] X.env)).any (·.1) = false := by rfl) : VE X c M We 0 (.Call (.Name "max" p) [a, b] [] pos) (e2 max2D fa fb) := by
  obtain ⟨ta, pa, sa⟩ := ha.ex
  obtain ⟨tb, pb, sb⟩ := hb.ex
  refine ⟨_, pe_callB (call_max2 z.calm) hg hm (by decide +kernel) (pa_cons pa (pa_cons pb pa_nil hs1) hs) (by decide) (by decide) hs hpl, fun w σ H ρ Q sl po => sa w σ H ρ _ sl ((Po.bind po).imp (fun d _ q v H1 hs hi => ?_) fun _ _ q => q)⟩
  refine sb w σ H1 ρ _ (sl.same hs) ((Po.bind q).imp (fun d2 _ q v2 H2 hs2 hi2 => ?_) fun _ _ q H2 hs2 => q H2 (hs.trans hs2))
  cases d with
  | int i =>
    cases d2 with
    | int j => exact ⟨i, j, by rw [is_int hi, is_int hi2], q _ H2 (hs.trans hs2) (.int _)⟩
    | _ => exact q.elim
  | _ => cases d2 <;> exact q.elim
theorem ve_min2 {p : Pos} (z : Cz X c We k) (ha : VE X c M We al a fa) (hb : VE X c M We al' b fb) (hg : Gl X "min") (hm : X.mg "min" = none) (hs : starEach [a, b] X.env = (false, eval a X.env) :: starEach [b] X.env := by rfl) (hs1 : starEach [b] X.env = (false, eval b X.env) :: starEach [] X.env := by rfl)
    (hpl : (backTo pos (starEach [b] X.env)).any (·.1) = false := by rfl) : VE X c M We 0 (.Call (.Name "min" p) [a, b] [] pos) (e2 min2D fa fb) := by
  obtain ⟨ta, pa, sa⟩ := ha.ex
  obtain ⟨tb, pb, sb⟩ := hb.ex
  refine ⟨_, pe_callB (call_min2 z.calm) hg hm (by decide +kernel) (pa_cons pa (pa_cons pb pa_nil hs1) hs) (by decide) (by decide) hs hpl, fun w σ H ρ Q sl po => sa w σ H ρ _ sl ((Po.bind po).imp (fun d _ q v H1 hs hi => ?_) fun _ _ q => q)⟩
  refine sb w σ H1 ρ _ (sl.same hs) ((Po.bind q).imp (fun d2 _ q v2 H2 hs2 hi2 => ?_) fun _ _ q H2 hs2 => q H2 (hs.trans hs2))
  cases d with
  | int i =>
    cases d2 with
    | int j => exact ⟨i, j, by rw [is_int hi, is_int hi2], q _ H2 (hs.trans hs2) (.int _)⟩
    | _ => exact q.elim
  | _ => cases d2 <;> exact q.elim
/-- f(..).clear(): a list that nobody else has -/
theorem vs_freshClear {s : Sh} {cpos : Pos} (h : VO X c M We (.l s) e f) (hbase : attributeBase e "clear" X.env (eval e X.env) = eval e X.env := by rfl) (hline : (apos.endLine == cpos.line) = true := by rfl)
    (hs : swapsWith (.Call (.Attribute e "clear" apos) [] [] cpos) none pos.line X.env = pure false := by rfl) : VSt X c We rs Ml M M (.Expr (.Call (.Attribute e "clear" apos) [] [] cpos) pos) (sDrop f) := by
  obtain ⟨te, p, so⟩ := h.ex
  refine ⟨_, ps_expr (pe_bm0 PySem.F.plainAttrs_list PySem.F.slot_list_clear PySem.F.type_list_clear mt_clear p hbase hline) hs, fun B σ H ρ D R po => ?_⟩
  obtain ⟨Fs, R⟩ := R
  refine so _ σ H ρ _ R.slots ((Po.exc_up R (Po.bind po)).imp (fun d _ q v H' F hs hn nd ho => ?_) fun _ _ q => q)
  obtain ⟨a, xs, ds, Gs, rfl, rfl, ha, _, eF⟩ := ho
  have hna : H a = none := hn a (by rw [eF]; simp)
  refine ⟨.inl ⟨rfl, xs, .of ha⟩, a, xs, rfl, rfl, ha, q σ _ ⟨Fs, R.same fun b o eb => ?_⟩⟩
  rw [upd_ne (ne_of_none eb hna)]
  exact hs b o eb
def sFreshApp (f g : EF) : SF := fun ρ => (f ρ).bind fun x => (lstD x).bind fun l => (g ρ).bind fun _ => gd (decide (l.length < 100000)) (.ok (.nx ρ))
theorem vs_freshApp {s : Sh} {cpos : Pos} (h : VO X c M We (.l s) e f) (hv : VE X c M We al a fa) (hbase : attributeBase e "append" X.env (eval e X.env) = eval e X.env := by rfl)
    (hfew : ((backTo cpos (starEach (a :: []) X.env)).all (fun x => !x.1) && (backToKw cpos (keywordEach [] X.env)).all (fun x => x.1.isSome) && decide ((a :: []).length + ([] : List Keyword).length + (if ([] : List Keyword).isEmpty then 0 else 1) < 30)) = true := by rfl)
    (hline : (apos.endLine == cpos.line) = true := by rfl) (he : starEach (a :: []) X.env = (false, eval a X.env) :: starEach [] X.env := by rfl) (hpl : (backTo cpos (starEach [] X.env)).any (·.1) = false := by rfl)
    (hs : swapsWith (.Call (.Attribute e "append" apos) [a] [] cpos) none pos.line X.env = pure false := by rfl) : VSt X c We rs Ml M M (.Expr (.Call (.Attribute e "append" apos) [a] [] cpos) pos) (sFreshApp f fa) := by
  obtain ⟨te, p, so⟩ := h.ex
  obtain ⟨ta, pa, sa⟩ := hv.ex
  refine ⟨_, ps_expr (pe_bm PySem.F.plainAttrs_list PySem.F.slot_list_append PySem.F.type_list_append mt_append p (pa_cons pa pa_nil he) hbase hfew hline he hpl) hs, fun B σ H ρ D R po => ?_⟩
  obtain ⟨Fs, R⟩ := R
  refine so _ σ H ρ _ R.slots ((Po.exc_up R (Po.bind po)).imp (fun d _ q v H' F hs hn nd ho => ?_) fun _ _ q => q)
  obtain ⟨q0, xs, ds, Gs, rfl, rfl, ha, h3, eF⟩ := ho
  have hna : H q0 = none := hn q0 (by rw [eF]; simp)
  have R1 := R.same hs
  replace q : Po ((fa ρ).bind fun _ => gd (decide (ds.length < 100000)) (.ok (Out.nx ρ))) _ _ := q
  refine ⟨.inl ⟨rfl, xs, .of ha⟩, sa _ σ H' ρ _ R1.slots ((Po.exc_up R1 (Po.bind q)).imp (fun d2 _ q v2 H2 hs2 hi2 => ?_) fun _ _ q => q)⟩
  obtain ⟨hz, q⟩ := Po.gd q
  refine ⟨q0, xs, v2, rfl, rfl, hs2 _ _ ha, Nat.lt_of_lt_of_le (by rw [h3.length.1]; exact of_decide_eq_true hz) (by decide : 100000 ≤ sizeLine), q σ _ ⟨Fs, R.same fun b o eb => ?_⟩⟩
  rw [upd_ne (ne_of_none eb hna)]
  exact hs2 b o (hs b o eb)
theorem aLen1 {f : EF} {ρ : Rho} {ds : List D} (h : aCons f aNil ρ = .ok ds) : ds.length = 1 := by
  unfold aCons aNil at h
  cases h1 : f ρ with
  | bad => rw [h1] at h; cases h
  | exc k => rw [h1] at h; cases h
  | ok d => rw [h1] at h; cases h; rfl
end

/-! ### the facts of the classes -/
class Exs where
  LandError : Addr
  NoLand : Addr
  NoHeight : Addr
  NoCell : Addr
  NoDrain : Addr
  NoWay : Addr
  NoRain : Addr
theorem landK_mk {K : PySem.W.Frag} {C : Addr} (pg : PySem.W.plainGet K C Str.empty = true) (hd : PySem.W.hasDictIn K C = true) (po : PySem.W.plainOver K C = true) (sa : PySem.W.findIn K (.ref C) "__setattr__" = some (some (.builtin "object.__setattr__")))
    (g : PySem.W.findIn K (.ref C) "grid" = some none) (r : PySem.W.findIn K (.ref C) "rows" = some none) (c : PySem.W.findIn K (.ref C) "columns" = some none) (o : PySem.W.findIn K (.ref C) "open_at" = some none) : LandK K C := ⟨⟨pg, hd, po, sa⟩, g, r, c, o⟩
theorem pileK_mk {K : PySem.W.Frag} {C : Addr} (pg : PySem.W.plainGet K C Str.empty = true) (hd : PySem.W.hasDictIn K C = true) (po : PySem.W.plainOver K C = true) (sa : PySem.W.findIn K (.ref C) "__setattr__" = some (some (.builtin "object.__setattr__")))
    (w : PySem.W.findIn K (.ref C) "row" = some none) : PileK K C := ⟨⟨pg, hd, po, sa⟩, w⟩
structure FactM (K : PySem.W.Frag) (C : Addr) (m qual : Str) (st : Stmt) (ps : List Str) : Prop where
  ex : ∃ f fd, Fun K m qual st f fd ∧ Meth K C m f ∧ Binds K fd ps []
structure FactI (K : PySem.W.Frag) (mg : Str → Option Value) (x : Str) (C : Addr) (qual : Str) (st : Stmt) (ps : List Str) : Prop where
  ex : ∃ f fd, Fun K "__init__" qual st f fd ∧ Mk K C f ∧ mg x = some (.ref C) ∧ Binds K fd ps []
theorem factM_mk {K : PySem.W.Frag} {C f : Addr} {m qual : Str} {st : Stmt} {ps : List Str} {oc : Value} {od an : Option Addr} {osl : Array (Option Value)} {kV doc pm cdv ct : Value} (hb : ∀ {fd : FuncData}, Fun K m qual st f fd → Binds K fd ps [])
    (a : PySem.W.findIn K (.ref C) m = some (some (.ref f))) (i : PySem.W.isFn K (.ref f) = true) (l : K.lookup f = some ⟨oc, od, .func (PySem.W.fnOf m qual (defArgs st) (defBody st) (defScope st) .none kV doc pm an cdv ct), osl⟩)
    (c : PySem.W.codeIn K cdv qual = true) (kp : PySem.W.keepIn K (.ref f) = true) : FactM K C m qual st ps := ⟨f, _, fun_mk l c kp, ⟨a, i, kp⟩, hb (fun_mk l c kp)⟩
theorem factI_mk {K : PySem.W.Frag} {mg : Str → Option Value} {x : Str} {C f : Addr} {qual : Str} {st : Stmt} {ps : List Str} {oc : Value} {od an : Option Addr} {osl : Array (Option Value)} {kV doc pm cdv ct : Value} (hb : ∀ {fd : FuncData}, Fun K "__init__" qual st f fd → Binds K fd ps [])
    (hm : mg x = some (.ref C)) (mk : PySem.W.makesIn K C = true) (a : PySem.W.findIn K (.ref C) "__init__" = some (some (.ref f))) (i : PySem.W.isFn K (.ref f) = true) (kC : PySem.W.keepIn K (.ref C) = true)
    (l : K.lookup f = some ⟨oc, od, .func (PySem.W.fnOf "__init__" qual (defArgs st) (defBody st) (defScope st) .none kV doc pm an cdv ct), osl⟩) (c : PySem.W.codeIn K cdv qual = true) (kp : PySem.W.keepIn K (.ref f) = true) : FactI K mg x C qual st ps :=
  ⟨f, _, fun_mk l c kp, ⟨mk, a, i, kC⟩, hm, hb (fun_mk l c kp)⟩
end VS
set_option Elab.async false
set_option linter.all false
set_option maxRecDepth 100000
set_option maxHeartbeats 2000000
/-! VY: the order of data. -/
namespace VS
open PySem L2

def rLtA (K : PySem.W.Frag) : R2 := fun x y H Q => ∃ d e, Dp K H x d ∧ Dp K H y e ∧ PySem.W.alike d e = true ∧ d ≠ .none ∧ d.depth ≤ 60 ∧ Q (.bl (PySem.W.dataLt d e)) H
theorem op_ltA {X : Cx} (hu : X.A.units + 64 < cLine) : OpR X (compareOp .Lt) (rLtA X.K) := by
  intro pins s σ H x y v u Q I rx ry h
  obtain ⟨d, e, hd, he, ha, hn, hdp, q⟩ := h
  obtain ⟨as, r1⟩ := Dp.reads I d x v hd rx
  obtain ⟨bs, r2⟩ := Dp.reads I e y u he ry
  have m : min d.depth e.depth ≤ d.depth := Nat.min_le_left _ _
  have R := PySem.W.rcLt_alike d e X.A s v u as bs r1 r2 ha hn (by omega)
  have z : wpAny (model X.prog X.w) X.A (compareOp .Lt v u) (EP X pins σ Q) X.xe s := R X.prog X.w X.xe (EP X pins σ Q) ⟨.bl _, H, I, rfl, q⟩
  exact z
/-- x < y, of alike data -/
def ltA (x y : D) : O D := gd (PySem.W.alike (toPy x) (toPy y) && (toPy x).canLay0 && (toPy y).canLay0 && decide ((toPy x).depth ≤ 60) && (match x with
  | .non => false
  | .dct _ => false
  | .fd _ => false
  | _ => true)) (.ok (.bl (PySem.W.dataLt (toPy x) (toPy y))))
theorem rs_ltA {c : Ct} : RS c (rLtA c.K) ltA := by
  intro W W' x y dx dy H Q E hx hy po
  obtain ⟨hl, po⟩ := Po.gd po
  rw [Bool.and_eq_true, Bool.and_eq_true, Bool.and_eq_true, Bool.and_eq_true, decide_eq_true_eq] at hl
  obtain ⟨⟨⟨⟨h1, h2⟩, h3⟩, h4⟩, h5⟩ := hl
  refine ⟨_, _, hx.dp h2, hy.dp h3, h1, ?_, h4, po _ H (Same.refl H) fun _ => .bl _⟩
  intro e
  cases dx <;> simp at e h5
section
variable {X : Cx} {c : Ct} {M : Nat → Mo} {We : WX} {al al' k : Nat} {a b : Expr} {fa fb : EF} {pos : Pos}
theorem ve_ltA (z : Cz X c We k) (ha : VE X c M We al a fa) (hb : VE X c M We al' b fb) : VE X c M We 0 (.Compare a [.Lt] [b] pos) (e2 ltA fa fb) := ve_cmp (op_ltA z.hr.units) (by rw [z.K]; exact rs_ltA) ha hb (nomark _)
theorem vt_ltA (z : Cz X c We k) (ha : VE X c M We al a fa) (hb : VE X c M We al' b fb) : VT X c M We (.Compare a [.Lt] [b] pos) (tE (e2 ltA fa fb)) := vt_cmp (op_ltA z.hr.units) (by rw [z.K]; exact rs_ltA) ha hb (nomark _)
end

/-! ### a[lo:hi] of a list -/
def cutD (l : List D) (lo hi : Option Int) : List D := (l.drop (HT.sIx l.length 0 lo)).take (HT.sIx l.length l.length hi - HT.sIx l.length 0 lo)
def pNo : Rho → O (Option Int) := fun _ => .ok none
def pSo (f : EF) : Rho → O (Option Int) := fun ρ => (f ρ).bind fun d => match d with
  | .int i => .ok (some i)
  | _ => .bad
def eSl (fa : EF) (pl ph : Rho → O (Option Int)) : EF := fun ρ => (fa ρ).bind fun d => (lstD d).bind fun l => (pl ρ).bind fun lo => (ph ρ).bind fun hi => gd (immA l) (.ok (.lst (cutD l lo hi)))
structure VPo (X : Cx) (c : Ct) (M : Nat → Mo) (We : WX) (e : Option Expr) (f : Rho → O (Option Int)) : Prop where
  ex : ∃ t, PO X e t ∧ ∀ (w : Wd) (σ : L2.St) (H : Hp) (ρ : Rho) (Q : Option Int → Hp → Prop), Sl c M w H σ ρ → Po (f ρ) (fun o => ∀ H', Same H H' → Q o H') (fun k => ∀ H', Same H H' → We k none σ H') → t σ H Q
section
variable {X : Cx} {c : Ct} {M : Nat → Mo} {We : WX} {al al' k : Nat} {a b e : Expr} {f fa fb : EF} {pos p2 : Pos} {lo hi : Option Expr} {pl ph : Rho → O (Option Int)}
theorem vpo_no : VPo X c M We none pNo := ⟨_, po_none, fun w σ H ρ Q sl po => po H (Same.refl H)⟩
theorem vpo_so (h : VE X c M We al e f) : VPo X c M We (some e) (pSo f) := by
  obtain ⟨te, p, s⟩ := h.ex
  refine ⟨_, po_some p, fun w σ H ρ Q sl po => s w σ H ρ _ sl ((Po.bind po).imp (fun d _ q v H1 hs hi => ?_) fun _ _ q => q)⟩
  cases d with
  | int i => exact ⟨i, is_int hi, q H1 hs⟩
  | _ => exact q.elim
theorem vo_slice (z : Cz X c We k) (ha : VE X c M We al a fa) (hl : VPo X c M We lo pl) (hh : VPo X c M We hi ph) : VO X c M We (.l .fz) (.Subscript a (.Slice lo hi none p2) pos) (eSl fa pl ph) := by
  obtain ⟨ta, pa, sa⟩ := ha.ex
  obtain ⟨tl, pl', sl'⟩ := hl.ex
  obtain ⟨th, ph', sh⟩ := hh.ex
  refine ⟨_, pe_slice sl_list pa pl' ph', fun w σ H ρ Q sl po => sa w σ H ρ _ sl ((Po.bind po).imp (fun d _ q v H1 hs1 hi1 => ?_) fun _ _ q => q)⟩
  cases d with
  | lst l =>
    replace q : Po ((pl ρ).bind fun lo => (ph ρ).bind fun hi => gd (immA l) (.ok (D.lst (cutD l lo hi)))) _ _ := q
    refine sl' w σ H1 ρ _ (sl.same hs1) ((Po.bind q).imp (fun o1 _ q H2 hs2 => ?_) fun _ _ q H' hs => q H' (hs1.trans hs))
    refine sh w σ H2 ρ _ ((sl.same hs1).same hs2) ((Po.bind q).imp (fun o2 _ q H3 hs3 => ?_) fun _ _ q H' hs => q H' ((hs1.trans hs2).trans hs))
    obtain ⟨hd, q⟩ := Po.gd q
    have hs13 := hs2.trans hs3
    obtain ⟨p, xs, rfl, h1, h2⟩ := is_lst (hi1.same hs13)
    refine ⟨p, xs, rfl, by rw [z.K]; exact h1, fun q' hq' => ?_⟩
    have hcut : IsA c (NW w al H) H3 (cutV xs o1 o2) (cutD l o1 o2) := by
      unfold cutV cutD
      rw [h2.length]
      exact (h2.drop _).take _
    have hdc : immA (cutD l o1 o2) = true := by
      have : ∀ (l : List D), immA l = l.all D.imm := fun l => by induction l with
        | nil => simp
        | cons d l ih => rw [immA_cons, ih, List.all_cons]
      rw [this] at hd ⊢
      rw [List.all_eq_true] at hd ⊢
      intro x hx
      unfold cutD at hx
      exact hd x (List.mem_of_mem_drop (List.mem_of_mem_take hx))
    obtain ⟨o1', o2', o3', o4'⟩ := own_new (w := w) (hs1.trans hs13) hq' hcut hdc
    exact q _ _ [q'] o1' o2' o3' o4'
  | _ => exact q.elim
end

/-! ### tuple(x) -/
def tupD : D → O D
  | .lst l => .ok (.tup l)
  | .tup l => .ok (.tup l)
  | _ => .bad
section
variable {X : Cx} {c : Ct} {M : Nat → Mo} {We : WX} {al k : Nat} {e : Expr} {f : EF} {pos : Pos}
theorem ve_tupc {p : Pos} (z : Cz X c We k) (h : VE X c M We al e f) (hg : Gl X "tuple") (hm : X.mg "tuple" = none) (hs : starEach [e] X.env = (false, eval e X.env) :: starEach [] X.env := by rfl) (hpl : (backTo pos (starEach [] X.env)).any (·.1) = false := by rfl) :
    VE X c M We al (.Call (.Name "tuple" p) [e] [] pos) (e1 tupD f) := by
  obtain ⟨te, pe, s⟩ := h.ex
  refine ⟨_, pe_callTy call_tuple_of hg hm (by decide +kernel) (pa_cons pe pa_nil hs) (by decide) (by decide) hs hpl, fun w σ H ρ Q sl po => s w σ H ρ _ sl ((Po.bind po).imp (fun d _ q v H1 hs1 hi => ?_) fun _ _ q => q)⟩
  cases d with
  | lst l =>
    obtain ⟨a, xs, rfl, h1, h2⟩ := is_lst hi
    refine ⟨a, xs, rfl, .inl ⟨by rw [z.K]; exact h1, fun p hp => ?_⟩⟩
    exact q _ _ (same_new hs1 hp) (.tup upd_same (h2.same (same_new (Same.refl _) hp)))
  | tup l =>
    obtain ⟨a, xs, rfl, h1, h2⟩ := is_tup hi
    exact ⟨a, xs, rfl, .inr ⟨.of h1, q _ H1 hs1 (.tup h1 h2)⟩⟩
  | _ => exact q.elim
end

/-! ### min of a list -/
theorem minD_mem (x : PyData) (xs : List PyData) : PySem.W.minD x xs ∈ x :: xs := by
  unfold PySem.W.minD
  induction xs generalizing x with
  | nil => simp
  | cons y ys ih =>
    rw [List.foldl_cons]
    rcases List.mem_cons.mp (ih (if PySem.W.dataLt y x then y else x)) with h | h
    · rw [h]
      split <;> simp
    · exact List.mem_cons_of_mem _ (List.mem_cons_of_mem _ h)
def rMinA (K : PySem.W.Frag) : List V → Hp → VK → Prop := fun vs H Q => ∃ (a : Addr) (xs : List V) (d : PyData) (ds : List PyData), vs = [.ref a] ∧ SqL K H a xs ∧ DpAll K H xs (d :: ds) ∧ PySem.W.AlikeAll (d :: ds) ∧ PyData.depthAll (d :: ds) ≤ 60 ∧
  ∀ (i : Nat) (v : V), xs[i]? = some v → (d :: ds)[i]? = some (PySem.W.minD d ds) → Q v H
theorem call_minA {X : Cx} (hc : X.calm = true) (hu : X.A.units + 64 < cLine) : CallR X (.builtin "min") (rMinA X.K) := by
  intro pins s σ H vs us Q I r h
  obtain ⟨a, xs, d, ds, rfl, hs, hdp, hal, hdep, q⟩ := h
  obtain ⟨its, rv, hl, hz⟩ := I.list hs
  obtain ⟨u, rfl, ru⟩ := vals1 r
  obtain rfl : u = Value.ref a := ru
  obtain ⟨as, hr⟩ := Dp.readsAll I (d :: ds) xs its hdp rv
  refine PySem.W.min_list_data (I.ok.hd hc) hl.isList (by simpa using hr) hal (by omega) fun i v h' tk bs hv hrd hk => ?_
  have hv' : its[i]? = some v := by simpa using hv
  obtain ⟨x, hx, rx⟩ : ∃ x, xs[i]? = some x ∧ RelV x v := by
    have : ∀ {xs : List V} {us : List Value} {i : Nat} {u : Value}, Vals xs us → us[i]? = some u → ∃ x, xs[i]? = some x ∧ RelV x u := by
      intro xs us i u h
      induction h generalizing i with
      | nil => intro e; simp at e
      | cons r t ih =>
        intro e
        cases i with
        | zero => simp at e; subst e; exact ⟨_, rfl, r⟩
        | succ i =>
          obtain ⟨x, h1, h2⟩ := ih (by simpa using e)
          exact ⟨x, by simpa using h1, h2⟩
    exact this rv hv'
  obtain ⟨cs, hrd2, hlt, hmem, _⟩ := PySem.W.readsAll_at hr i v hv'
  have e : (d :: ds).getD i .none = PySem.W.minD d ds := PySem.W.alike_unique _ _ _ _ _ (hal.1 _ hmem _ (minD_mem d ds)) (PySem.W.reads_keeps hk hrd2) hrd
  refine ⟨x, H, I.kept (t' := tk) hk, rx, q i x hx ?_⟩
  rw [← e, List.getD_eq_getElem?_getD, List.getElem?_eq_getElem hlt]
  rfl
mutual
theorem toPy_inj : ∀ {a b : D}, a.imm = true → b.imm = true → toPy a = toPy b → a = b
  | .non, b, _, hb, e => by cases b <;> simp at hb e ⊢
  | .bl x, b, _, hb, e => by cases b <;> simp at hb e ⊢; exact e
  | .int x, b, _, hb, e => by cases b <;> simp at hb e ⊢; exact e
  | .str x, b, _, hb, e => by cases b <;> simp at hb e ⊢; exact e
  | .tup l, b, ha, hb, e => by
    cases b with
    | tup l' =>
      rw [imm_tup] at ha hb
      rw [toPy_tup, toPy_tup] at e
      rw [toPyA_inj ha hb (PyData.tuple.inj e)]
    | _ => simp at hb e
  | .lst _, _, ha, _, _ => by simp at ha
  | .dct _, _, ha, _, _ => by simp at ha
  | .fd _, _, ha, _, _ => by simp at ha
  | .land _, _, ha, _, _ => by simp at ha
  | .pile _, _, ha, _, _ => by simp at ha
  | .raw, _, ha, _, _ => by simp at ha
theorem toPyA_inj : ∀ {a b : List D}, immA a = true → immA b = true → toPyA a = toPyA b → a = b
  | [], [], _, _, _ => rfl
  | [], _ :: _, _, _, e => by simp [toPyA] at e
  | _ :: _, [], _, _, e => by simp [toPyA] at e
  | x :: xs, y :: ys, ha, hb, e => by
    rw [immA_cons, Bool.and_eq_true] at ha hb
    simp only [toPyA, List.cons.injEq] at e
    rw [toPy_inj ha.1 hb.1 e.1, toPyA_inj ha.2 hb.2 e.2]
end
def minDD (d : D) (ds : List D) : D := ds.foldl (fun a y => if PySem.W.dataLt (toPy y) (toPy a) then y else a) d
theorem minDD_py (d : D) (ds : List D) : toPy (minDD d ds) = PySem.W.minD (toPy d) (toPyA ds) := by
  unfold minDD PySem.W.minD
  induction ds generalizing d with
  | nil => rfl
  | cons y ys ih =>
    rw [List.foldl_cons, ih]
    simp only [toPyA, List.foldl_cons]
    congr 1
    split <;> rfl
theorem minDD_mem (d : D) (ds : List D) : minDD d ds ∈ d :: ds := by
  unfold minDD
  induction ds generalizing d with
  | nil => simp
  | cons y ys ih =>
    rw [List.foldl_cons]
    rcases List.mem_cons.mp (ih (if PySem.W.dataLt (toPy y) (toPy d) then y else d)) with h | h
    · rw [h]
      split <;> simp
    · exact List.mem_cons_of_mem _ (List.mem_cons_of_mem _ h)
/-- every two can be compared, none is None -/
def alikeD (l : List D) : Bool := l.all fun x => l.all (fun y => PySem.W.alike (toPy x) (toPy y)) && (match x with
  | .non => false
  | .dct _ => false
  | .fd _ => false
  | _ => true)
def minLD : D → O D
  | .lst (d :: ds) => gd (immA (d :: ds) && alikeD (d :: ds) && PyData.canLayAll0 (toPyA (d :: ds)) && decide (PyData.depthAll (toPyA (d :: ds)) ≤ 60)) (.ok (minDD d ds))
  | _ => .bad
theorem alikeD_all {l : List D} (h : alikeD l = true) : PySem.W.AlikeAll (toPyA l) := by
  rw [toPyA_map]
  unfold alikeD at h
  rw [List.all_eq_true] at h
  refine ⟨fun x hx y hy => ?_, fun x hx e => ?_⟩
  · obtain ⟨a, ha, rfl⟩ := List.mem_map.mp hx
    obtain ⟨b, hb, rfl⟩ := List.mem_map.mp hy
    have := h a ha
    rw [Bool.and_eq_true, List.all_eq_true] at this
    exact this.1 b hb
  · obtain ⟨a, ha, rfl⟩ := List.mem_map.mp hx
    have := h a ha
    rw [Bool.and_eq_true] at this
    cases a <;> simp at e this
theorem immA_mem : ∀ {l : List D}, immA l = true → ∀ d ∈ l, d.imm = true
  | [], _, d, hd => by simp at hd
  | x :: xs, h, d, hd => by
    rw [immA_cons, Bool.and_eq_true] at h
    rcases List.mem_cons.mp hd with e | e
    · rw [e]; exact h.1
    · exact immA_mem h.2 d e
section
variable {X : Cx} {c : Ct} {M : Nat → Mo} {We : WX} {al k : Nat} {e : Expr} {f : EF} {pos : Pos}
theorem ve_min {p : Pos} (z : Cz X c We k) (h : VE X c M We al e f) (hg : Gl X "min") (hm : X.mg "min" = none) (hs : starEach [e] X.env = (false, eval e X.env) :: starEach [] X.env := by rfl) (hpl : (backTo pos (starEach [] X.env)).any (·.1) = false := by rfl) :
    VE X c M We 0 (.Call (.Name "min" p) [e] [] pos) (e1 minLD f) := by
  obtain ⟨te, pe, s⟩ := h.ex
  refine ⟨_, pe_callB (call_minA z.calm z.hr.units) hg hm (by decide +kernel) (pa_cons pe pa_nil hs) (by decide) (by decide) hs hpl, fun w σ H ρ Q sl po => s w σ H ρ _ sl ((Po.bind po).imp (fun d _ q v H1 hs1 hi => ?_) fun _ _ q => q)⟩
  cases d with
  | lst l =>
    cases l with
    | nil => exact q.elim
    | cons d ds =>
      obtain ⟨hd, q⟩ := Po.gd q
      rw [Bool.and_eq_true, Bool.and_eq_true, Bool.and_eq_true, decide_eq_true_eq] at hd
      obtain ⟨⟨⟨h1, h2⟩, h3⟩, h4⟩ := hd
      obtain ⟨a, xs, rfl, e1, e2⟩ := is_lst hi
      refine ⟨a, xs, toPy d, toPyA ds, rfl, by rw [z.K]; exact e1, ?_, alikeD_all h2, h4, fun i v hv hmin => ?_⟩
      · rw [z.K]; exact e2.dp h3
      · obtain ⟨di, q1, q2⟩ := e2.get hv
        have e3 : (toPyA (d :: ds))[i]? = some (toPy di) := by rw [toPyA_map, List.getElem?_map, q1]; rfl
        have e4 : toPy di = toPy (minDD d ds) := by
          rw [minDD_py]
          exact Option.some.inj (e3.symm.trans hmin)
        have e5 : di = minDD d ds := toPy_inj (immA_mem h1 di (List.mem_of_getElem? q1)) (immA_mem h1 _ (minDD_mem d ds)) e4
        rw [e5] at q2
        exact q v H1 hs1 (q2.imm (fun _ _ _ z => z) (immA_mem h1 _ (minDD_mem d ds)))
  | _ => exact q.elim
end

/-! ### sorted(x), of data -/
def leD2 (p q : V × D) : Bool := PySem.W.dataLe false (fun p : V × D => toPy p.2) p q
def leDD (x y : D) : Bool := PySem.W.dataLe false toPy x y
def rSortA (K : PySem.W.Frag) : List V → Hp → VK → Prop := fun vs H Q => ∃ (a : Addr) (ps : List (V × D)), vs = [.ref a] ∧ SqL K H a (ps.map (·.1)) ∧ (∀ p ∈ ps, Dp K H p.1 (toPy p.2)) ∧ PySem.W.AllAlike (ps.map fun p => toPy p.2) ∧ PySem.W.Sortable (ps.map fun p => toPy p.2) ∧ (∀ p ∈ ps, (toPy p.2).depth ≤ 60) ∧
  ∀ q, H q = none → Q (.ref q) (upd H q (.lst ((ps.mergeSort leD2).map (·.1))))
theorem call_sortA {X : Cx} (hu : X.A.units + 64 < cLine) : CallR X (.builtin "sorted") (rSortA X.K) := by
  intro pins s σ H vs us Q I r h
  obtain ⟨a, ps, rfl, hs, hdp, hal, hso, hdep, q⟩ := h
  obtain ⟨its, rv, hl, hz⟩ := I.list hs
  obtain ⟨u, rfl, ru⟩ := vals1 r
  obtain rfl : u = Value.ref a := ru
  have each : ∀ {ps : List (V × D)} {us : List Value}, Vals (ps.map (·.1)) us → PySem.W.EachIs (fun u (p : V × D) => RelV p.1 u) us ps := by
    intro ps
    induction ps with
    | nil => intro us h; cases h; exact .nil
    | cons p ps ih =>
      intro us h
      cases h with
      | cons r t => exact .cons r (ih t)
  have eachR : ∀ {ps : List (V × D)} {us : List Value}, (∀ p ∈ ps, Dp X.K H p.1 (toPy p.2)) → Vals (ps.map (·.1)) us → PySem.W.EachIs (fun u (p : V × D) => ∃ as, Reads s.heap u (toPy p.2) as) us ps := by
    intro ps
    induction ps with
    | nil => intro us _ h; cases h; exact .nil
    | cons p ps ih =>
      intro us hd h
      cases h with
      | cons r t => exact .cons (Dp.reads I _ _ _ (hd p (by simp)) r) (ih (fun p hp => hd p (by simp [hp])) t)
  have back : ∀ {ps : List (V × D)} {us : List Value}, PySem.W.EachIs (fun u (p : V × D) => RelV p.1 u) us ps → Vals (ps.map (·.1)) us := by
    intro ps us h
    induction h with
    | nil => exact .nil
    | cons r t ih => exact .cons r ih
  have hlen : its.length = ps.length := by rw [← rv.length, List.length_map]
  refine PySem.W.sorted_data (enc := fun p : V × D => toPy p.2) (bs := ps) (R := fun u (p : V × D) => RelV p.1 u) hl.isList (each rv) (eachR hdp rv) hal hso (by rw [← hlen]; rw [← rv.length]; exact hz) (fun p hp => by have := hdep p hp; omega) fun out h1 h2 => ?_
  obtain ⟨n, hn⟩ := PyProof.Rows.sortedAll_at s.heap its out.toArray
  refine ⟨.ref (s.heap.objs.size + 1), upd H (s.heap.objs.size + 1) (.lst ((ps.mergeSort leD2).map (·.1))), I.laid (t' := s.toks) (fun b o e => PyProof.Rows.sortedAll_old e) (Nat.le_succ _) ⟨?_, out, n, back h2, hn⟩, rfl, q _ (I.hok.fresh (Nat.le_succ _))⟩
  rw [List.length_map, List.length_mergeSort, ← hlen, ← rv.length]
  exact hz
def tupNE : D → Bool
  | .tup (_ :: _) => true
  | _ => false
def atomD : D → Bool
  | .bl _ => true
  | .int _ => true
  | .str _ => true
  | _ => false
def sortD : D → O D
  | .lst l => gd (immA l && (l.all fun x => l.all fun y => PySem.W.alike (toPy x) (toPy y)) && (l.all tupNE || l.all atomD) && (l.all fun x => (toPy x).canLay0 && decide ((toPy x).depth ≤ 60))) (.ok (.lst (l.mergeSort leDD)))
  | _ => .bad
theorem isA_pairs {c : Ct} {W : Addr → Prop} {H : Hp} : ∀ {ps : List (V × D)}, (∀ p ∈ ps, Is c W H p.1 p.2) → IsA c W H (ps.map (·.1)) (ps.map (·.2))
  | [], _ => .nil
  | p :: ps, h => .cons (h p (by simp)) (isA_pairs fun p hp => h p (by simp [hp]))
theorem isA_zip {c : Ct} {W : Addr → Prop} {H : Hp} : ∀ {xs : List V} {l : List D}, IsA c W H xs l → ∀ p ∈ xs.zip l, Is c W H p.1 p.2
  | _, _, .nil, p, hp => by simp at hp
  | _, _, .cons h t, p, hp => by
    rcases List.mem_cons.mp (by simpa using hp : p ∈ (_, _) :: List.zip _ _) with e | e
    · rw [e]; exact h
    · exact isA_zip t p e
section
variable {X : Cx} {c : Ct} {M : Nat → Mo} {We : WX} {al k : Nat} {e : Expr} {f : EF} {pos : Pos}
theorem vo_sorted {p : Pos} (z : Cz X c We k) (h : VE X c M We al e f) (hg : Gl X "sorted") (hm : X.mg "sorted" = none) (hs : starEach [e] X.env = (false, eval e X.env) :: starEach [] X.env := by rfl) (hpl : (backTo pos (starEach [] X.env)).any (·.1) = false := by rfl) :
    VO X c M We (.l .fz) (.Call (.Name "sorted" p) [e] [] pos) (e1 sortD f) := by
  obtain ⟨te, pe, s⟩ := h.ex
  refine ⟨_, pe_callB (call_sortA z.hr.units) hg hm (by decide +kernel) (pa_cons pe pa_nil hs) (by decide) (by decide) hs hpl, fun w σ H ρ Q sl po => s w σ H ρ _ sl ((Po.bind po).imp (fun d _ q v H1 hs1 hi => ?_) fun _ _ q => q)⟩
  cases d with
  | lst l =>
    obtain ⟨hd, q⟩ := Po.gd q
    rw [Bool.and_eq_true, Bool.and_eq_true, Bool.and_eq_true, Bool.or_eq_true, List.all_eq_true, List.all_eq_true, List.all_eq_true, List.all_eq_true] at hd
    obtain ⟨⟨⟨h1, h2⟩, h3⟩, h4⟩ := hd
    obtain ⟨a, xs, rfl, e1, e2⟩ := is_lst hi
    have f1 : (xs.zip l).map (·.1) = xs := List.map_fst_zip (by rw [e2.length]; exact Nat.le_refl _)
    have f2 : (xs.zip l).map (·.2) = l := List.map_snd_zip (by rw [e2.length]; exact Nat.le_refl _)
    have m2 : ∀ p ∈ xs.zip l, p.2 ∈ l := fun p hp => by rw [← f2]; exact List.mem_map.mpr ⟨p, hp, rfl⟩
    have hz := isA_zip e2
    refine ⟨a, xs.zip l, rfl, by rw [f1, z.K]; exact e1, fun p hp => ?_, fun x hx y hy => ?_, ?_, fun p hp => ?_, fun p0 hp0 => ?_⟩
    · have := h4 _ (m2 p hp)
      rw [Bool.and_eq_true] at this
      rw [z.K]
      exact (hz p hp).dp this.1
    · obtain ⟨p, hp, rfl⟩ := List.mem_map.mp hx
      obtain ⟨p', hp', rfl⟩ := List.mem_map.mp hy
      have := h2 _ (m2 p hp)
      rw [List.all_eq_true] at this
      exact this _ (m2 p' hp')
    · rcases h3 with h3 | h3
      · refine .inl fun x hx => ?_
        obtain ⟨p, hp, rfl⟩ := List.mem_map.mp hx
        have := h3 _ (m2 p hp)
        cases hp2 : p.2 with
        | tup l' =>
          rw [hp2] at this
          cases l' with
          | nil => cases this
          | cons y ys => exact ⟨toPy y, toPyA ys, by rw [toPy_tup]; simp only [toPyA]⟩
        | _ => rw [hp2] at this; cases this
      · refine .inr fun x hx => ?_
        obtain ⟨p, hp, rfl⟩ := List.mem_map.mp hx
        have := h3 _ (m2 p hp)
        cases hp2 : p.2 with
        | bl b => exact ⟨(by rw [toPy_bl]; exact fun z => nomatch z), fun xs => (by rw [toPy_bl]; exact fun z => nomatch z)⟩
        | int b => exact ⟨(by rw [toPy_int]; exact fun z => nomatch z), fun xs => (by rw [toPy_int]; exact fun z => nomatch z)⟩
        | str b => exact ⟨(by rw [toPy_str]; exact fun z => nomatch z), fun xs => (by rw [toPy_str]; exact fun z => nomatch z)⟩
        | _ => rw [hp2] at this; cases this
    · have := h4 _ (m2 p hp)
      rw [Bool.and_eq_true, decide_eq_true_eq] at this
      exact this.2
    · have hres : IsA c (NW w al H) H1 (((xs.zip l).mergeSort leD2).map (·.1)) (l.mergeSort leDD) := by
        have g1 : ((xs.zip l).mergeSort leD2).map (·.2) = l.mergeSort leDD := by
          rw [List.map_mergeSort (r := leD2) (s := leDD) (f := fun p : V × D => p.2) (fun a _ b _ => rfl), f2]
        rw [← g1]
        exact isA_pairs fun p hp => hz p (List.mem_mergeSort.mp hp)
      have hdc : immA (l.mergeSort leDD) = true := by
        have : ∀ (l : List D), immA l = l.all D.imm := fun l => by induction l with
          | nil => simp
          | cons d l ih => rw [immA_cons, ih, List.all_cons]
        rw [this] at h1 ⊢
        rw [List.all_eq_true] at h1 ⊢
        exact fun x hx => h1 x (List.mem_mergeSort.mp hx)
      obtain ⟨o1, o2, o3, o4⟩ := own_new (w := w) hs1 hp0 hres hdc
      exact q _ _ [p0] o1 o2 o3 o4
  | _ => exact q.elim
end

/-! ### x in a list -/
def inL (neg : Bool) (x y : D) : O D := match y with
  | .lst l => gd (SeqAt.shaped (toPy x) && SeqAt.shaped (.list (toPyA l))) (.ok (.bl (neg != (toPyA l).any fun z => PyData.eqv z (toPy x))))
  | _ => .bad
theorem rs_inL {c : Ct} : RS c (rInD c.K) (inL false) := by
  intro W W' x y dx dy H Q E hx hy po
  cases dy with
  | lst l =>
    obtain ⟨hl, po⟩ := Po.gd po
    rw [Bool.and_eq_true] at hl
    have hy2 := hy.dp (by rw [toPy_lst]; exact SeqAt.canLay_of_shaped hl.2)
    rw [toPy_lst] at hy2
    exact ⟨_, _, hx.dp (SeqAt.canLay_of_shaped hl.1), hy2, hl.1, hl.2, po _ H (Same.refl H) fun _ => by rw [Bool.false_bne]; exact .bl _⟩
  | _ => exact po.elim
theorem rs_notinL {c : Ct} : RS c (rNotInD c.K) (inL true) := by
  intro W W' x y dx dy H Q E hx hy po
  cases dy with
  | lst l =>
    obtain ⟨hl, po⟩ := Po.gd po
    rw [Bool.and_eq_true] at hl
    have hy2 := hy.dp (by rw [toPy_lst]; exact SeqAt.canLay_of_shaped hl.2)
    rw [toPy_lst] at hy2
    exact ⟨_, _, hx.dp (SeqAt.canLay_of_shaped hl.1), hy2, hl.1, hl.2, po _ H (Same.refl H) fun _ => by rw [Bool.true_bne]; exact .bl _⟩
  | _ => exact po.elim
section
variable {X : Cx} {c : Ct} {M : Nat → Mo} {We : WX} {al al' k : Nat} {a b : Expr} {fa fb : EF} {pos : Pos}
theorem u65 (z : Cz X c We k) : X.A.units + 65 < cLine := by have := z.hr.un; omega
theorem ve_lin (z : Cz X c We k) (ha : VE X c M We al a fa) (hb : VE X c M We al' b fb) (hmk : behindInMarks .In b = false := by first | exact nobehind _ (by decide) (by decide) | rfl) : VE X c M We 0 (.Compare a [.In] [b] pos) (e2 (inL false) fa fb) := ve_cmp (op_inD (u65 z)) (by rw [z.K]; exact rs_inL) ha hb hmk
theorem vt_lin (z : Cz X c We k) (ha : VE X c M We al a fa) (hb : VE X c M We al' b fb) (hmk : behindInMarks .In b = false := by first | exact nobehind _ (by decide) (by decide) | rfl) : VT X c M We (.Compare a [.In] [b] pos) (tE (e2 (inL false) fa fb)) := vt_cmp (op_inD (u65 z)) (by rw [z.K]; exact rs_inL) ha hb hmk
theorem ve_lnotin (z : Cz X c We k) (ha : VE X c M We al a fa) (hb : VE X c M We al' b fb) (hmk : behindInMarks .NotIn b = false := by first | exact nobehind _ (by decide) (by decide) | rfl) : VE X c M We 0 (.Compare a [.NotIn] [b] pos) (e2 (inL true) fa fb) := ve_cmp (op_notInD (u65 z)) (by rw [z.K]; exact rs_notinL) ha hb hmk
theorem vt_lnotin (z : Cz X c We k) (ha : VE X c M We al a fa) (hb : VE X c M We al' b fb) (hmk : behindInMarks .NotIn b = false := by first | exact nobehind _ (by decide) (by decide) | rfl) : VT X c M We (.Compare a [.NotIn] [b] pos) (tE (e2 (inL true) fa fb)) := vt_cmp (op_notInD (u65 z)) (by rw [z.K]; exact rs_notinL) ha hb hmk
end

/-! ### zip of two tuples -/
def tupLD : D → O (List D)
  | .tup l => .ok l
  | _ => .bad
def iZpT (f g : EF) : AF := fun ρ => (f ρ).bind fun x => (tupLD x).bind fun xs => (g ρ).bind fun y => (tupLD y).bind fun ys => .ok (pairsD xs ys)
theorem walk_zipT {K : PySem.W.Frag} {a b : Addr} {xs ys : List V} {n : Nat} (hn : n = min xs.length ys.length) : Walk (RZ.ItzT K a b) n (fun H => SqT K H a xs ∧ SqT K H b ys) (YPair (fun i => xs[i]?) (fun i => ys[i]?)) := by
  subst hn
  refine ⟨fun i _ hi q => ?_, fun _ q => ⟨xs, ys, q.1, q.2, by omega⟩, fun i H v H' _ q y => ?_⟩
  · have h1 : i < xs.length := by omega
    have h2 : i < ys.length := by omega
    exact ⟨xs, ys, xs[i], ys[i], q.1, q.2, by simp [h1], by simp [h2]⟩
  · obtain ⟨T, x, z, h1, h2, h3, h4, h5⟩ := y
    exact ⟨T, x, z, h1, h2, h3, h4 xs q.1, h5 ys q.2⟩
section
variable {X : Cx} {c : Ct} {M : Nat → Mo} {We : WX} {al k : Nat} {e e2 : Expr} {f f2 : EF}
theorem vi_zipT {p pos tpos : Pos} {elts : List Expr} {kk : Nat} (z : Cz X c We k) (h : VE X c M We al e f) (h2 : VE X c M We al e2 f2) (hg : Gl X "zip") (hm : X.mg "zip" = none) (hs : starEach [e, e2] X.env = (false, eval e X.env) :: starEach [e2] X.env := by rfl)
    (hs1 : starEach [e2] X.env = (false, eval e2 X.env) :: starEach [] X.env := by rfl) (hpl : (backTo pos (starEach [e2] X.env)).any (·.1) = false := by rfl) :
    VI X c M We al (.Tuple elts kk tpos) (.Call (.Name "zip" p) [e, e2] [] pos) (iZpT f f2) := by
  obtain ⟨te, p1, s1⟩ := h.ex
  obtain ⟨te2, p2, s2⟩ := h2.ex
  refine ⟨_, RZ.pi_zipA hg hm (pa_cons p1 (pa_cons p2 pa_nil hs1) hs) hs hpl, fun w σ H ρ R sl po => s1 w σ H ρ _ sl ((Po.bind po).imp (fun d _ q v H1 hs hi => ?_) fun _ _ q => q)⟩
  cases d with
  | tup l =>
    refine s2 w σ H1 ρ _ (sl.same hs) ((Po.bind (r := f2 ρ) q).imp (fun d2 _ q v2 H2 hs2 hi2 => ?_) fun _ _ q H2 hs2 => q H2 (hs.trans hs2))
    cases d2 with
    | tup l2 =>
      have q : ∀ (J : It) (G : Hp → Prop) (Y : Nat → Hp → V → Hp → Prop) (H' : Hp), Same H H' → Walk J (pairsD l l2).length G Y → (∀ H'', Kp (NW w al H) H' H'' → G H'') → (∀ i Hi x Hi', i < (pairsD l l2).length → Kp (NW w al H) H' Hi → Y i Hi x Hi' → Same Hi Hi' ∧ ∃ d, (pairsD l l2)[i]? = some d ∧ ∀ W' : Addr → Prop, (∀ a, NW w al H a → H' a ≠ none → W' a) → Is c W' Hi' x d) → R J H' := q
      have hi' := hi.same hs2
      have hi2' := hi2.up (NW.back hs)
      obtain ⟨a, xs, rfl, a2, a1⟩ := is_tup hi'
      obtain ⟨b, ys, rfl, b2, b1⟩ := is_tup hi2'
      refine ⟨a, b, xs, ys, rfl, .inr ⟨.of a2, .of b2, q _ (fun H => SqT X.K H a xs ∧ SqT X.K H b ys) _ H2 (hs.trans hs2) (walk_zipT (by rw [pairs_len, a1.length, b1.length])) (fun H'' hk => ⟨.of (hk _ _ (.inr trivial) a2), .of (hk _ _ (.inr trivial) b2)⟩) fun i Hi x Hi' hi hk hy => ?_⟩⟩
      obtain ⟨T, x1, y1, rfl, hT, rfl, e1, e2⟩ := hy
      obtain ⟨dx, f1, g1⟩ := a1.get e1
      obtain ⟨dy, f2, g2⟩ := b1.get e2
      have st : Same Hi (upd Hi T (.tup [x1, y1])) := same_new (Same.refl Hi) hT
      exact ⟨st, _, pairs_get f1 f2, fun W' hw => .tup upd_same (.cons ((kp_item g1 hk W' hw).same st) (.cons ((kp_item g2 hk W' hw).same st) .nil))⟩
    | _ => exact q.elim
  | _ => exact q.elim
end
end VS
set_option Elab.async false
set_option linter.all false
set_option maxRecDepth 100000
set_option maxHeartbeats 2000000
/-! VZ: try; a def that tells a word of the exception that is handled. -/
namespace VS
open PySem L2

/-! ### isinstance of what is handled -/
theorem call_isP {X : Cx} {a C : Addr} {oe : Obj} (hp : (a, oe) ∈ X.pn) (ec : ExcC X.K C) (hz : Zc (.ref C) none oe) (hf : ∃ vs, oe.data = .fields vs) : CallR X (.builtin "isinstance") (rIsE X.K C a) := by
  intro pins s σ H xs us Q I r h
  obtain ⟨cl, cv, b, rfl, hcv, ek, q⟩ := h
  obtain ⟨u1, u2, rfl, r1, r2⟩ := vals2 r
  obtain rfl : u1 = Value.ref a := r1
  obtain rfl := hcv _ r2
  obtain ⟨hget, _⟩ := I.pin (a, oe) (List.mem_append_left _ hp)
  obtain ⟨fv, hv⟩ := hf
  have at_ : PySem.W.InstAt s.heap a oe C none := by
    rcases oe with ⟨k1, k2, k3, k4⟩
    obtain ⟨z1, z2⟩ := hz
    dsimp only at z1 z2 hv
    subst z1 z2 hv
    exact ⟨hget, rfl, rfl, trivial⟩
  have kx := PySem.W.handS_kitx_exc (x := a) (ox := oe) ec.hg ec.hk ec.hs ec.hd ec.ha ec.hn ec.ht ec.hm
  exact PySem.W.kia_one kx I.kIn at_ ek (by intro z; cases z) fun t1 => ⟨.bl b, H, I.kept (t' := t1) (fun _ _ y => y), rfl, q⟩

/-! ### a def that tells a word of it -/
structure FnW (P : Program) (w : World) (K : PySem.W.Frag) (mg : Str → Option Value) (base : Heap) (k : Nat) (f : Addr) (fd : FuncData) (y : Str) (wf : Addr → Option Str) : Prop where
  run : ∀ (A : Around) (outer : List Env) (s : Shared) (H : Hp) (args : Args) (Q : VK) (p : Addr × Obj) (C : Addr) (r : Str), L2H.RoomH k A → L2H.PinOk outer H s p → Zc (.ref C) none p.2 → (∃ vs, p.2.data = .fields vs) → wf C = some r →
    Env0 P w K mg base A outer s H → BindsTo s fd args [(y, .ref p.1)] → Q (.str r) H → codeAny (model P w) A (.call (.ref f) args) (CR (L2.CX P w) outer P w H s Q E0) s
section
variable {P : Program} {w : World} {K : PySem.W.Frag} {mg : Str → Option Value} {base : Heap}
theorem fn_tells {x qual y : Str} {st : Stmt} {f : Addr} {fd : FuncData} {N : List Str} {k : Nat} {wf : Addr → Option Str} (F : Fun K x qual st f fd) (S : FnScope N [y] (defScope st))
    (hb : ∀ (cdv : Value) (A : Around) (outer : List Env) (s : Shared) (H : Hp) (p : Addr × Obj) (C : Addr) (r : Str), Zc (.ref C) none p.2 → (∃ vs, p.2.data = .fields vs) → wf C = some r →
      ∃ t, PSs (L2H.cxH (L2.CX P w) P w K mg base N qual (defScope st) f cdv A outer s H E0 p) (defBody st) t ∧ ∀ Q : VK, Q (.str r) H → t { nx := fun _ H' => Q .non H', rt := Q } (L2.start N [.ref p.1]) H) : FnW P w K mg base (k + 1) f fd y wf := by
  obtain ⟨oc, od, kV, doc, pm, an, cdv, ct, osl, rfl, lk, hcd⟩ := F.ex
  refine ⟨fun A outer s H args Q p C r hr hpin hz hf hw env0 hbd hq => ?_⟩
  have inK : K.In s.heap := env0.mod.kin.keeps fun b o e => (env0.bs b o e).1
  have noL : s.heap.NoLimit := env0.mod.nolimit.keeps fun b o e => (env0.bs b o e).1
  have kinds : ∀ z ∈ [(y, Value.ref p.1)], (defScope st).names.lookup z.1 = some .local ∨ ((defScope st).names.lookup z.1 = some .cell ∧ ((cellsFrom (s.heap.objs.size + 1) (defScope st).names []).lookup z.1).isSome = true) := fun z hz => by
    rw [List.mem_singleton] at hz
    subst hz
    exact (S.par y (by simp)).imp id fun q => ⟨q, PySem.W.cellsFrom_some _ _ _ (.inl q)⟩
  refine codeAny_call_function hr.depth (inK _ _ lk) rfl S.co S.gen rfl (PySem.W.codeRec_of inK hcd) (hbd _ _ _ _ ?_)
  refine wpAny_newFunctionEnv_cells S.kind kinds fun en hen s1 ic => ?_
  subst hen
  obtain ⟨t, ht, hd⟩ := hb cdv A outer s H p C r hz hf hw
  have J : Inv (L2H.cxH (L2.CX P w) P w K mg base N qual (defScope st) f cdv A outer s H E0 p) [] (L2.start N [.ref p.1]) H s1 := L2H.inv_startH (ps := [y]) (us := [.ref p.1]) S hpin env0 rfl (.cons rfl .nil) ic
  refine ⟨noL.keeps ic.toInCall.keep, codeAny_func (wpAny_mono (ht.run [] s1 _ H _ J (hd Q hq)) (fun fl s2 ends => ?_) fun _ _ z => z)⟩
  match fl, ends with
  | .ret u, ⟨v, σ2, H2, J2, rv, q2⟩ => exact ⟨v, H2, J2.os, J2.bare, J2.base, J2.hok, rv, q2⟩
  | .next, ⟨σ2, H2, J2, q2⟩ => exact ⟨.non, H2, J2.os, J2.bare, J2.base, J2.hok, rfl, q2⟩
  | .brk, ⟨_, _, _, q2⟩ => exact q2.elim
  | .cont, ⟨_, _, _, q2⟩ => exact q2.elim
end
/-- such a def stands -/
structure Dw (P : Program) (w : World) (K : PySem.W.Frag) (mg : Str → Option Value) (base : Heap) (k : Nat) (x : Str) (wf : Addr → Option Str) : Prop where
  ex : ∃ f fd y, FnW P w K mg base k f fd y wf ∧ Binds K fd [y] [] ∧ mg x = some (.ref f) ∧ PySem.W.keepIn K (.ref f) = true
/-- its call within a suite, by the handled exception -/
def tWord (a : Addr) (cls : Value) (d : Option Addr) (wf : Addr → Option Str) (te : TE) : TE := fun σ H Q => te σ H fun x H1 => ∃ v, [x] = [v] ∧ v = V.ref a ∧ d = none ∧ ∃ C r, cls = .ref C ∧ wf C = some r ∧ Q (.str r) H1
section
variable {X : Cx} {a : Addr} {oe : Obj} {cls : Value} {d : Option Addr} {pn : List (Addr × Obj)} {k k' : Nat} {e : Expr} {te : TE} {pos p : Pos} {wf : Addr → Option Str}
theorem pe_word {x : Str} (dw : Dw X.prog X.w X.K X.mg X.base k' x wf) (hk : k' ≤ k) (hr : Room k X.A) (hz : Zc cls d oe) (hf : ∃ vs, oe.data = .fields vs) (hg : Gl X x) (he : PE (X.suite a ((a, oe) :: pn)) e te)
    (hdb : (x == ("__debug__" : Str)) = false := by decide) (hs : starEach [e] X.env = (false, eval e X.env) :: starEach [] X.env := by rfl) (hpl : (backTo pos (starEach [] X.env)).any (·.1) = false := by rfl) :
    PE (X.suite a ((a, oe) :: pn)) (.Call (.Name x p) [e] [] pos) (tWord a cls d wf te) := by
  obtain ⟨f, fd, y, G, hb, hm, kp⟩ := dw.ex
  have rm : L2H.RoomH k' (X.A.mark (some (.ref a))) := ⟨by have := hr.dp; show X.A.depth + 3 * k' + 5 < _; omega, by have := hr.un; show X.A.units + 16 * k' + 200 < _; omega⟩
  refine ⟨fun pins s σ H Q I h => wpAny_Call_Name_kw (ld_glob I hg hm ?_ hdb)⟩
  refine PySem.W.callWith_K (h₀ := X.base) I.ok.mod.kin kp (thn ((pa_cons he pa_nil hs).run pos pins s σ H (fun vs H1 => ∃ v, vs = [v] ∧ v = V.ref a ∧ d = none ∧ ∃ C r, cls = .ref C ∧ wf C = some r ∧ Q (.str r) H1) I h) fun us s1 r0 => ?_) hs hpl
  · obtain ⟨vs, H1, I1, rs, v, rfl, rfl, rfl, C, r, rfl, hw, q⟩ := r0
    refine ⟨I1.kIn, ?_⟩
    cases rs with
    | cons r1 rr =>
      cases rr
      obtain rfl := r1
      have bt := hb s1 [.ref a] I1.kIn rfl
      have pk := I1.pin (a, oe) (List.mem_append.mpr (.inl List.mem_cons_self))
      have pin : L2H.PinOk X.stack H1 s1 (a, oe) := ⟨pk.1, pk.2.1, fun z => (List.mem_cons.mp (I1.stkSub a z)).elim pk.2.2.1 pk.2.2.2.1, pk.2.2.2.2⟩
      refine wpAny_call (codeAny_mono (G.run (X.A.mark (some (.ref a))) X.stack s1 H1 ⟨[.ref a], []⟩ Q (a, oe) C r rm pin hz hf hw I1.env0 bt q) fun res s2 hq => ?_)
      match res, hq with
      | .ok (.ret u), hq => exact I1.after hq
      | .ok .next, hq => exact hq.elim
      | .ok .brk, hq => exact hq.elim
      | .ok .cont, hq => exact hq.elim
      | .error ev, hq =>
        obtain ⟨_, _, _, _, _, _, _, _, _, _, _, _, z⟩ := hq
        exact z.elim
end

/-! ### its text -/
structure WB (X : Cx) (a : Addr) (sts : List Stmt) (n : Nat) (f : Str → Str) : Prop where
  ex : ∃ t, PSs X sts t ∧ ∀ (x : Str) (D : Ends) (H : Hp), x.length ≤ n → D.rt (.str (f x)) H → t D [some (.ref a), some (.str x)] H
section
variable {X : Cx} {a C C' : Addr} {oe : Obj} {ne nw x : Str} {b : Bool} {n m : Nat} {f : Str → Str} {rest : List Stmt} {p1 p2 p3 p4 p5 p6 p7 p8 p9 p10 : Pos}
theorem pt_isP {u : Value} {cv : V} {e2 : Expr} (hp : (a, oe) ∈ X.pn) (ec : ExcC X.K C) (hz : Zc (.ref C) none oe) (hf : ∃ vs, oe.data = .fields vs) (hg : Gl X "isinstance") (hm : X.mg "isinstance" = none) (hN : X.N[0]? = some ne) (hv : Vis X.env.scope ne) (hd : (ne == ("__debug__" : Str)) = false)
    (hcd : (ne == ("__classdict__" : Str)) = false) (h2 : PE X e2 (tC cv)) (hcv : ∀ w, RelV cv w → w = u) (hk : PySem.W.kitOne X.K (.ref C) u = some b)
    (hs : starEach [.Name ne p2, e2] X.env = (false, eval (.Name ne p2) X.env) :: starEach [e2] X.env) (hs1 : starEach [e2] X.env = (false, eval e2 X.env) :: starEach [] X.env) (hpl : (backTo p4 (starEach [e2] X.env)).any (·.1) = false) :
    ∃ tt, PT X (.Call (.Name "isinstance" p1) [.Name ne p2, e2] [] p4) tt ∧ ∀ (r : Option V) (H : Hp) (Q : Bool → Hp → Prop), Q b H → tt [some (.ref a), r] H Q :=
  ⟨_, pt_val (pe_callB (call_isP hp ec hz hf) hg hm PyProof.Rows.boot_isinstance (pa_cons (pv 0 hN hv hd hcd) (pa_cons h2 pa_nil hs1) hs) (by decide) (by decide) hs hpl), fun r H Q q => ⟨.ref a, rfl, cv, u, b, rfl, hcv, hk, b, rfl, q⟩⟩
theorem wb_if {nm wd : Str} {j : Nat} (hp : (a, oe) ∈ X.pn) (ec : ExcC X.K C) (hz : Zc (.ref C) none oe) (hf : ∃ vs, oe.data = .fields vs) (hm : X.mg "isinstance" = none) (hx : ExK X.K X.mg nm C') (hk : PySem.W.kitOne X.K (.ref C) (.ref C') = some b) (hn : n + wd.length ≤ m) (hm1 : m ≤ 1000)
    (hND : X.N.Nodup) (h : WB X a rest m f) (hg : Gl X "isinstance" := by rfl) (hgx : Gl X nm := by rfl) (hN : X.N[0]? = some ne := by rfl) (hN1 : X.N[1]? = some nw := by rfl) (hv : Vis X.env.scope ne := by exact Or.inl rfl) (hvw : Vis X.env.scope nw := by exact Or.inl rfl) (hlw : Loc X.env.scope nw := by exact Or.inl rfl)
    (hd : (ne == ("__debug__" : Str)) = false := by decide) (hcd : (ne == ("__classdict__" : Str)) = false := by decide) (hdw : (nw == ("__debug__" : Str)) = false := by decide) (hcdw : (nw == ("__classdict__" : Str)) = false := by decide) (hdn : (nm == ("__debug__" : Str)) = false := by decide)
    (hs : starEach [.Name ne p2, .Name nm p3] X.env = (false, eval (.Name ne p2) X.env) :: starEach [.Name nm p3] X.env := by rfl) (hs1 : starEach [.Name nm p3] X.env = (false, eval (.Name nm p3) X.env) :: starEach [] X.env := by rfl) (hpl : (backTo p4 (starEach [.Name nm p3] X.env)).any (·.1) = false := by rfl)
    (hsw : swapsWith (.BinOp (.Name nw p6) .Add (.Constant (.str wd) j p7) p8) (some (.Name nw p5)) p9.line X.env = pure false := by rfl) (hfn : X.fn nw = true ∨ X.env.scope.names.lookup nw = some .local := by exact Or.inr rfl) :
    WB X a (.If (.Call (.Name "isinstance" p1) [.Name ne p2, .Name nm p3] [] p4) [.Assign [.Name nw p5] (.BinOp (.Name nw p6) .Add (.Constant (.str wd) j p7) p8) p9] [] p10 :: rest) n (fun x => f (if b = true then x ++ wd else x)) := by
  obtain ⟨t, ht, hr⟩ := h.ex
  obtain ⟨tt, htt, hrt⟩ := pt_isP (p1 := p1) (p2 := p2) (p4 := p4) hp ec hz hf hg hm hN hv hd hcd (pe_glob (v := .ref C') (pos := p3) hgx hx.g rfl hdn) (fun w q => q) hk hs hs1 hpl
  refine ⟨_, pss_cons (ps_if htt (pss_one (ps_set (i := 1) hND hN1 hlw (pe_op op_add_str (pv 1 hN1 hvw hdw hcdw) pe_str) hsw hfn)) pss_nil) ht, fun x D H hl q => ?_⟩
  refine hrt _ H _ ?_
  cases b with
  | true =>
    refine iteT ⟨.str x, rfl, x, wd, rfl, rfl, ?_, ?_⟩
    · exact Nat.le_trans (Nat.le_trans (Nat.add_le_add_right hl _) (Nat.le_trans hn hm1)) (by decide)
    · refine hr (x ++ wd) D H ?_ q
      rw [PySem.Str.length_append]
      omega
  | false => exact iteF (hr x D H (by omega) q)
theorem wb_end {y : Str} {j : Nat} {p11 p12 : Pos} (hp : (a, oe) ∈ X.pn) (ec : ExcC X.K C) (hz : Zc (.ref C) none oe) (hf : ∃ vs, oe.data = .fields vs) (hm : X.mg "isinstance" = none) (hmv : X.mg "ValueError" = none) (hk : PySem.W.kitOne X.K (.ref C) (.type "ValueError") = some true) (hn : n ≤ 1000)
    (hg : Gl X "isinstance" := by rfl) (hgv : Gl X "ValueError" := by rfl) (hN : X.N[0]? = some ne := by rfl) (hN1 : X.N[1]? = some nw := by rfl) (hv : Vis X.env.scope ne := by exact Or.inl rfl) (hvw : Vis X.env.scope nw := by exact Or.inl rfl)
    (hd : (ne == ("__debug__" : Str)) = false := by decide) (hcd : (ne == ("__classdict__" : Str)) = false := by decide) (hdw : (nw == ("__debug__" : Str)) = false := by decide) (hcdw : (nw == ("__classdict__" : Str)) = false := by decide)
    (hs : starEach [.Name ne p2, .Name "ValueError" p3] X.env = (false, eval (.Name ne p2) X.env) :: starEach [.Name "ValueError" p3] X.env := by rfl) (hs1 : starEach [.Name "ValueError" p3] X.env = (false, eval (.Name "ValueError" p3) X.env) :: starEach [] X.env := by rfl)
    (hpl : (backTo p4 (starEach [.Name "ValueError" p3] X.env)).any (·.1) = false := by rfl) (hbase : attributeBase (.Name nw p5) "rstrip" X.env (eval (.Name nw p5) X.env) = eval (.Name nw p5) X.env := by rfl) (hline : (p6.endLine == p7.line) = true := by rfl) :
    WB X a [.If (.Call (.Name "isinstance" p1) [.Name ne p2, .Name "ValueError" p3] [] p4) [.Return (some (.Call (.Attribute (.Name nw p5) "rstrip" p6) [] [] p7)) p8] [] p9, .Return (some (.Constant (.str y) j p11)) p12] n Txt.rstrip := by
  obtain ⟨tt, htt, hrt⟩ := pt_isP (p1 := p1) (p2 := p2) (p4 := p4) hp ec hz hf hg hm hN hv hd hcd (pe_bltn (v := .ty "ValueError") (pos := p3) hgv hmv (by decide +kernel) rfl (by decide) (by decide)) (fun w q => q) hk hs hs1 hpl
  refine ⟨_, pss_cons (ps_if htt (pss_one (ps_ret (pe_m0 PySem.F.slot_str_rstrip PySem.F.type_str_rstrip mt_rstrip (pv 1 hN1 hvw hdw hcdw) hbase hline))) pss_nil) (pss_one (ps_ret pe_str)), fun x D H hl q => ?_⟩
  refine hrt _ H _ (iteT ⟨.str x, rfl, ⟨x, rfl⟩, x, rfl, rfl, ?_, q⟩)
  exact Nat.le_trans (Nat.le_trans hl hn) (by decide)
theorem wb_start {y : Str} {j : Nat} {r : Str} {H : Hp} (hND : X.N.Nodup) (hN : X.N = [ne, nw]) (h : WB X a rest 0 f) (hy : y.length = 0) (hfr : f y = r) (hN1 : X.N[1]? = some nw := by rfl) (hlw : Loc X.env.scope nw := by exact Or.inl rfl)
    (hsw : swapsWith (.Constant (.str y) j p1) (some (.Name nw p2)) p3.line X.env = pure false := by rfl) (hfn : X.fn nw = true ∨ X.env.scope.names.lookup nw = some .local := by exact Or.inr rfl) :
    ∃ t, PSs X (.Assign [.Name nw p2] (.Constant (.str y) j p1) p3 :: rest) t ∧ ∀ Q : VK, Q (.str r) H → t { nx := fun _ H' => Q .non H', rt := Q } (L2.start [ne, nw] [.ref a]) H := by
  obtain ⟨t, ht, hr⟩ := h.ex
  refine ⟨_, pss_cons (ps_set (i := 1) hND hN1 hlw pe_str hsw hfn) ht, fun Q q => ?_⟩
  subst hfr
  exact hr y { nx := fun _ H' => Q .non H', rt := Q } H (by omega) q
end

/-! ### list(range(n)) -/
def lrgD : D → O D
  | .int n => gd (decide (0 ≤ n) && decide (n ≤ 100000)) (.ok (.lst (rngD 0 n.toNat)))
  | _ => .bad
section
variable {X : Cx} {c : Ct} {M : Nat → Mo} {We : WX} {al k : Nat} {e : Expr} {f : EF}
theorem isA_rg {c : Ct} {W : Addr → Prop} {H : Hp} (n : Nat) : ∀ m, IsA c W H ((List.range m).map fun (i : Nat) => V.int (0 + (i : Int))) ((List.range m).map fun (i : Nat) => D.int (0 + (i : Int))) := fun m => by
  induction m with
  | zero => exact .nil
  | succ m ih =>
    rw [List.range_succ, List.map_append, List.map_append]
    exact ih.append (.cons (.int _) .nil)
theorem vo_listRg {p p2 pos pos2 : Pos} (z : Cz X c We k) (h : VE X c M We al e f) (hg : Gl X "list") (hm : X.mg "list" = none) (hgr : Gl X "range") (hmr : X.mg "range" = none) (hs : starEach [e] X.env = (false, eval e X.env) :: starEach [] X.env := by rfl)
    (hs2 : starEach [.Call (.Name "range" p2) [e] [] pos2] X.env = (false, eval (.Call (.Name "range" p2) [e] [] pos2) X.env) :: starEach [] X.env := by rfl) :
    VO X c M We (.l .fz) (.Call (.Name "list" p) [.Call (.Name "range" p2) [e] [] pos2] [] pos) (e1 lrgD f) := by
  obtain ⟨te, pe, s⟩ := h.ex
  refine ⟨_, pe_listRg z.calm hg hm (prg_1 hgr hmr pe hs) hs2, fun w σ H ρ Q sl po => s w σ H ρ _ sl ((Po.bind po).imp (fun d _ q v H1 hs1 hi => ?_) fun _ _ q => q)⟩
  cases d with
  | int n =>
    obtain ⟨hn, q⟩ := Po.gd q
    rw [Bool.and_eq_true, decide_eq_true_eq, decide_eq_true_eq] at hn
    refine ⟨n, is_int hi, .of_le (by decide) (by omega) (by decide) hn.1, fun q' hq' => ?_⟩
    have hr : IsA c (NW w 0 H) H1 (rgV 0 n) (rngD 0 n.toNat) := by
      unfold rgV rngD
      rw [Int.sub_zero]
      exact isA_rg 0 _
    have him : immA (rngD 0 n.toNat) = true := by
      have : ∀ l : List Nat, immA (l.map fun (i : Nat) => D.int (0 + (i : Int))) = true := fun l => by
        induction l with
        | nil => simp
        | cons a l ih => rw [List.map_cons, immA_cons, ih]; simp
      exact this _
    obtain ⟨o1, o2, o3, o4⟩ := own_new (w := w) hs1 hq' hr him
    exact q _ _ [q'] o1 o2 o3 o4
  | _ => exact q.elim
end

/-! ### try -/
/-- what the handler hands back, by the exception's class -/
def sTry (h : Value → Option D) (i : Nat) (g : SF) : SF := fun ρ => match g ρ with
  | .bad => .bad
  | .exc _ => .bad
  | .ok (.ex k ρ') => match h k with
    | some r => gd (r.imm && decide (i < ρ'.length)) (.ok (.rt r ρ'))
    | none => .bad
  | .ok o => .ok o
structure Su (X : Cx) (c : Ct) (c0 : Value) (i : Nat) (suite : List Stmt) (h : Value → Option D) : Prop where
  ex : ∃ ts : Addr → Value → Option Addr → TS, (∀ (a : Addr) (oe : Obj) (cls : Value) (d : Option Addr) (pn : List (Addr × Obj)), Zc cls d oe → (∃ vs, oe.data = .fields vs) → PSs (X.suite a ((a, oe) :: pn)) suite (ts a cls d)) ∧
    ∀ (k : Value) (r : D), h k = some r → PySem.W.exmOne X.K k c0 = some true ∧ ∀ (a : Addr) (σ : L2.St) (H : Hp) (D : Ends), σ[i]? = some (some (.ref a)) → (∀ v, Is c (fun _ => False) H v r → D.rt v H) → ts a k none D σ H
section
variable {X : Cx} {c : Ct} {We : WX} {k i : Nat} {Ml M M' : Nat → Mo} {g : SF} {body suite : List Stmt} {b₀ : Stmt} {x n : Str} {c0 : Value} {np pos pos' : Pos} {h : Value → Option D}
theorem takesN {X : Cx} {W : WX} (t : Takes X W) : L2N.Takes X W := fun u s' ⟨a, B, sI, pins, σ, H, cls, d, e, I, nb, up, sky, na, os, ag, w⟩ => t u s' ⟨a, B, sI, pins, σ, H, cls, d, e, I, nb, up, sky.imp (fun ⟨q1, q2, q3, oe, vs, q4, q5, q6⟩ => ⟨q1, q2, q3, oe, vs, q4, q5.zc, q6⟩) (Or.imp (fun x => ⟨x.1, x.2.1, x.2.2.1, L2H.tracedZ_imp (fun o q => q.zc) x.2.2.2⟩) (fun x => ⟨x.1, x.2.1, x.2.2.1, L2H.tracedZ_imp (fun o q => q.zc) x.2.2.2⟩)), na, os, ag, w⟩
theorem takesNo {X : Cx} : Takes X (fun _ _ _ _ => False) := fun _ _ ⟨_, _, _, _, _, _, _, _, _, _, _, _, _, _, _, _, w⟩ => w.elim
theorem Cz.tr (z : Cz X c We k) {W : WX} {pn : List (Addr × Obj)} {xe : Value → Shared → Prop} (h1 : L2N.Takes (X.tr pn xe) W) (h2 : PassesOwn (model X.prog X.w) X.A X.env xe) : Cz (X.tr pn xe) c W k := ⟨z.K, z.calm, h1, z.hr, h2⟩
/-- one reading of the body, whatever is wished of its exceptions -/
def tBody (X : Cx) (P : WX → List (Addr × Obj) → (Value → Shared → Prop) → TS → Prop) (W : WX) : TS := fun D σ H => ∀ (pn : List (Addr × Obj)) (xe : Value → Shared → Prop), Takes (X.tr pn xe) W → PassesOwn (model X.prog X.w) X.A X.env xe → ∃ t, P W pn xe t ∧ t D σ H
theorem vs_tryA {rs : Sh} (z : Cz X c We k) (i : Nat) (hb : ∀ (W : WX) (pn : List (Addr × Obj)) (xe : Value → Shared → Prop), Cz (X.tr pn xe) c W k → VSs (X.tr pn xe) c W rs Ml M M' body g) (su : Su X c c0 i (b₀ :: suite) h) (hc : Names X x c0)
    (hN : X.N.Nodup) (hi : X.N[i]? = some n := by rfl) (hln : X.env.kindOf n = some .local := by rfl) (hst : X.stack = X.env :: X.outer := by rfl) (hfr : X.env.frame = some X.env.locals := by rfl) (hrs : rs = .fz ∨ rs = .m := by first | exact Or.inl rfl | exact Or.inr rfl) :
    VSt X c We rs Ml M M' (.Try body [.ExceptHandler (some (.Name x np)) (some n) (b₀ :: suite) pos'] [] [] pos) (sTry h i g) := by
  obtain ⟨ts, hsu, hread⟩ := su.ex
  refine ⟨_, ps_try_as (tb := tBody X fun W pn xe t => PSs (X.tr pn xe) body t) hst hfr hN hi hln hc takesNo (fun W pn xe h1 h2 => ⟨fun pins s σ H D I hw => ?_⟩) hsu, fun B σ H ρ D R po pn xe h1 h2 => ?_⟩
  · obtain ⟨t, ht, hd⟩ := hw pn xe h1 h2
    exact ht.run pins s σ H D I hd
  · obtain ⟨t, ht, hr⟩ := (hb _ pn xe (z.tr (takesN h1) h2)).ex
    refine ⟨t, ht, hr B σ H ρ D R ?_⟩
    unfold sTry at po
    cases hg : g ρ with
    | bad => rw [hg] at po; exact po.elim
    | exc kx => rw [hg] at po; exact po.elim
    | ok out =>
      rw [hg] at po
      cases out with
      | ex kx ρ' =>
        dsimp only at po
        cases hk : h kx with
        | none => rw [hk] at po; exact po.elim
        | some r =>
          rw [hk] at po
          obtain ⟨hi', po⟩ := Po.gd po
          rw [Bool.and_eq_true, decide_eq_true_eq] at hi'
          obtain ⟨hm, hrd⟩ := hread kx r hk
          rintro σ' H' M2 ⟨Fs, R'⟩
          refine ⟨true, hm, fun _ a _ => hrd a _ _ _ ?_ fun v hv => ?_, fun e => by cases e⟩
          · rw [List.getElem?_set_self (by rw [R'.len]; exact hi'.2)]
          · refine po v H' ⟨M2, Fs, σ', [], R', by simp, by simp, ?_⟩
            rcases hrs with rfl | rfl
            · exact ⟨rfl, hv.up fun _ z => z.elim⟩
            · exact .inl ⟨rfl, hi'.1, hv.up fun _ z => z.elim⟩
      | nx ρ' => exact po
      | rt d ρ' => exact po
      | bk ρ' => exact po
      | ct ρ' => exact po
theorem vs_setX1 {e : Expr} {y : XF} {rs : Sh} {m : Str} {p2 : Pos} (j : Nat) (h : VX X c M We e y) (hm : M j = .v 1) (hN : X.N.Nodup) (hi : X.N[j]? = some m := by rfl) (hx : L2.Loc X.env.scope m := by first | exact .inl rfl | exact .inr rfl) (hs : swapsWith e (some (.Name m p2)) pos.line X.env = pure false := by rfl)
    (hf : X.fn m = true ∨ X.env.scope.names.lookup m = some .local := by first | exact .inl rfl | exact .inr rfl) : VSt X c We rs Ml M M (.Assign [.Name m p2] e pos) (sSetX j y) := by
  obtain ⟨te, p, s⟩ := h.ex
  refine ⟨_, ps_set (i := j) hN hi hx p hs hf, fun B σ H ρ D R po => s B σ H ρ _ R ((Po.bind (r := y ρ) po).imp (fun r _ q => ?_) fun _ _ q H' hf => q σ H' hf)⟩
  cases r with
  | ex k ρ1 => exact fun H' R' => q σ H' M R'
  | v d ρ1 =>
    rintro v H' ⟨Fs, R'⟩ hv
    obtain ⟨hl, q⟩ := Po.gd q
    exact q _ H' (R'.setV hm (by decide) (of_decide_eq_true hl) (hv.up fun _ z => z.elim) (Same.refl H'))
/-! ### handlers -/
/-- what is told of an own error -/
structure WordK (K : PySem.W.Frag) (L : Addr) (C : Addr) : Prop where
  ec : ExcC K C
  m : PySem.W.exmOne K (.ref C) (.ref L) = some true
  v : PySem.W.kitOne K (.ref C) (.type "ValueError") = some true
def hWord (wf : Addr → Option Str) : Value → Option D := fun k => match k with
  | .ref C => (wf C).map .str
  | _ => none
def hMap (f : Str → D) (wf : Addr → Option Str) : Value → Option D := fun k => match k with
  | .ref C => (wf C).map f
  | _ => none
theorem hMap_some {f : Str → D} {wf : Addr → Option Str} {k : Value} {r : D} (h : hMap f wf k = some r) : ∃ C w, k = .ref C ∧ wf C = some w ∧ r = f w := by
  unfold hMap at h
  cases k with
  | ref C =>
    cases e : wf C with
    | none => simp [e] at h
    | some w =>
      simp [e] at h
      exact ⟨C, w, rfl, e, h.symm⟩
  | _ => cases h
theorem su_word {L : Addr} {y : Str} {wf : Addr → Option Str} {k' : Nat} {p1 p2 p3 : Pos} (z : Cz X c We k) (dw : Dw X.prog X.w X.K X.mg X.base k' y wf) (hk : k' ≤ k) (hw : ∀ C w, wf C = some w → PySem.W.exmOne X.K (.ref C) (.ref L) = some true) (hg : Gl X y := by rfl)
    (hN : X.N[i]? = some n := by rfl) (hv : Vis X.env.scope n := by first | exact Or.inl rfl | exact Or.inr (Or.inl rfl) | exact Or.inr (Or.inr rfl)) (hd : (n == ("__debug__" : Str)) = false := by decide) (hcd : (n == ("__classdict__" : Str)) = false := by decide) (hdb : (y == ("__debug__" : Str)) = false := by decide)
    (hs : starEach [.Name n p1] X.env = (false, eval (.Name n p1) X.env) :: starEach [] X.env := by rfl) (hpl : (backTo p2 (starEach [] X.env)).any (·.1) = false := by rfl) :
    Su X c (.ref L) i [.Return (some (.Call (.Name y p3) [.Name n p1] [] p2)) pos] (hMap .str wf) := by
  refine ⟨_, fun a oe cls d pn hz hf => pss_one (ps_ret (pe_word dw hk z.hr hz hf hg (pv i hN hv hd hcd) hdb hs hpl)), fun kx r hr => ?_⟩
  obtain ⟨C, w, rfl, hwc, rfl⟩ := hMap_some hr
  exact ⟨hw C w hwc, fun a σ H D hσ q => ⟨.ref a, hσ, _, rfl, rfl, rfl, C, w, rfl, hwc, q _ (.str w)⟩⟩
theorem su_wordEq {L : Addr} {y lit : Str} {j : Nat} {wf : Addr → Option Str} {k' : Nat} {p1 p2 p3 p4 p5 : Pos} (z : Cz X c We k) (dw : Dw X.prog X.w X.K X.mg X.base k' y wf) (hk : k' ≤ k) (hw : ∀ C w, wf C = some w → PySem.W.exmOne X.K (.ref C) (.ref L) = some true) (hg : Gl X y := by rfl)
    (hN : X.N[i]? = some n := by rfl) (hv : Vis X.env.scope n := by first | exact Or.inl rfl | exact Or.inr (Or.inl rfl) | exact Or.inr (Or.inr rfl)) (hd : (n == ("__debug__" : Str)) = false := by decide) (hcd : (n == ("__classdict__" : Str)) = false := by decide) (hdb : (y == ("__debug__" : Str)) = false := by decide)
    (hs : starEach [.Name n p1] X.env = (false, eval (.Name n p1) X.env) :: starEach [] X.env := by rfl) (hpl : (backTo p2 (starEach [] X.env)).any (·.1) = false := by rfl) :
    Su X c (.ref L) i [.Return (some (.Compare (.Call (.Name y p3) [.Name n p1] [] p2) [.Eq] [.Constant (.str lit) j p4] p5)) pos] (hMap (fun w => .bl (decide (w = lit))) wf) := by
  refine ⟨_, fun a oe cls d pn hz hf => pss_one (ps_ret (pe_cmpR (r := rEq) op_eq (pe_word dw hk z.hr hz hf hg (pv i hN hv hd hcd) hdb hs hpl) pe_str (nomark _))), fun kx r hr => ?_⟩
  obtain ⟨C, w, rfl, hwc, rfl⟩ := hMap_some hr
  exact ⟨hw C w hwc, fun a σ H D hσ q => ⟨.ref a, hσ, _, rfl, rfl, rfl, C, w, rfl, hwc, rfl, q _ (by rw [show decide (V.str w = V.str lit) = decide (w = lit) from by simp]; exact .bl _)⟩⟩
theorem su_isV {L : Addr} {wf : Addr → Option Str} {p1 p2 p3 p4 : Pos} (hw : ∀ C w, wf C = some w → WordK X.K L C) (hm : X.mg "isinstance" = none) (hmv : X.mg "ValueError" = none) (hg : Gl X "isinstance" := by rfl) (hgv : Gl X "ValueError" := by rfl)
    (hN : X.N[i]? = some n := by rfl) (hv : Vis X.env.scope n := by first | exact Or.inl rfl | exact Or.inr (Or.inl rfl) | exact Or.inr (Or.inr rfl)) (hd : (n == ("__debug__" : Str)) = false := by decide) (hcd : (n == ("__classdict__" : Str)) = false := by decide)
    (hs : starEach [.Name n p1, .Name "ValueError" p4] X.env = (false, eval (.Name n p1) X.env) :: starEach [.Name "ValueError" p4] X.env := by rfl) (hs1 : starEach [.Name "ValueError" p4] X.env = (false, eval (.Name "ValueError" p4) X.env) :: starEach [] X.env := by rfl)
    (hpl : (backTo p2 (starEach [.Name "ValueError" p4] X.env)).any (·.1) = false := by rfl) :
    Su X c (.ref L) i [.Return (some (.Call (.Name "isinstance" p3) [.Name n p1, .Name "ValueError" p4] [] p2)) pos] (hMap (fun _ => .bl true) wf) := by
  refine ⟨fun a cls d D σ H => d = none ∧ ∃ C w, cls = .ref C ∧ wf C = some w ∧ tRet (tCB (rIsE X.K C a) (tCons (tVar i) (tCons (tC (.ty "ValueError")) tNil))) D σ H, fun a oe cls d pn hz hf => pss_one ⟨fun pins s σ H D I hh => ?_⟩, fun kx r hr => ?_⟩
  · obtain ⟨rfl, C, w, rfl, hwc, ht⟩ := hh
    have p : PS (X.suite a ((a, oe) :: pn)) (.Return (some (.Call (.Name "isinstance" p3) [.Name n p1, .Name "ValueError" p4] [] p2)) pos) _ :=
      ps_ret (pe_callB (call_isP (X := X.suite a ((a, oe) :: pn)) List.mem_cons_self (hw C w hwc).ec hz hf) hg hm PyProof.Rows.boot_isinstance (pa_cons (pv i hN hv hd hcd) (pa_cons (pe_bltn (v := .ty "ValueError") hgv hmv (by decide +kernel) rfl (by decide) (by decide)) pa_nil hs1) hs) (by decide) (by decide) hs hpl)
    exact p.run pins s σ H D I ht
  · obtain ⟨C, w, rfl, hwc, rfl⟩ := hMap_some hr
    exact ⟨(hw C w hwc).m, fun a σ H D hσ q => ⟨rfl, C, w, rfl, hwc, .ref a, hσ, .ty "ValueError", .type "ValueError", true, rfl, fun u q => q, (hw C w hwc).v, q _ (.bl true)⟩⟩
end

/-! ### the own errors, and their words -/
class Exl extends Exs where
  word : Addr → Option Str
  wNoLand : word NoLand = some ("land" : Str)
  wNoHeight : word NoHeight = some ("height" : Str)
  wNoCell : word NoCell = some ("cell" : Str)
  wNoDrain : word NoDrain = some ("drain" : Str)
  wNoWay : word NoWay = some ("way" : Str)
  wNoRain : word NoRain = some ("rain" : Str)
  wall : ∀ C w, word C = some w → w = ("land" : Str) ∨ w = ("height" : Str) ∨ w = ("cell" : Str) ∨ w = ("drain" : Str) ∨ w = ("way" : Str) ∨ w = ("rain" : Str)
def wordB (b1 b2 b3 b4 b5 b6 : Bool) : Str := Txt.rstrip (if b6 = true then (if b5 = true then (if b4 = true then (if b3 = true then (if b2 = true then (if b1 = true then ("" : Str) ++ ("land " : Str) else ("" : Str)) ++ ("height " : Str) else (if b1 = true then ("" : Str) ++ ("land " : Str) else ("" : Str))) ++ ("cell " : Str) else (if b2 = true then (if b1 = true then ("" : Str) ++ ("land " : Str) else ("" : Str)) ++ ("height " : Str) else (if b1 = true then ("" : Str) ++ ("land " : Str) else ("" : Str)))) ++ ("drain " : Str) else (if b3 = true then (if b2 = true then (if b1 = true then ("" : Str) ++ ("land " : Str) else ("" : Str)) ++ ("height " : Str) else (if b1 = true then ("" : Str) ++ ("land " : Str) else ("" : Str))) ++ ("cell " : Str) else (if b2 = true then (if b1 = true then ("" : Str) ++ ("land " : Str) else ("" : Str)) ++ ("height " : Str) else (if b1 = true then ("" : Str) ++ ("land " : Str) else ("" : Str))))) ++ ("way " : Str) else (if b4 = true then (if b3 = true then (if b2 = true then (if b1 = true then ("" : Str) ++ ("land " : Str) else ("" : Str)) ++ ("height " : Str) else (if b1 = true then ("" : Str) ++ ("land " : Str) else ("" : Str))) ++ ("cell " : Str) else (if b2 = true then (if b1 = true then ("" : Str) ++ ("land " : Str) else ("" : Str)) ++ ("height " : Str) else (if b1 = true then ("" : Str) ++ ("land " : Str) else ("" : Str)))) ++ ("drain " : Str) else (if b3 = true then (if b2 = true then (if b1 = true then ("" : Str) ++ ("land " : Str) else ("" : Str)) ++ ("height " : Str) else (if b1 = true then ("" : Str) ++ ("land " : Str) else ("" : Str))) ++ ("cell " : Str) else (if b2 = true then (if b1 = true then ("" : Str) ++ ("land " : Str) else ("" : Str)) ++ ("height " : Str) else (if b1 = true then ("" : Str) ++ ("land " : Str) else ("" : Str)))))) ++ ("rain " : Str) else (if b5 = true then (if b4 = true then (if b3 = true then (if b2 = true then (if b1 = true then ("" : Str) ++ ("land " : Str) else ("" : Str)) ++ ("height " : Str) else (if b1 = true then ("" : Str) ++ ("land " : Str) else ("" : Str))) ++ ("cell " : Str) else (if b2 = true then (if b1 = true then ("" : Str) ++ ("land " : Str) else ("" : Str)) ++ ("height " : Str) else (if b1 = true then ("" : Str) ++ ("land " : Str) else ("" : Str)))) ++ ("drain " : Str) else (if b3 = true then (if b2 = true then (if b1 = true then ("" : Str) ++ ("land " : Str) else ("" : Str)) ++ ("height " : Str) else (if b1 = true then ("" : Str) ++ ("land " : Str) else ("" : Str))) ++ ("cell " : Str) else (if b2 = true then (if b1 = true then ("" : Str) ++ ("land " : Str) else ("" : Str)) ++ ("height " : Str) else (if b1 = true then ("" : Str) ++ ("land " : Str) else ("" : Str))))) ++ ("way " : Str) else (if b4 = true then (if b3 = true then (if b2 = true then (if b1 = true then ("" : Str) ++ ("land " : Str) else ("" : Str)) ++ ("height " : Str) else (if b1 = true then ("" : Str) ++ ("land " : Str) else ("" : Str))) ++ ("cell " : Str) else (if b2 = true then (if b1 = true then ("" : Str) ++ ("land " : Str) else ("" : Str)) ++ ("height " : Str) else (if b1 = true then ("" : Str) ++ ("land " : Str) else ("" : Str)))) ++ ("drain " : Str) else (if b3 = true then (if b2 = true then (if b1 = true then ("" : Str) ++ ("land " : Str) else ("" : Str)) ++ ("height " : Str) else (if b1 = true then ("" : Str) ++ ("land " : Str) else ("" : Str))) ++ ("cell " : Str) else (if b2 = true then (if b1 = true then ("" : Str) ++ ("land " : Str) else ("" : Str)) ++ ("height " : Str) else (if b1 = true then ("" : Str) ++ ("land " : Str) else ("" : Str)))))))
structure WordX [Exl] (K : PySem.W.Frag) (C : Addr) (r : Str) : Prop where
  k : WordK K Exs.LandError C
  ex : ∃ b1 b2 b3 b4 b5 b6 : Bool, PySem.W.kitOne K (.ref C) (.ref Exs.NoLand) = some b1 ∧ PySem.W.kitOne K (.ref C) (.ref Exs.NoHeight) = some b2 ∧ PySem.W.kitOne K (.ref C) (.ref Exs.NoCell) = some b3 ∧ PySem.W.kitOne K (.ref C) (.ref Exs.NoDrain) = some b4 ∧ PySem.W.kitOne K (.ref C) (.ref Exs.NoWay) = some b5 ∧ PySem.W.kitOne K (.ref C) (.ref Exs.NoRain) = some b6 ∧ wordB b1 b2 b3 b4 b5 b6 = r
/-- what the written part says of the error C -/
structure ErrF (K : PySem.W.Frag) (L e1 e2 e3 e4 e5 e6 C : Addr) (b1 b2 b3 b4 b5 b6 : Bool) : Prop where
  hg : PySem.W.findIn K (.ref C) "__getattribute__" = some (some (.builtin "BaseException.__getattribute__"))
  hk : PySem.W.findIn K (.ref C) "__getattr__" = some none
  hs : PySem.W.subIn K (.ref C) (.type "BaseException") = some true
  hd : PySem.W.hasDictIn K C = true
  ha : PySem.W.findIn K (.ref C) "__class__" = some (some (.builtin "object.__class__"))
  hn : PySem.W.specialIn K (.builtin "object.__class__") "__get__" = some (some (.builtin "getset_descriptor.__get__"))
  ht : PySem.W.takesIn K (.builtin "object.__class__") = some true
  hm : PySem.W.mroIn K C (.type "object") = some true
  t : PySem.W.typeIn K (.ref C) = some (.type "type")
  sL : PySem.W.subIn K (.ref C) (.ref L) = some true
  sV : PySem.W.subIn K (.ref C) (.type "ValueError") = some true
  s1 : PySem.W.subIn K (.ref C) (.ref e1) = some b1
  s2 : PySem.W.subIn K (.ref C) (.ref e2) = some b2
  s3 : PySem.W.subIn K (.ref C) (.ref e3) = some b3
  s4 : PySem.W.subIn K (.ref C) (.ref e4) = some b4
  s5 : PySem.W.subIn K (.ref C) (.ref e5) = some b5
  s6 : PySem.W.subIn K (.ref C) (.ref e6) = some b6
theorem kit_sub {K : PySem.W.Frag} {C E : Addr} {b : Bool} (hd : PySem.W.hasDictIn K E = true) (t : PySem.W.typeIn K (.ref E) = some (.type "type")) (s : PySem.W.subIn K (.ref C) (.ref E) = some b) (hb : C = E → b = true) : PySem.W.kitOne K (.ref C) (.ref E) = some b := by
  unfold PySem.W.kitOne
  by_cases h : C = E
  · subst h
    rw [if_pos (by simp), hb rfl]
  · rw [if_neg (by simpa using h)]
    have hc : (PySem.W.clsIn K E).isSome = true := by
      obtain ⟨cd, h1, _⟩ := PySem.W.any_some hd
      rw [h1]; rfl
    have e : ((PySem.W.clsIn K E).isSome && PySem.W.typeIn K (.ref E) == some (.type "type")) = true := by
      rw [hc, t]; rfl
    show (if ((PySem.W.clsIn K E).isSome && PySem.W.typeIn K (.ref E) == some (.type "type")) = true then PySem.W.subIn K (.ref C) (.ref E) else none) = some b
    rw [if_pos e]
    exact s
theorem kit_ve {K : PySem.W.Frag} {C : Addr} (s : PySem.W.subIn K (.ref C) (.type "ValueError") = some true) : PySem.W.kitOne K (.ref C) (.type "ValueError") = some true := by
  have e : PySem.W.kitMeta "ValueError" = true := by decide +kernel
  show (if (Value.ref C == Value.type "ValueError") = true then some true else (if PySem.W.kitMeta "ValueError" = true then PySem.W.subIn K (.ref C) (.type "ValueError") else none)) = some true
  rw [if_neg (by simp), if_pos e]
  exact s
@[reducible] def exl (L e1 e2 e3 e4 e5 e6 : Addr) (nd : [e1, e2, e3, e4, e5, e6].Nodup) : Exl where
  LandError := L
  NoLand := e1
  NoHeight := e2
  NoCell := e3
  NoDrain := e4
  NoWay := e5
  NoRain := e6
  word := fun a => if a = e1 then some ("land" : Str) else if a = e2 then some ("height" : Str) else if a = e3 then some ("cell" : Str) else if a = e4 then some ("drain" : Str) else if a = e5 then some ("way" : Str) else if a = e6 then some ("rain" : Str) else none
  wNoLand := by
    simp only [List.nodup_cons, List.mem_cons, List.not_mem_nil, or_false, not_or] at nd
    simp [nd, Ne.symm, eq_comm]
  wNoHeight := by
    simp only [List.nodup_cons, List.mem_cons, List.not_mem_nil, or_false, not_or] at nd
    simp [nd, Ne.symm, eq_comm]
  wNoCell := by
    simp only [List.nodup_cons, List.mem_cons, List.not_mem_nil, or_false, not_or] at nd
    simp [nd, Ne.symm, eq_comm]
  wNoDrain := by
    simp only [List.nodup_cons, List.mem_cons, List.not_mem_nil, or_false, not_or] at nd
    simp [nd, Ne.symm, eq_comm]
  wNoWay := by
    simp only [List.nodup_cons, List.mem_cons, List.not_mem_nil, or_false, not_or] at nd
    simp [nd, Ne.symm, eq_comm]
  wNoRain := by
    simp only [List.nodup_cons, List.mem_cons, List.not_mem_nil, or_false, not_or] at nd
    simp [nd, Ne.symm, eq_comm]
  wall := fun C w h => by
    have h : (if C = e1 then some ("land" : Str) else if C = e2 then some ("height" : Str) else if C = e3 then some ("cell" : Str) else if C = e4 then some ("drain" : Str) else if C = e5 then some ("way" : Str) else if C = e6 then some ("rain" : Str) else none) = some w := h
    repeat' split at h
    all_goals first | (cases h; simp) | cases h
theorem exl_word {K : PySem.W.Frag} {L e1 e2 e3 e4 e5 e6 : Addr} (nd : [e1, e2, e3, e4, e5, e6].Nodup) (bL : PySem.W.subIn K (.ref L) (.type "BaseException") = some true) (tL : PySem.W.typeIn K (.ref L) = some (.type "type")) (hdL : PySem.W.hasDictIn K L = true) (f1 : ErrF K L e1 e2 e3 e4 e5 e6 e1 true false false false false false) (f2 : ErrF K L e1 e2 e3 e4 e5 e6 e2 false true false false false false) (f3 : ErrF K L e1 e2 e3 e4 e5 e6 e3 false false true false false false) (f4 : ErrF K L e1 e2 e3 e4 e5 e6 e4 false false false true false false) (f5 : ErrF K L e1 e2 e3 e4 e5 e6 e5 false false false false true false) (f6 : ErrF K L e1 e2 e3 e4 e5 e6 e6 false false false false false true) :
    letI := exl L e1 e2 e3 e4 e5 e6 nd
    ∀ C r, Exl.word C = some r → WordX K C r := by
  intro C r h
  have ne : ∀ i j : Nat, ∀ x y : Addr, [e1, e2, e3, e4, e5, e6][i]? = some x → [e1, e2, e3, e4, e5, e6][j]? = some y → i ≠ j → x ≠ y := fun i j x y hx hy hij e => hij ((List.getElem?_inj (List.getElem?_eq_some_iff.mp hx).1 nd).mp (by rw [hx, hy, e]))
  have h2 : (if C = e1 then some ("land" : Str) else if C = e2 then some ("height" : Str) else if C = e3 then some ("cell" : Str) else if C = e4 then some ("drain" : Str) else if C = e5 then some ("way" : Str) else if C = e6 then some ("rain" : Str) else none) = some r := h
  clear h
  by_cases z1 : C = e1
  · rw [if_pos z1] at h2
    obtain rfl := Option.some.inj h2
    rw [z1]
    exact @WordX.mk (exl L _ _ _ _ _ _ nd) _ _ _ ⟨⟨f1.hg, f1.hk, f1.hs, f1.hd, f1.ha, f1.hn, f1.ht, f1.hm⟩, PySem.W.exm_ref bL hdL tL f1.sL, kit_ve f1.sV⟩ ⟨_, _, _, _, _, _, kit_sub f1.hd f1.t f1.s1 (fun _ => rfl), kit_sub f2.hd f2.t f1.s2 (fun z => absurd z (ne 0 1 _ _ rfl rfl (by decide))), kit_sub f3.hd f3.t f1.s3 (fun z => absurd z (ne 0 2 _ _ rfl rfl (by decide))), kit_sub f4.hd f4.t f1.s4 (fun z => absurd z (ne 0 3 _ _ rfl rfl (by decide))), kit_sub f5.hd f5.t f1.s5 (fun z => absurd z (ne 0 4 _ _ rfl rfl (by decide))), kit_sub f6.hd f6.t f1.s6 (fun z => absurd z (ne 0 5 _ _ rfl rfl (by decide))), by decide +kernel⟩
  rw [if_neg z1] at h2
  by_cases z2 : C = e2
  · rw [if_pos z2] at h2
    obtain rfl := Option.some.inj h2
    rw [z2]
    exact @WordX.mk (exl L _ _ _ _ _ _ nd) _ _ _ ⟨⟨f2.hg, f2.hk, f2.hs, f2.hd, f2.ha, f2.hn, f2.ht, f2.hm⟩, PySem.W.exm_ref bL hdL tL f2.sL, kit_ve f2.sV⟩ ⟨_, _, _, _, _, _, kit_sub f1.hd f1.t f2.s1 (fun z => absurd z (ne 1 0 _ _ rfl rfl (by decide))), kit_sub f2.hd f2.t f2.s2 (fun _ => rfl), kit_sub f3.hd f3.t f2.s3 (fun z => absurd z (ne 1 2 _ _ rfl rfl (by decide))), kit_sub f4.hd f4.t f2.s4 (fun z => absurd z (ne 1 3 _ _ rfl rfl (by decide))), kit_sub f5.hd f5.t f2.s5 (fun z => absurd z (ne 1 4 _ _ rfl rfl (by decide))), kit_sub f6.hd f6.t f2.s6 (fun z => absurd z (ne 1 5 _ _ rfl rfl (by decide))), by decide +kernel⟩
  rw [if_neg z2] at h2
  by_cases z3 : C = e3
  · rw [if_pos z3] at h2
    obtain rfl := Option.some.inj h2
    rw [z3]
    exact @WordX.mk (exl L _ _ _ _ _ _ nd) _ _ _ ⟨⟨f3.hg, f3.hk, f3.hs, f3.hd, f3.ha, f3.hn, f3.ht, f3.hm⟩, PySem.W.exm_ref bL hdL tL f3.sL, kit_ve f3.sV⟩ ⟨_, _, _, _, _, _, kit_sub f1.hd f1.t f3.s1 (fun z => absurd z (ne 2 0 _ _ rfl rfl (by decide))), kit_sub f2.hd f2.t f3.s2 (fun z => absurd z (ne 2 1 _ _ rfl rfl (by decide))), kit_sub f3.hd f3.t f3.s3 (fun _ => rfl), kit_sub f4.hd f4.t f3.s4 (fun z => absurd z (ne 2 3 _ _ rfl rfl (by decide))), kit_sub f5.hd f5.t f3.s5 (fun z => absurd z (ne 2 4 _ _ rfl rfl (by decide))), kit_sub f6.hd f6.t f3.s6 (fun z => absurd z (ne 2 5 _ _ rfl rfl (by decide))), by decide +kernel⟩
  rw [if_neg z3] at h2
  by_cases z4 : C = e4
  · rw [if_pos z4] at h2
    obtain rfl := Option.some.inj h2
    rw [z4]
    exact @WordX.mk (exl L _ _ _ _ _ _ nd) _ _ _ ⟨⟨f4.hg, f4.hk, f4.hs, f4.hd, f4.ha, f4.hn, f4.ht, f4.hm⟩, PySem.W.exm_ref bL hdL tL f4.sL, kit_ve f4.sV⟩ ⟨_, _, _, _, _, _, kit_sub f1.hd f1.t f4.s1 (fun z => absurd z (ne 3 0 _ _ rfl rfl (by decide))), kit_sub f2.hd f2.t f4.s2 (fun z => absurd z (ne 3 1 _ _ rfl rfl (by decide))), kit_sub f3.hd f3.t f4.s3 (fun z => absurd z (ne 3 2 _ _ rfl rfl (by decide))), kit_sub f4.hd f4.t f4.s4 (fun _ => rfl), kit_sub f5.hd f5.t f4.s5 (fun z => absurd z (ne 3 4 _ _ rfl rfl (by decide))), kit_sub f6.hd f6.t f4.s6 (fun z => absurd z (ne 3 5 _ _ rfl rfl (by decide))), by decide +kernel⟩
  rw [if_neg z4] at h2
  by_cases z5 : C = e5
  · rw [if_pos z5] at h2
    obtain rfl := Option.some.inj h2
    rw [z5]
    exact @WordX.mk (exl L _ _ _ _ _ _ nd) _ _ _ ⟨⟨f5.hg, f5.hk, f5.hs, f5.hd, f5.ha, f5.hn, f5.ht, f5.hm⟩, PySem.W.exm_ref bL hdL tL f5.sL, kit_ve f5.sV⟩ ⟨_, _, _, _, _, _, kit_sub f1.hd f1.t f5.s1 (fun z => absurd z (ne 4 0 _ _ rfl rfl (by decide))), kit_sub f2.hd f2.t f5.s2 (fun z => absurd z (ne 4 1 _ _ rfl rfl (by decide))), kit_sub f3.hd f3.t f5.s3 (fun z => absurd z (ne 4 2 _ _ rfl rfl (by decide))), kit_sub f4.hd f4.t f5.s4 (fun z => absurd z (ne 4 3 _ _ rfl rfl (by decide))), kit_sub f5.hd f5.t f5.s5 (fun _ => rfl), kit_sub f6.hd f6.t f5.s6 (fun z => absurd z (ne 4 5 _ _ rfl rfl (by decide))), by decide +kernel⟩
  rw [if_neg z5] at h2
  by_cases z6 : C = e6
  · rw [if_pos z6] at h2
    obtain rfl := Option.some.inj h2
    rw [z6]
    exact @WordX.mk (exl L _ _ _ _ _ _ nd) _ _ _ ⟨⟨f6.hg, f6.hk, f6.hs, f6.hd, f6.ha, f6.hn, f6.ht, f6.hm⟩, PySem.W.exm_ref bL hdL tL f6.sL, kit_ve f6.sV⟩ ⟨_, _, _, _, _, _, kit_sub f1.hd f1.t f6.s1 (fun z => absurd z (ne 5 0 _ _ rfl rfl (by decide))), kit_sub f2.hd f2.t f6.s2 (fun z => absurd z (ne 5 1 _ _ rfl rfl (by decide))), kit_sub f3.hd f3.t f6.s3 (fun z => absurd z (ne 5 2 _ _ rfl rfl (by decide))), kit_sub f4.hd f4.t f6.s4 (fun z => absurd z (ne 5 3 _ _ rfl rfl (by decide))), kit_sub f5.hd f5.t f6.s5 (fun z => absurd z (ne 5 4 _ _ rfl rfl (by decide))), kit_sub f6.hd f6.t f6.s6 (fun _ => rfl), by decide +kernel⟩
  rw [if_neg z6] at h2
  cases h2
end VS
set_option Elab.async false
set_option linter.all false
set_option maxRecDepth 100000
set_option maxHeartbeats 2000000
/-! VJ: what is an own list or never changes; reverse, max of a list. -/
namespace VS
open PySem L2
section
variable {X : Cx} {c : Ct} {M M' Ml : Nat → Mo} {We : WX} {al k : Nat} {e : Expr} {f : EF} {g : SF} {rs : Sh} {sts : List Stmt} {pos : Pos}
theorem Own.lm {W : Addr → Prop} {H : Hp} {v : V} {d : D} {F : List Addr} (h : Own c W H (.l .fz) v d F) : Own c W H .m v d F := by
  obtain ⟨a, xs, ds, Gs, e1, e2, h1, h2, e3⟩ := h
  have q := h2.ofFz
  rw [q.2] at e3
  exact .inr ⟨a, xs, ds, e1, e2, h1, q.1, e3⟩
theorem VO.toM (h : VO X c M We (.l .fz) e f) : VO X c M We .m e f := by
  obtain ⟨te, p, s⟩ := h.ex
  exact ⟨te, p, fun w σ H ρ Q sl po => s w σ H ρ Q sl (po.imp (fun d _ q v H' F hs hn nd ho => q v H' F hs hn nd ho.lm) fun _ _ q => q)⟩
theorem VE.toM (h : VE X c M We al e f) : VO X c M We .m e (eImm f) := by
  obtain ⟨te, p, s⟩ := h.ex
  refine ⟨te, p, fun w σ H ρ Q sl po => s w σ H ρ Q sl ((Po.bind po).imp (fun d _ q v H' hs hi => ?_) fun _ _ q => q)⟩
  obtain ⟨hd, q⟩ := Po.gd q
  exact q v H' [] hs (by simp) (by simp) (.inl ⟨rfl, hd, hi.imm (fun _ _ _ x => x) hd⟩)
/-- it is a list from here on -/
def sAsL (i : Nat) (g : SF) : SF := fun ρ => (eVar i ρ).bind fun x => (lstD x).bind fun _ => g ρ
theorem vss_asL (i : Nat) (hm : M i = .o .m) (h : VSs X c We rs Ml (fset M i (.o (.l .fz))) M' sts g) : VSs X c We rs Ml M M' sts (sAsL i g) := by
  obtain ⟨t, p, s'⟩ := h.ex
  refine ⟨t, p, fun B σ H ρ D R po => ?_⟩
  obtain ⟨ds, er, po⟩ := po_lst po
  refine s' B σ H ρ D ?_ po
  obtain ⟨Fs, R⟩ := R
  refine ⟨Fs, R.nd, R.dj, R.th, R.fr, R.out, fun j s hs a ha => ?_, R.old, fun j d e => ?_, fun q hq => ?_, R.len⟩
  · by_cases hj : j = i
    · rw [hj] at ha; exact R.own i _ hm a ha
    · rw [fset_ne hj] at hs; exact R.own j s hs a ha
  · obtain ⟨v, e1, e2⟩ := R.sl j d e
    refine ⟨v, e1, ?_⟩
    by_cases hj : j = i
    · subst hj
      rw [fset_self]
      rw [hm] at e2
      rw [er] at e
      cases e
      rcases e2 with ⟨_, hd, _⟩ | ⟨a, xs, ds', h1, h2, h3, h4, h5⟩
      · rw [imm_lst] at hd; cases hd
      · obtain ⟨Gs, g1, g2⟩ := h4.toP3
        exact ⟨a, xs, ds', Gs, h1, h2, h3, g1, by rw [h5, g2]⟩
    · rw [fset_ne hj]; exact e2
  · obtain ⟨h1, h2⟩ := R.mp q hq
    refine ⟨h1, ?_⟩
    rw [fset_ne (fun e => by rw [e, hm] at h2; cases h2)]
    exact h2
theorem IsA.reverse {W : Addr → Prop} {H : Hp} : ∀ {vs : List V} {ds : List D}, IsA c W H vs ds → IsA c W H vs.reverse ds.reverse
  | _, _, .nil => .nil
  | _, _, .cons h t => by
    rw [List.reverse_cons, List.reverse_cons]
    exact t.reverse.append (.cons h .nil)
def sRev (i : Nat) : SF := fun ρ => (eVar i ρ).bind fun x => (lstD x).bind fun l => .ok (.nx (ρ.set i (some (.lst l.reverse))))
/-- x.reverse(), x its own list -/
theorem vs_rev {x : Str} {p2 apos cpos : Pos} (i : Nat) (hm : M i = .o (.l .fz)) (hN : X.N[i]? = some x := by rfl) (hv : Vis X.env.scope x := by first | exact Or.inl rfl | exact Or.inr (Or.inl rfl) | exact Or.inr (Or.inr rfl)) (hd : (x == ("__debug__" : Str)) = false := by decide)
    (hcd : (x == ("__classdict__" : Str)) = false := by decide) (hbase : attributeBase (.Name x p2) "reverse" X.env (eval (.Name x p2) X.env) = eval (.Name x p2) X.env := by rfl) (hline : (apos.endLine == cpos.line) = true := by rfl)
    (hs : swapsWith (.Call (.Attribute (.Name x p2) "reverse" apos) [] [] cpos) none pos.line X.env = pure false := by rfl) :
    VSt X c We rs Ml M M (.Expr (.Call (.Attribute (.Name x p2) "reverse" apos) [] [] cpos) pos) (sRev i) := by
  refine ⟨_, ps_expr (pe_bm0 PySem.F.plainAttrs_list PySem.F.slot_list_reverse PySem.F.type_list_reverse mt_reverse (pv i hN hv hd hcd) hbase hline) hs, fun B σ H ρ D R po => ?_⟩
  obtain ⟨Fs, R⟩ := R
  obtain ⟨ds, er, po⟩ := po_lst po
  obtain ⟨p, xs, Gs, h1, hp, h3, eF, keep, put⟩ := R.lst hm er
  have e0 := h3.ofFz.2
  have sub : ∀ a, (wd B Fs).n a → (wd B (fset Fs i [p])).n a := fun a x => ⟨fun l z => by
    by_cases hl : l = i
    · rw [hl, fset_self] at z
      exact x.1 i (by rw [eF, e0]; exact z)
    · rw [fset_ne hl] at z; exact x.1 l z, x.2⟩
  have h4 := h3.imp fun v d G hG ho => keep H (.lst xs.reverse) (wd B (fset Fs i [p])).n v d G (Same.refl H) hG (fun a x _ => sub a x) ho
  obtain ⟨Gs', g1, g2⟩ := h4.ofFz.1.reverse.toP3
  refine ⟨_, h1, .inl ⟨rfl, xs, .of hp⟩, p, xs, rfl, rfl, hp, po _ _ ⟨_, put H xs.reverse ds.reverse Gs' (Same.refl H) ?_ ?_ ?_⟩⟩
  · rw [g2]; exact g1
  · rw [g2]; simp
  · rw [g2]; simp
/-! ### max of a list of whole numbers -/
def intsD : List D → Option (List Int)
  | [] => some []
  | .int i :: ds => (intsD ds).map (i :: ·)
  | _ => none
def maxI : Int → List Int → Int
  | m, [] => m
  | m, i :: is => maxI (if m < i then i else m) is
theorem maxI_ge : ∀ (is : List Int) (m : Int), m ≤ maxI m is ∧ ∀ y ∈ is, y ≤ maxI m is
  | [], m => ⟨Int.le_refl _, by simp⟩
  | i :: is, m => by
    obtain ⟨h1, h2⟩ := maxI_ge is (if m < i then i else m)
    refine ⟨?_, fun y hy => ?_⟩
    · refine Int.le_trans ?_ h1
      split <;> omega
    · rcases List.mem_cons.mp hy with e | e
      · subst e
        refine Int.le_trans ?_ h1
        split <;> omega
      · exact h2 y e
theorem maxI_mem : ∀ (is : List Int) (m : Int), maxI m is ∈ m :: is
  | [], m => by simp [maxI]
  | i :: is, m => by
    show maxI (if m < i then i else m) is ∈ m :: i :: is
    rcases List.mem_cons.mp (maxI_mem is (if m < i then i else m)) with h | h
    · rw [h]
      split <;> simp
    · simp [h]
theorem intsD_is {W : Addr → Prop} {H : Hp} : ∀ {xs : List V} {ds : List D} {ns : List Int}, IsA c W H xs ds → intsD ds = some ns → xs = ns.map V.int
  | _, [], _, .nil, h => by cases h; rfl
  | _, d :: ds, ns, .cons h t, e => by
    cases d with
    | int i =>
      cases e2 : intsD ds with
      | none => simp [intsD, e2] at e
      | some ms =>
        simp [intsD, e2] at e
        subst e
        rw [is_int h, intsD_is t e2]; rfl
    | _ => cases e
def maxLD : D → O D
  | .lst ds => match intsD ds with
    | some (i :: is) => .ok (.int (maxI i is))
    | _ => .bad
  | _ => .bad
theorem ve_maxL {p : Pos} (z : Cz X c We k) (h : VE X c M We al e f) (hg : Gl X "max") (hm : X.mg "max" = none) (hs : starEach [e] X.env = (false, eval e X.env) :: starEach [] X.env := by rfl) (hpl : (backTo pos (starEach [] X.env)).any (·.1) = false := by rfl) :
    VE X c M We 0 (.Call (.Name "max" p) [e] [] pos) (e1 maxLD f) := by
  obtain ⟨te, pe, s⟩ := h.ex
  refine ⟨_, pe_callB (cr_max z.calm) hg hm (by decide +kernel) (pa_cons pe pa_nil hs) (by decide) (by decide) hs hpl, fun w σ H ρ Q sl po => s w σ H ρ _ sl ((Po.bind po).imp (fun d _ q v H1 hs1 hi => ?_) fun _ _ q => q)⟩
  cases d with
  | lst l =>
    obtain ⟨a, xs, rfl, h1, h2⟩ := is_lst hi
    cases e2 : intsD l with
    | none => simp only [maxLD, e2] at q; exact q.elim
    | some ns =>
      cases ns with
      | nil => simp only [maxLD, e2] at q; exact q.elim
      | cons i is =>
        simp only [maxLD, e2] at q
        refine ⟨a, i :: is, rfl, by rw [z.K, ← intsD_is h2 e2]; exact h1, by simp, fun m hm hy => ?_⟩
        have e3 : m = maxI i is := by
          obtain ⟨g1, g2⟩ := maxI_ge is i
          refine Int.le_antisymm ?_ (hy _ (maxI_mem is i))
          rcases List.mem_cons.mp hm with e | e
          · rw [e]; exact g1
          · exact g2 m e
        rw [e3]
        exact q _ H1 hs1 (.int _)
  | _ => exact q.elim
end
/-! ### list + list, list * int -/
section
open PySem.Spec PyProof.Rows
def rCatL (K : PySem.W.Frag) : R2 := fun x y H Q => ∃ l b xs zs, x = .ref l ∧ y = .ref b ∧ SqL K H l xs ∧ SqL K H b zs ∧ xs.length + zs.length ≤ sizeLine ∧ ∀ p, H p = none → Q (.ref p) (upd H p (.lst (xs ++ zs)))
theorem op_catL {X : Cx} : OpR X (binaryOp .Add) (rCatL X.K) := by
  intro pins s σ H x y v u Q I rx ry h
  obtain ⟨l, b, xs, zs, rfl, rfl, hH, hB, hz, q⟩ := h
  cases rx
  cases ry
  obtain ⟨its, r, hl, _⟩ := I.list hH
  obtain ⟨its2, r2, hb, _⟩ := I.list hB
  obtain ⟨⟨cls, dd, data, sl⟩, n, ho, hc, hdd, hd⟩ := hl
  obtain ⟨⟨cls2, dd2, data2, sl2⟩, n2, ho2, hc2, hdd2, hd2⟩ := hb
  simp only at hc hd hc2 hd2
  subst hc hd hc2 hd2
  have e1 := r.length
  have e2 := r2.length
  have ea : its.toArray ++ its2.toArray = (its ++ its2).toArray := by simp
  refine PySem.concat_meets ⟨_, ho, rfl⟩ ⟨_, ho2, rfl⟩ PySem.noFill_list_add PySem.seq_list_add PySem.F.slot_list_add PySem.F.entry_list_add (PySem.F.args_list_add_2 _ _) (PyProof.Rows.list_addW l b its.toArray its2.toArray n n2 dd dd2 sl sl2 (by rw [List.size_toArray, List.size_toArray]; omega)) ⟨ho, ho2, ?_⟩
  rw [ea]
  exact ⟨.ref _, _, I.lnew (t' := s.toks) (r.append r2) (by rw [List.length_append]; omega), rfl, q _ I.fresh⟩
end
section
variable {X : Cx} {c : Ct} {M M' Ml : Nat → Mo} {We : WX} {al al' k i : Nat} {e a b : Expr} {es : List Expr} {f fa fb : EF} {fs : AF} {g : SF} {rs : Sh} {sts : List Stmt} {pos pos' : Pos}
def catD : D → D → O D
  | .lst xs, .lst ys => gd (decide (xs.length + ys.length ≤ 100000)) (.ok (.lst (xs ++ ys)))
  | _, _ => .bad
/-- a list whose items may stand in a new one -/
structure VLs (X : Cx) (c : Ct) (M : Nat → Mo) (We : WX) (e : Expr) (f : EF) : Prop where
  ex : ∃ te, PE X e te ∧ ∀ (w : Wd) (σ : L2.St) (H : Hp) (ρ : Rho) (Q : VK), Sl c M w H σ ρ →
    Po (f ρ) (fun d => ∀ v H', Same H H' → (∀ l, d = .lst l → ∃ a xs, v = .ref a ∧ SqL c.K H' a xs ∧ IsA c (NW w 0 H) H' xs l ∧ ∀ H'', Same H' H'' → SqL c.K H'' a xs) → Q v H') (fun k => ∀ H', Same H H' → We k none σ H') → te σ H Q
theorem VE.toLs (h : VE X c M We 0 e f) : VLs X c M We e f := by
  obtain ⟨te, p, s⟩ := h.ex
  refine ⟨te, p, fun w σ H ρ Q sl po => s w σ H ρ Q sl (po.imp (fun d _ q v H' hs hi => q v H' hs fun l e => ?_) fun _ _ q => q)⟩
  subst e
  obtain ⟨a, xs0, rfl, _, _⟩ := is_lst hi
  obtain ⟨xs, h1, h2, h3⟩ := sq_list (xs := xs0) hi
  exact ⟨a, xs, rfl, h2, h1, fun H'' hs2 => h3 H'' fun a o _ e => hs2 a o e⟩
def eImmL (f : EF) : EF := fun ρ => (f ρ).bind fun d => (lstD d).bind fun l => gd (VS.immA l) (.ok (.lst l))
theorem VE.toLsI (h : VE X c M We al e f) : VLs X c M We e (eImmL f) := by
  obtain ⟨te, p, s⟩ := h.ex
  refine ⟨te, p, fun w σ H ρ Q sl po => s w σ H ρ Q sl ((Po.bind po).imp (fun d _ q v H' hs hi => ?_) fun _ _ q => q)⟩
  cases d with
  | lst l =>
    obtain ⟨him, q⟩ := Po.gd (b := VS.immA l) (x := O.ok (D.lst l)) q
    refine q v H' hs fun l' e => ?_
    cases e
    obtain ⟨a, xs0, rfl, _, _⟩ := is_lst hi
    obtain ⟨xs, h1, h2, h3⟩ := sq_list (xs := xs0) hi
    exact ⟨a, xs, rfl, h2, h1.immA him, fun H'' hs2 => h3 H'' fun a o _ e => hs2 a o e⟩
  | _ => exact q.elim
theorem vo_cat (z : Cz X c We k) (ha : VLs X c M We a fa) (hb : VLs X c M We b fb) : VO X c M We (.l .fz) (.BinOp a .Add b pos) (e2 catD fa fb) := by
  obtain ⟨ta, pa, sa⟩ := ha.ex
  obtain ⟨tb, pb, sb⟩ := hb.ex
  refine ⟨_, pe_op op_catL pa pb, fun w σ H ρ Q sl po => sa w σ H ρ _ sl ((Po.bind po).imp (fun d _ q v H1 hs1 hi1 => ?_) fun _ _ q => q)⟩
  refine sb w σ H1 ρ _ (sl.same hs1) ((Po.bind q).imp (fun d2 _ q v2 H2 hs2 hi2 => ?_) fun _ _ q H2 hs2 => q H2 (hs1.trans hs2))
  cases d with
  | lst l =>
    cases d2 with
    | lst l2 =>
      obtain ⟨hz, q⟩ := Po.gd q
      obtain ⟨p1, xs, rfl, h1, h2, h1'⟩ := hi1 l rfl
      obtain ⟨p2, ys, rfl, h3, h4, _⟩ := hi2 l2 rfl
      have h2 := h2.same hs2
      have h4' : IsA c (NW w 0 H) H2 ys l2 := h4.up (NW.back hs1)
      refine ⟨p1, p2, xs, ys, rfl, rfl, by rw [z.K]; exact h1' H2 hs2, by rw [z.K]; exact h3, Nat.le_trans (by rw [h2.length, h4.length]; exact of_decide_eq_true hz) (by decide : 100000 ≤ sizeLine), fun p hp => ?_⟩
      have hs := hs1.trans hs2
      have hi : IsA c (NW w 0 H) H2 (xs ++ ys) (l ++ l2) := h2.append h4'
      refine q _ _ [p] (same_new hs hp) (fun a ha => ?_) (by simp) ?_
      · have e : a = p := by simpa using ha
        rw [e]; exact hs.free hp
      · have hi3 : IsA c (fun a => NW w 0 H a ∧ a ∉ [p]) (upd H2 p (.lst (xs ++ ys))) (xs ++ ys) (l ++ l2) := (hi.track.up fun a x => ⟨x.1, fun z => x.2 (by have e : a = p := (by simpa using z); rw [e]; exact hp)⟩).same (same_new (Same.refl _) hp)
        obtain ⟨Gs, g1, g2⟩ := hi3.toP3
        exact ⟨p, _, _, Gs, rfl, rfl, upd_same, g1, by rw [g2]⟩
    | _ => exact q.elim
  | _ => cases d2 <;> exact q.elim
/-! ### a tuple that begins with an own list -/
def eTupL (f : EF) (fs : AF) : EF := fun ρ => (f ρ).bind fun d => (fs ρ).bind fun es => gd (VS.immA es && decide (es.length < 100000)) (.ok (.tup (d :: es)))
theorem vo_tupL {x1} (h : VO X c M We (.l .fz) e f) (t : VA X c M We al es fs) (hs : starEach (e :: es) X.env = (false, eval e X.env) :: starEach es X.env := by rfl) : VO X c M We .tl (.Tuple (e :: es) x1 pos) (eTupL f fs) := by
  obtain ⟨te, p, s⟩ := h.ex
  obtain ⟨ta, p', s'⟩ := t.ex
  refine ⟨_, pe_tup (pa_cons p p' hs), fun w σ H ρ Q sl po => ?_⟩
  refine s w σ H ρ _ sl ((Po.bind po).imp (fun d _ q v H1 F hs1 hn nd ho => ?_) fun _ _ q => q)
  obtain ⟨a, xs, ds, Gs, rfl, rfl, ha, h3, eF⟩ := ho
  obtain ⟨h4, h5⟩ := h3.ofFz
  rw [h5] at eF
  subst eF
  refine s' w σ H1 ρ _ (sl.same hs1) ((Po.bind q).imp (fun es' _ q vs H2 hs2 hi2 => ?_) fun _ _ q H2 hs2 => q H2 (hs1.trans hs2))
  obtain ⟨hd, q⟩ := Po.gd q
  rw [Bool.and_eq_true, decide_eq_true_eq] at hd
  have hs12 := hs1.trans hs2
  refine ⟨sz_ok (by rw [List.length_cons, hi2.length]; omega), fun t ht => ?_⟩
  have hna : H a = none := hn a (by simp)
  have h2t : ∀ o, H2 a = some o → a ≠ t := fun o e z => by rw [z, ht] at e; cases e
  refine q _ _ [a] (same_new hs12 ht) (fun x hx => by rw [List.mem_singleton.mp hx]; exact hna) (by simp) ⟨t, a, xs, ds, vs, es', rfl, rfl, upd_same, ?_, ?_, ?_, rfl⟩
  · rw [upd_ne (h2t _ (hs2 _ _ ha))]; exact hs2 _ _ ha
  · exact (h4.same hs2).same (same_new (Same.refl _) ht)
  · exact (hi2.immA hd.1).same (same_new (Same.refl _) ht)
/-- its list -/
theorem vo_tl0 {j : Nat} {p2 : Pos} (h : VO X c M We .tl e f) (hs : PlainIx (.Constant (.int 0) j p2) := by exact fun _ _ => rfl) : VO X c M We (.l .fz) (.Subscript e (.Constant (.int 0) j p2) pos) (e2 ixD f (eC (.int 0))) := by
  obtain ⟨te, p, s⟩ := h.ex
  refine ⟨_, pe_ix ix_tup p pe_int hs, fun w σ H ρ Q sl po => s w σ H ρ _ sl ((Po.bind po).imp (fun d _ q v H1 F hs1 hn nd ho => ?_) fun _ _ q => q)⟩
  obtain ⟨t, a, xs, ds, vs, es, rfl, rfl, h0, h1, h2, h3, rfl⟩ := ho
  have hat : atI (V.ref a :: vs) 0 = some (V.ref a) := by unfold L2.atI L2.ixN; simp
  refine ⟨t, _, 0, .ref a, rfl, rfl, .of h0, hat, ?_⟩
  have q : Po (ixD (.tup (.lst ds :: es)) (.int 0)) _ _ := q
  have hx : ixD (.tup (.lst ds :: es)) (.int 0) = .ok (.lst ds) := by
    show ofO (atI (D.lst ds :: es) 0) = _
    unfold L2.atI L2.ixN
    simp
  rw [hx] at q
  obtain ⟨Gs, g1, g2⟩ := h2.toP3
  exact q _ H1 [a] hs1 hn nd ⟨a, xs, ds, Gs, rfl, rfl, h1, g1, by rw [g2]⟩
def gTl (i : Nat) : Rho → O (List D) := fun ρ => (eVar i ρ).bind fun d => match d with
  | .tup (.lst l :: es) => gd (VS.immA l && VS.immA es) (.ok l)
  | _ => .bad
def pTl (i : Nat) : Rho → List D → Option D := fun ρ l => match eVar i ρ with
  | .ok (.tup (_ :: es)) => some (.tup (.lst l :: es))
  | _ => none
theorem vl_tl {n : Str} {j : Nat} {p2 : Pos} (i : Nat) (hm : M i = .o .tl) (hN : X.N[i]? = some n := by rfl) (hv : Vis X.env.scope n := by first | exact Or.inl rfl | exact Or.inr (Or.inl rfl) | exact Or.inr (Or.inr rfl)) (hd : (n == ("__debug__" : Str)) = false := by decide)
    (hcd : (n == ("__classdict__" : Str)) = false := by decide) (hs : PlainIx (.Constant (.int 0) j p2) := by exact fun _ _ => rfl) : VLoc X c M We i (.Subscript (.Name n pos) (.Constant (.int 0) j p2) pos') (gTl i) (pTl i) := by
  refine ⟨_, pe_ix ix_tup (pv i hN hv hd hcd) pe_int hs, fun B Fs σ H ρ Q R po => ?_⟩
  obtain ⟨d, er, po⟩ := po_var (i := i) (ρ := ρ) (f := fun d => match d with
    | .tup (.lst l :: es) => gd (VS.immA l && VS.immA es) (.ok l)
    | _ => .bad) po
  obtain ⟨v, Wm, e1, ho, nd, hW, hth, put⟩ := R.mut (.inl hm) er
  obtain ⟨t, a, xs, ds, vs, es, rfl, rfl, h0, h1, h2, h3, eF⟩ := ho
  obtain ⟨hi, po⟩ := Po.gd po
  rw [Bool.and_eq_true] at hi
  have hat : atI (V.ref a :: vs) 0 = some (V.ref a) := by unfold L2.atI L2.ixN; simp
  refine ⟨_, e1, t, _, 0, .ref a, rfl, rfl, .of h0, hat, po a xs H (Same.refl H) h1 (h2.immA hi.1) fun H1 xs' l' d' hs hi' ed => ?_⟩
  have ev : eVar i ρ = .ok (.tup (.lst ds :: es)) := by unfold eVar; rw [er]
  have ed : some (D.tup (.lst l' :: es)) = some d' := by
    have := ed
    unfold pTl at this
    rw [ev] at this
    exact this
  cases ed
  have ha1 := hs _ _ h1
  have ht1 := hs _ _ h0
  have hta : t ≠ a := fun z => by rw [z, h1] at h0; cases h0
  refine put _ _ [a] (fun b o hb eb => ?_) (fun b eb => ?_) (by simp) (fun b hb => .inl (by rw [eF]; exact hb)) ⟨t, a, xs', l', vs, es, rfl, rfl, ?_, upd_same, ?_, ?_, rfl⟩
  · rw [upd_ne (fun z => hb (by rw [eF, z]; simp))]; exact hs b o eb
  · by_cases h : b = a
    · rw [h, upd_same] at eb; cases eb
    · rw [upd_ne h] at eb; exact hs.free eb
  · rw [upd_ne hta]; exact ht1
  · exact hi'.stay (upd_sta (xs' := xs') ha1)
  · exact ((h3.immA (W' := fun _ => False) hi.2).same hs).stay (upd_sta (xs' := xs') ha1)
/-! ### for x in a list that a slot owns: if t: return e -/
def sForI (fi : AF) (h : D → Rho → O Rho) (g : SF) : SF := fun ρ => (fi ρ).bind fun ds => gd (VS.immA ds) (sFor.go h g ds ρ)
theorem immA_at : ∀ {ds : List D} {i : Nat} {d : D}, VS.immA ds = true → ds[i]? = some d → d.imm = true
  | [], i, d, _, e => by simp at e
  | x :: xs, 0, d, h, e => by
    simp at e; subst e
    rw [immA_cons, Bool.and_eq_true] at h
    exact h.1
  | x :: xs, i + 1, d, h, e => by
    rw [immA_cons, Bool.and_eq_true] at h
    exact immA_at (i := i) h.2 (by simpa using e)
theorem vs_forT {tg it cnd ee : Expr} {h : D → Rho → O Rho} {t : TF} {fe : EF} {fi : AF} {p1 p2 : Pos} (z : Cz X c We k) (hi : VI X c M We al tg it fi) (hg : VG X c M 0 tg h) (hc : VT X c M We cnd t) (hr : VO X c M We rs ee fe) (hfs : ∀ x, foldedSetIterable it X.env x = pure x := by intro _; rfl) :
    VSt X c We rs Ml M M (.For tg it [.If cnd [.Return (some ee) p1] [] p2] [] pos) (sForI fi h (sIf t (sRet fe) sNx)) := by
  obtain ⟨wi, p, s⟩ := hi.ex
  obtain ⟨gg, pg, sg⟩ := hg.ex
  obtain ⟨tt, pt, stt⟩ := hc.ex
  obtain ⟨te, pe, se⟩ := hr.ex
  refine ⟨_, ps_for z.po z.calm p pg (pss_one (ps_if pt (pss_one (ps_ret pe)) pss_nil)) hfs, fun B σ H ρ D R po => ?_⟩
  obtain ⟨Fs, R⟩ := R
  refine s _ σ H ρ _ R.slots ((Po.exc_up R (Po.bind po)).imp (fun ds _ q J G Y H' hs wk hG hy => ?_) fun _ _ q => q)
  obtain ⟨him, q⟩ := Po.gd q
  have kp : ∀ {W : Addr → Prop} {Hi : Hp}, Same H' Hi → Kp W H' Hi := fun hsi a o _ e => hsi a o e
  refine for_it wk (fun i σ Hi => Same H' Hi ∧ ∃ ρi, Rel c M B Hi σ ρi ∧ PoS c Ml M B rs We (sFor.go h (sIf t (sRet fe) sNx) (ds.drop i) ρi) D) ⟨Same.refl _, ρ, ⟨Fs, R.same hs⟩, by rw [List.drop_zero]; exact q⟩ (fun i σi Hi _ ⟨hsi, _⟩ => hG Hi (kp hsi)) ?_ ?_
  · rintro i x σi Hi Hi' hlt ⟨hsi, ρi, ⟨Fi, Ri⟩, qi⟩ hY
    obtain ⟨st, d, ed, isd⟩ := hy i Hi x Hi' hlt (kp hsi) hY
    have ed2 : ds.drop i = d :: ds.drop (i + 1) := by
      obtain ⟨h1, h2⟩ := List.getElem?_eq_some_iff.mp ed
      rw [List.drop_eq_getElem_cons h1, h2]
    rw [ed2] at qi
    have Ri' := Ri.same st
    have qi := Po.bind qi
    refine sg B Fi Hi' σi ρi x d _ Ri' ((isd (fun _ => True) fun _ _ _ => trivial).imm (fun _ _ _ y => y) (immA_at him ed)) (qi.imp (fun ρ1 _ q1 σ2 R2 => ?_) fun _ _ _ => trivial)
    obtain ⟨F2, R2⟩ := R2
    have q1 := Po.bind q1
    have q1 : Po ((t ρ1).bind fun b => if b = true then sRet fe ρ1 else sNx ρ1) _ _ := q1
    refine stt _ σ2 Hi' ρ1 _ R2.slots ((Po.exc_up R2 (Po.bind q1)).imp (fun b _ q2 H2 hs2 => ?_) fun _ _ q => q)
    cases b with
    | false => exact iteF ⟨hsi.trans (st.trans hs2), ρ1, ⟨F2, R2.same hs2⟩, q2⟩
    | true =>
      have q2 : Po ((fe ρ1).bind fun d => O.ok (Out.rt d ρ1)) _ _ := q2
      have R3 := R2.same hs2
      refine iteT (se _ σ2 H2 ρ1 _ R3.slots ((Po.exc_up R3 (Po.bind q2)).imp (fun d2 _ q3 v H3 F hs3 hn nd ho => ?_) fun _ _ q => q))
      refine q3 v H3 ⟨M, F2, σ2, F, R3.same hs3, nd, fun a ha => ⟨R3.old a (hn a ha), R3.newNot (hn a ha)⟩, ho.mono (fun a x => ?_) fun a o _ e => e⟩
      rcases x.1 with y | y
      · exact ⟨y.2, y.1, x.2⟩
      · exact ⟨R3.old a y, R3.newNot y, x.2⟩
  · rintro σi Hi ⟨hsi, ρi, Ri, qi⟩
    rw [List.drop_length] at qi
    exact qi σi Hi Ri
end
end VS
set_option Elab.async false
set_option linter.all false
set_option maxRecDepth 100000
set_option maxHeartbeats 2000000
/-! VP: list.remove of data. -/
namespace VS
open PySem L2
section
open PySem.Spec PyProof.Rows PySem.SeqAt
def rRemD (K : PySem.W.Frag) : V → List V → Hp → VK → Prop := fun x vs H Q => ∃ (l : Addr) (xs : List V) (y : V) (ds : List PyData) (d : PyData) (j : Nat), x = .ref l ∧ vs = [y] ∧ H l = some (.lst xs) ∧ DpAll K H xs ds ∧ Dp K H y d ∧ PyData.plainAll ds = true ∧ d.plain = true ∧ d.depth ≤ 60 ∧ dataPlace ds d = some j ∧ Q .non (upd H l (.lst (xs.eraseIdx j)))
theorem mt_removeD {X : Cx} (hu : X.A.units + 64 < cLine) : MtM X "list.remove" (rRemD X.K) := by
  intro pins s σ H x vs v us Q I rx rv h
  obtain ⟨l, xs, y, ds, d, j, rfl, rfl, hH, hds, hd, h1, h2, h3, hp, q⟩ := h
  cases rx
  obtain ⟨u, rfl, ru⟩ := rv.one
  obtain ⟨z, its, n, r, hl, e⟩ := I.lstM hH
  obtain ⟨as, r1⟩ := Dp.readsAll I ds xs its hds r
  obtain ⟨bs, r2⟩ := Dp.reads I d y u hd ru
  have hlen := len_at (vs := its.toArray) (by simpa using r1)
  have hj : j < ds.length := (List.findIdx?_eq_some_iff_getElem.mp hp).1
  refine remove_list_data (vs := its.toArray) ⟨_, e, rfl, n, rfl⟩ (by simpa using r1) r2 h1 h2 ?_ hp (by rw [List.size_toArray]; omega) ?_
  · have : min (PyData.depthAll ds) d.depth ≤ 60 := Nat.le_trans (Nat.min_le_right _ _) h3
    omega
  · refine ⟨.non, _, I.lset (its' := its.eraseIdx j) hH e ?_ (r.eraseIdx j) ?_, rfl, q⟩
    · show its.toArray.eraseIdxIfInBounds j = (its.eraseIdx j).toArray
      rw [List.eraseIdxIfInBounds_toArray]
    · have := List.length_eraseIdx_le xs j
      omega
end
section
variable {X : Cx} {c : Ct} {M M' Ml : Nat → Mo} {We : WX} {al al' k i : Nat} {e o : Expr} {f : EF} {g : Rho → O (List D)} {p : Rho → List D → Option D} {rs : Sh} {pos apos cpos : Pos}
def sRemL (i : Nat) (g : Rho → O (List D)) (p : Rho → List D → Option D) (fv : EF) : SF := fun ρ => (g ρ).bind fun l => (fv ρ).bind fun d => gd (d.imm && PyData.canLayAll0 (toPyA l) && (toPy d).canLay0 && decide ((toPy d).depth ≤ 60)) ((ofO (PySem.SeqAt.dataPlace (toPyA l) (toPy d))).bind fun j => (ofO (p ρ (l.eraseIdx j))).bind fun d' => .ok (.nx (ρ.set i (some d'))))
theorem IsA.eraseIdx {W : Addr → Prop} {H : Hp} : ∀ {vs : List V} {ds : List D} (j : Nat), IsA c W H vs ds → IsA c W H (vs.eraseIdx j) (ds.eraseIdx j)
  | _, _, _, .nil => .nil
  | _, _, 0, .cons _ t => t
  | _, _, j + 1, .cons h t => .cons h (IsA.eraseIdx j t)
theorem vs_removeL (z : Cz X c We k) (hl : VLoc X c M We i o g p) (hv : VE X c M We al e f) (hbase : attributeBase o "remove" X.env (eval o X.env) = eval o X.env := by rfl)
    (hfew : ((backTo cpos (starEach (e :: []) X.env)).all (fun x => !x.1) && (backToKw cpos (keywordEach [] X.env)).all (fun x => x.1.isSome) && decide ((e :: []).length + ([] : List Keyword).length + (if ([] : List Keyword).isEmpty then 0 else 1) < 30)) = true := by rfl)
    (hline : (apos.endLine == cpos.line) = true := by rfl) (he : starEach (e :: []) X.env = (false, eval e X.env) :: starEach [] X.env := by rfl) (hpl : (backTo cpos (starEach [] X.env)).any (·.1) = false := by rfl)
    (hs : swapsWith (.Call (.Attribute o "remove" apos) [e] [] cpos) none pos.line X.env = pure false := by rfl) :
    VSt X c We rs Ml M M (.Expr (.Call (.Attribute o "remove" apos) [e] [] cpos) pos) (sRemL i g p f) := by
  obtain ⟨tl, pl, sl⟩ := hl.ex
  obtain ⟨te, pe, se⟩ := hv.ex
  refine ⟨_, ps_expr (pe_bm PySem.F.plainAttrs_list PySem.F.slot_list_remove PySem.F.type_list_remove (mt_removeD z.hr.units) pl (pa_cons pe pa_nil he) hbase hfew hline he hpl) hs, fun B σ H ρ D R po => ?_⟩
  obtain ⟨Fs, R⟩ := R
  refine sl B Fs σ H ρ _ R ((Po.exc_up R (Po.bind po)).imp (fun l _ q a xs H1 hs1 ea hxs upd' => ?_) fun _ _ q => q)
  have R1 := R.same hs1
  refine ⟨.inl ⟨rfl, xs, .of ea⟩, se _ σ H1 ρ _ R1.slots ((Po.exc_up R1 (Po.bind q)).imp (fun d _ q v H2 hs2 hi => ?_) fun _ _ q => q)⟩
  obtain ⟨hd, q⟩ := Po.gd q
  rw [Bool.and_eq_true, Bool.and_eq_true, Bool.and_eq_true, decide_eq_true_eq] at hd
  obtain ⟨⟨⟨h1, h2⟩, h3⟩, h4⟩ := hd
  obtain ⟨j, hj, q⟩ := Po.ofO (Po.bind (r := ofO (PySem.SeqAt.dataPlace (toPyA l) (toPy d))) q)
  obtain ⟨d', hp, q⟩ := Po.ofO (Po.bind (r := ofO (p ρ (l.eraseIdx j))) q)
  have hxs2 := hxs.same hs2
  exact ⟨a, xs, v, toPyA l, toPy d, j, rfl, rfl, hs2 _ _ ea, by rw [z.K]; exact hxs2.dp h2, by rw [z.K]; exact hi.dp h3, PySem.PyData.plainAll_of_canLay0 _ h2, PySem.PyData.plain_of_canLay0 _ h3, h4, hj, q σ _ (upd' H2 _ _ d' hs2 (hxs2.eraseIdx j) hp)⟩
end
end VS
set_option Elab.async false
set_option linter.all false
set_option maxRecDepth 100000
set_option maxHeartbeats 2000000
/-! VX: except X: return; rows cleared in a loop. -/
namespace VS
open PySem L2
section
variable {X : Cx} {c : Ct} {We : WX} {k i j : Nat} {rs : Sh} {Ml M M' : Nat → Mo} {g : SF} {body : List Stmt} {x y n : Str} {c0 : Value} {np pos pos' rp : Pos}
/-- .. except A: return -/
def sTryO (A : Addr) (g : SF) : SF := fun ρ => match g ρ with
  | .bad => .bad
  | .exc _ => .bad
  | .ok (.ex k ρ') => match k with
    | .ref C => if C = A then .ok (.rt .non ρ') else .bad
    | _ => .bad
  | .ok o => .ok o
theorem vs_tryO {A : Addr} (z : Cz X c We k) (hb : ∀ (W : WX) (pn : List (Addr × Obj)) (xe : Value → Shared → Prop), Cz (X.tr pn xe) c W k → VSs (X.tr pn xe) c W .fz Ml M M' body g) (hx : PySem.W.exmOne X.K (.ref A) c0 = some true) (hc : Names X x c0)
    (hst : X.stack = X.env :: X.outer := by rfl) (hfr : X.env.frame = some X.env.locals := by rfl) :
    VSt X c We .fz Ml M M' (.Try body [.ExceptHandler (some (.Name x np)) none [.Return none rp] pos'] [] [] pos) (sTryO A g) := by
  refine ⟨_, ps_try_only (tb := tBody X fun W pn xe t => PSs (X.tr pn xe) body t) (ts := fun _ _ _ => tRetN) hst hfr hc takesNo (fun W pn xe h1 h2 => ⟨fun pins s σ H D I hw => ?_⟩) (fun a oe cls d pn hz hf => pss_one ps_retN), fun B σ H ρ D R po pn xe h1 h2 => ?_⟩
  · obtain ⟨t, ht, hd⟩ := hw pn xe h1 h2
    exact ht.run pins s σ H D I hd
  · obtain ⟨t, ht, hr⟩ := (hb _ pn xe (z.tr (takesN h1) h2)).ex
    refine ⟨t, ht, hr B σ H ρ D R ?_⟩
    unfold sTryO at po
    cases hg : g ρ with
    | bad => rw [hg] at po; exact po.elim
    | exc kx => rw [hg] at po; exact po.elim
    | ok out =>
      rw [hg] at po
      cases out with
      | ex kx ρ' =>
        cases kx with
        | ref C =>
          dsimp only at po
          by_cases hCA : C = A
          · rw [if_pos hCA] at po
            subst hCA
            rintro σ' H' M2 ⟨Fs, R'⟩
            exact ⟨true, hx, fun _ a _ => po .non H' ⟨M2, Fs, σ', [], R', by simp, by simp, rfl, .non⟩, fun e => by cases e⟩
          · rw [if_neg hCA] at po; exact po.elim
        | _ => exact po.elim
      | nx ρ' => exact po
      | rt d ρ' => exact po
      | bk ρ' => exact po
      | ct ρ' => exact po
/-- for x in y: x.clear(), y its own list of lists; both names are given up -/
def sForClr (i j : Nat) : SF := fun ρ => (eVar i ρ).bind fun d => (lstD d).bind fun _ => gd (decide (j < ρ.length) && decide (i ≠ j)) (.ok (.nx ((ρ.set j none).set i none)))
theorem P3.rows {c : Ct} {W : Addr → Prop} {H : Hp} : ∀ {vs : List V} {ds : List D} {Gs : List (List Addr)}, P3 (Own c W H (.l .fz)) vs ds Gs → ∀ v ∈ vs, ∃ r ys, v = .ref r ∧ r ∈ Gs.flatten ∧ H r = some (.lst ys)
  | _, _, _, .nil, v, h => by simp at h
  | _, _, _, .cons (F := F) (Fs := Fs) h t, v, hv => by
    rcases List.mem_cons.mp hv with e | e
    · obtain ⟨a, xs, ds, Gs', e1, e2, h1, h2, h3⟩ := h
      subst e
      exact ⟨a, xs, e1, by rw [List.flatten_cons, h3]; simp, h1⟩
    · obtain ⟨r, ys, q1, q2, q3⟩ := t.rows v e
      exact ⟨r, ys, q1, by rw [List.flatten_cons]; exact List.mem_append.mpr (.inr q2), q3⟩
theorem vs_forClr {p1 p2 p3 apos cpos p4 : Pos} (i j : Nat) (z : Cz X c We k) (hmi : M i = .o (.l (.l .fz))) {al : Nat} (hmj : M j = .v al) (hN : X.N.Nodup) (hi : X.N[i]? = some y := by rfl) (hj : X.N[j]? = some x := by rfl)
    (hv : Vis X.env.scope y := by first | exact Or.inl rfl | exact Or.inr (Or.inl rfl) | exact Or.inr (Or.inr rfl)) (hd : (y == ("__debug__" : Str)) = false := by decide) (hcd : (y == ("__classdict__" : Str)) = false := by decide)
    (hvx : Vis X.env.scope x := by first | exact Or.inl rfl | exact Or.inr (Or.inl rfl) | exact Or.inr (Or.inr rfl)) (hdx : (x == ("__debug__" : Str)) = false := by decide) (hcdx : (x == ("__classdict__" : Str)) = false := by decide)
    (hx : Loc X.env.scope x := by first | exact .inl rfl | exact .inr rfl) (hf : X.fn x = true ∨ X.env.scope.names.lookup x = some .local := by first | exact .inl rfl | exact .inr rfl)
    (hbase : attributeBase (.Name x p3) "clear" X.env (eval (.Name x p3) X.env) = eval (.Name x p3) X.env := by rfl) (hline : (apos.endLine == cpos.line) = true := by rfl)
    (hs : swapsWith (.Call (.Attribute (.Name x p3) "clear" apos) [] [] cpos) none p4.line X.env = pure false := by rfl) (hfs : ∀ v, foldedSetIterable (.Name y p2) X.env v = pure v := by intro _; rfl) :
    VSt X c We rs Ml M M (.For (.Name x p1) (.Name y p2) [.Expr (.Call (.Attribute (.Name x p3) "clear" apos) [] [] cpos) p4] [] pos) (sForClr i j) := by
  refine ⟨_, ps_for z.po z.calm (pi_list (pv i hi hv hd hcd)) (pg_name (i := j) hN hj hx hf) (pss_one (ps_expr (pe_bm0 PySem.F.plainAttrs_list PySem.F.slot_list_clear PySem.F.type_list_clear mt_clear (pv j hj hvx hdx hcdx) hbase hline) hs)) hfs, fun B σ H ρ D R po => ?_⟩
  obtain ⟨Fs, R⟩ := R
  obtain ⟨ds, er, po⟩ := po_lst po
  obtain ⟨hb, po⟩ := Po.gd po
  rw [Bool.and_eq_true, decide_eq_true_eq, decide_eq_true_eq] at hb
  obtain ⟨hj', hij⟩ := hb
  obtain ⟨q, xs, Gs, h1, hq, h3, eF, keep, put⟩ := R.lst hmi er
  have po : ∀ σ' H', Rel c M B H' σ' ((ρ.set j none).set i none) → D.nx σ' H' := po
  have hrow := h3.rows
  have hjs : j < σ.length := by rw [R.len]; exact hj'
  refine ⟨.ref q, h1, q, rfl, ⟨xs, .inl (.of hq)⟩, ?_⟩
  have hqn : q ∉ Gs.flatten := by
    have := R.nd i
    rw [eF] at this
    exact (List.nodup_cons.mp this).1
  refine for_it (walk_list (K := X.K) (a := q) (xs := xs)) (fun _ σ' H' => σ'.length = σ.length ∧ (∀ l, l ≠ j → σ'[l]? = σ[l]?) ∧ (∀ a o, a ∉ Gs.flatten → H a = some o → H' a = some o) ∧ (∀ a, H' a = none → H a = none) ∧ ∀ a ∈ Gs.flatten, ∃ ys, H' a = some (.lst ys)) ⟨rfl, fun _ _ => rfl, fun _ _ _ e => e, fun _ e => e, fun a ha => ?_⟩ (fun n σ' H' _ hP => .inl (.of (hP.2.2.1 q _ hqn hq))) ?_ ?_
  · obtain ⟨G, hG, hG'⟩ := List.mem_flatten.mp ha
    obtain ⟨v, d, ho⟩ := h3.mem hG
    obtain ⟨a', ys, ds', Gs', e1, e2, g1, g2, g3⟩ := ho
    obtain ⟨_, g4⟩ := g2.ofFz
    rw [g3, g4] at hG'
    have : a = a' := by simpa using hG'
    exact ⟨ys, by rw [this]; exact g1⟩
  · rintro n x σ' H1 H1' hn ⟨i1, i2, i3, i4, i5⟩ hY
    obtain ⟨rfl, hx⟩ := hY
    obtain ⟨r, ys0, rfl, hr, _⟩ := hrow x (List.mem_of_getElem? hx)
    obtain ⟨ys, hys⟩ := i5 r hr
    show _
    refine ⟨.ref r, by rw [List.getElem?_set_self (by rw [i1]; exact hjs)], .inl ⟨rfl, ys, .of hys⟩, r, ys, rfl, rfl, hys, ?_⟩
    refine ⟨by rw [List.length_set]; exact i1, fun l hl => by rw [List.getElem?_set_ne (Ne.symm hl)]; exact i2 l hl, fun a o ha e => ?_, fun a e => ?_, fun a ha => ?_⟩
    · have hne : a ≠ r := fun z => ha (by rw [z]; exact hr)
      rw [upd_ne hne]; exact i3 a o ha e
    · by_cases hne : a = r
      · rw [hne, upd_same] at e; cases e
      · rw [upd_ne hne] at e; exact i4 a e
    · by_cases hne : a = r
      · exact ⟨[], by rw [hne, upd_same]⟩
      · rw [upd_ne hne]; exact i5 a ha
  · rintro σ' H' ⟨i1, i2, i3, i4, i5⟩
    refine po σ' H' ⟨_, RelF.put (i := i) (F' := []) (H' := H') (σ' := σ') (RelF.put (i := j) (F' := []) (H' := H) (σ' := σ') (ρ' := ρ.set j none) R (fun _ _ _ e => e) (fun _ e => e) (by simp) (by simp) (by simp) i2 (fun l hl => List.getElem?_set_ne (Ne.symm hl)) (by rw [i1, R.len, List.length_set]) (fun p hp e => ?_) (fun s hs => by rw [hmj] at hs; cases hs) (fun d e => by rw [List.getElem?_set_self hj'] at e; cases e)) (fun a o ha e => i3 a o (fun z => ha ?_) e) i4 (by simp) (by simp) (by simp) (fun _ _ => rfl) (fun l hl => List.getElem?_set_ne (Ne.symm hl)) (by rw [i1, R.len, List.length_set, List.length_set]) (fun p hp e => ?_) (fun s hs a ha => ?_) fun d e => ?_⟩
    · have hs := (R.mp p hp).2
      rw [e, hmj] at hs; cases hs
    · rw [fset_ne hij, eF]; exact List.mem_cons_of_mem _ z
    · have hs := (R.mp p hp).2
      rw [e, hmi] at hs; cases hs
    · rw [fset_ne hij] at ha; exact R.own i s hs a ha
    · by_cases hil : i < (ρ.set j none).length
      · rw [List.getElem?_set_self hil] at e; cases e
      · rw [List.getElem?_eq_none (by rw [List.length_set]; omega)] at e; cases e
end
end VS
set_option Elab.async false
set_option linter.all false
set_option maxRecDepth 100000
set_option maxHeartbeats 2000000
/-! VW: two clauses of a try; abs; a list times an int; slices of what is new; defs that take what they are handed. -/
namespace VS
open PySem L2
section
open PySem.Spec PyProof.Rows
variable {X : Cx} {x x2 n : Str} {c c2 : Value} {i : Nat} {body suite suite2 : List Stmt} {b₀ b2 : Stmt} {np np2 pos pos' pos2 : Pos} {tb : WX → TS} {ts ts2 : Addr → Value → Option Addr → TS} {Wout : WX}
/-- two clauses that name what they handle (turned from how the library shows one such clause) -/
theorem ps_try_as2 (hs : X.stack = X.env :: X.outer) (hf : X.env.frame = some X.env.locals) (hN : X.N.Nodup) (hi : X.N[i]? = some n) (hln : X.env.kindOf n = some .local) (hc : Names X x c) (hc2 : Names X x2 c2) (tk : Takes X Wout)
    (hb : ∀ (W : WX) (pn : List (Addr × Obj)) (xe : Value → Shared → Prop), Takes (X.tr pn xe) W → PassesOwn (model X.prog X.w) X.A X.env xe → PSs (X.tr pn xe) body (tb W))
    (hsu : ∀ (a : Addr) (oe : Obj) (cls : Value) (d : Option Addr) (pn : List (Addr × Obj)), Zc cls d oe → (∃ vs, oe.data = .fields vs) → PSs (X.suite a ((a, oe) :: pn)) (b₀ :: suite) (ts a cls d))
    (hsu2 : ∀ (a : Addr) (oe : Obj) (cls : Value) (d : Option Addr) (pn : List (Addr × Obj)), Zc cls d oe → (∃ vs, oe.data = .fields vs) → PSs (X.suite a ((a, oe) :: pn)) (b2 :: suite2) (ts2 a cls d)) :
    PS X (.Try body [.ExceptHandler (some (.Name x np)) (some n) (b₀ :: suite) pos', .ExceptHandler (some (.Name x2 np2)) (some n) (b2 :: suite2) pos2] [] [] pos) (fun D σ H => tb (wAs X.K c i ts (wAs X.K c2 i ts2 Wout D) D) D σ H) := by
  refine ⟨fun pins s σ H D I h => ?_⟩
  have ok := I.ok
  have hfr : X.A.frames = some (X.env :: X.outer) := by rw [ok.frames, hs]
  have hloc : Loc X.env.scope n := .inl hln
  refine wpAny_Try_except ?_
  refine wpAny_mono ((hb (wAs X.K c i ts (wAs X.K c2 i ts2 Wout D) D) (X.pn ++ pins) (fun e s₁ => wpAny (model X.prog X.w) X.A (noteFrame e X.env) (fun _ s₂ => wpAny (model X.prog X.w) X.A (setFlight e none) (fun _ s₃ =>
    wpAny (model X.prog X.w) X.A (handleBy e X.env [.ExceptHandler (some (.Name x np)) (some n) (b₀ :: suite) pos', .ExceptHandler (some (.Name x2 np2)) (some n) (b2 :: suite2) pos2]) (SP X pins D) X.xe s₃) X.xe s₂) X.xe s₁) (fun u s' xx => ?_) PassesOwn.looking).run [] s σ H D (I.toTry _) h) (fun f s1 hsp => ?_) (fun e s1 he => he)
  · obtain ⟨a, B, sI, pins', σ', H', cls, d, rfl, J', nb, up, sky, na, os, ag, w⟩ := xx
    have J : Inv X pins σ' H' sI := J'.ofTry ok
    have sky' : Sky B (X.env :: X.outer) a (Zc cls d) X.env.locals s'.heap := by rw [← hs]; exact sky
    show wpAny (model X.prog X.w) X.A (noteFrame (.ref a) X.env) _ _ _
    refine Sky.land Zc.steady hfr hf sky' fun h3 fl3 up3 => ?_
    have J3 : Inv X pins σ' H' { s' with heap := h3 } := J.landed nb fl3.1 (up.trans up3) os ag
    obtain ⟨oe3, vs3, he3, hz3, hd3⟩ := fl3.there
    have nfr : a ∉ frs (X.env :: X.outer) := fun hm => by
      obtain ⟨_, o', e', hnf⟩ := fl3.2.2.1.mem hm
      rw [he3] at e'; cases e'
      exact hnf _ hd3
    have nL : a ≠ X.env.locals := fun z => nfr (List.mem_filterMap.mpr ⟨X.env, List.mem_cons_self, by rw [hf, z]⟩)
    have nF : a ∉ X.fs := fun hm => by
      obtain ⟨e, he, q⟩ := List.mem_filterMap.mp hm
      exact nfr (List.mem_filterMap.mpr ⟨e, List.mem_cons_of_mem _ he, q⟩)
    have S3 := J3.suite he3 hd3 na nL nF
    have LT : PySem.W.Looks (model X.prog X.w) h3 (typeOf (.ref a)) cls := fun A Q E s k q => wpAny_typeOf_ref (k _ _ he3) (by rw [hz3.1]; exact q)
    -- one clause, whatever comes behind it
    have one : ∀ {x : Str} {c : Value} {ts : Addr → Value → Option Addr → TS} {b₀ : Stmt} {suite : List Stmt} {np pos' : Pos} {hds : List ExceptHandler} {W' : WX}, Names X x c →
        (∀ (a : Addr) (oe : Obj) (cls : Value) (d : Option Addr) (pn : List (Addr × Obj)), Zc cls d oe → (∃ vs, oe.data = .fields vs) → PSs (X.suite a ((a, oe) :: pn)) (b₀ :: suite) (ts a cls d)) →
        wAs X.K c i ts W' D cls d σ' H' → (W' cls d σ' H' → wpAny (model X.prog X.w) X.A (handleBy (.ref a) X.env hds) (SP X pins D) X.xe { s' with heap := h3 }) →
        wpAny (model X.prog X.w) X.A (handleBy (.ref a) X.env (.ExceptHandler (some (.Name x np)) (some n) (b₀ :: suite) pos' :: hds)) (SP X pins D) X.xe { s' with heap := h3 } := by
      intro x c ts b₀ suite np pos' hds W' hc hsu hw hrest
      obtain ⟨b, hb1, hyes, hno⟩ := hw
      refine wpAny_handleBy_cons (codeAny_handlers_test ?_) (by intro q; cases q)
      have LM := PySem.W.exm_one (M := model X.prog X.w) (J3.kIn) LT hb1
      have test : ∀ {Q : Value → Shared → Prop} {E : Value → Shared → Prop}, Q c { s' with heap := h3 } → wpAny (model X.prog X.w) (X.A.mark (some (.ref a))) (eval (.Name x np) X.env) Q E { s' with heap := h3 } := fun {Q E} q => by
        obtain ⟨hg, hdbg, hm | ⟨hm, hv, hnn⟩⟩ := hc
        · exact ld_glob (X := X.suite a ((a, oe3) :: (X.pn ++ pins))) S3 hg hm q hdbg
        · exact ld_blt (X := X.suite a ((a, oe3) :: (X.pn ++ pins))) S3 hg hm hv q hnn hdbg
      refine test (LM.here ?_)
      cases b with
      | false =>
        show wpAny _ X.A (handleBy (.ref a) X.env hds) _ _ _
        exact hrest (hno rfl)
      | true =>
        refine codeAny_handlers_suite_as ?_
        refine HandSPX.lands_againZ fl3 fun h4 fl4 up4 => ?_
        have J4 : Inv X pins σ' H' { s' with heap := h4 } := J.landed nb fl4.1 ((up.trans up3).trans up4) os ag
        obtain ⟨oe4, vs4, he4, hz4, hd4⟩ := fl4.there
        have S4 := J4.suite he4 hd4 na nL nF
        refine store_ok (X := X.suite a ((a, oe4) :: (X.pn ++ pins))) (v := .ref a) S4 hN hi hloc rfl (fun s5 S5 => ?_) (.inr hln)
        refine wpAny_mono ((hsu a oe4 cls d (X.pn ++ pins) hz4 ⟨_, hd4⟩).run [] s5 _ H' _ S5 (hyes rfl a na)) (fun f s6 hsp => ?_) (fun _ _ z => False.elim z)
        have end_ : ∀ {σ6 : L2.St} {H6 : Hp} {Q : Shared → Prop}, Inv (X.suite a ((a, oe4) :: (X.pn ++ pins))) [] σ6 H6 s6 → (∀ s7, Inv X pins (σ6.set i none) H6 s7 → Q s7) →
            wpAny (model X.prog X.w) X.A (do bindName X.env n .none; unbindBehindTheSuite X.env n pos') (fun _ s7 => Q s7) X.xe s6 := fun {σ6 H6 Q} S6 hq => gone_ok (S6.unsuite ok) hN hi hln hq
        cases f with
        | next =>
          obtain ⟨σ6, H6, S6, q6⟩ := hsp
          exact end_ S6 fun s7 J7 => ⟨_, _, J7, q6⟩
        | brk =>
          obtain ⟨σ6, H6, S6, q6⟩ := hsp
          exact end_ S6 fun s7 J7 => ⟨_, _, J7, q6⟩
        | cont =>
          obtain ⟨σ6, H6, S6, q6⟩ := hsp
          exact end_ S6 fun s7 J7 => ⟨_, _, J7, q6⟩
        | ret u =>
          obtain ⟨v6, σ6, H6, S6, r6, q6⟩ := hsp
          exact end_ S6 fun s7 J7 => ⟨_, _, _, J7, r6, q6⟩
    refine one hc hsu w fun w2 => one hc2 hsu2 w2 fun w3 => ?_
    refine wpAny_handleBy_nil ?_
    obtain ⟨k1, k2, k3, oe, vs, T, oT, ts', he, hz, hd, h1, hr⟩ := id fl3
    unfold PySem.passOn
    refine wpAny_bind (wpAny_field he hd h1 ?_)
    rw [if_neg (show ¬ ((Value.ref T == Value.none) = true) from by simp)]
    have fin : wpAny (model X.prog X.w) X.A (setFlight (.ref a) X.env.frame) (fun _ s4 => wpAny (model X.prog X.w) X.A (throw (.ref a) : Sem Flow) (SP X pins D) X.xe s4) X.xe { s' with heap := h3 } := by
      rw [hf]
      refine HandSPX.setFlight_upZ fl3 fun h4 hh4 up4 => wpAny_throw (tk _ _ ?_)
      exact ⟨a, B, sI, pins, σ', H', cls, d, rfl, J, nb, (up.trans up3).trans up4, .inr (.inr (by rw [hs]; exact hh4)), na, os, ag, w3⟩
    first
      | exact wpAny_bind (wpAny_pure (wpAny_bind fin))
      | exact wpAny_bind fin
  · cases f with
    | next =>
      obtain ⟨σ', H', J', q⟩ := hsp
      exact wpAny_execs_nil ⟨σ', H', J'.ofTry ok, q⟩
    | brk =>
      obtain ⟨σ', H', J', q⟩ := hsp
      exact ⟨σ', H', J'.ofTry ok, q⟩
    | cont =>
      obtain ⟨σ', H', J', q⟩ := hsp
      exact ⟨σ', H', J'.ofTry ok, q⟩
    | ret u =>
      obtain ⟨v, σ', H', J', r, q⟩ := hsp
      exact ⟨v, σ', H', J'.ofTry ok, r, q⟩
end
def sTry2 (h1 h2 : Value → Option D) (i : Nat) (g : SF) : SF := fun ρ => match g ρ with
  | .bad => .bad
  | .exc _ => .bad
  | .ok (.ex k ρ') => match h1 k with
    | some r => gd (r.imm && decide (i < ρ'.length)) (.ok (.rt r ρ'))
    | none => match h2 k with
      | some r => gd (r.imm && decide (i < ρ'.length)) (.ok (.rt r ρ'))
      | none => .bad
  | .ok o => .ok o
section
variable {X : Cx} {c : Ct} {We : WX} {k i : Nat} {Ml M M' : Nat → Mo} {g : SF} {body suite suite2 : List Stmt} {b₀ b2 : Stmt} {x x2 n : Str} {c0 c2 : Value} {np np2 pos pos' pos2 : Pos} {wa wb : Value → Option D}
theorem vs_try2 (z : Cz X c We k) (i : Nat) (hb : ∀ (W : WX) (pn : List (Addr × Obj)) (xe : Value → Shared → Prop), Cz (X.tr pn xe) c W k → VSs (X.tr pn xe) c W .fz Ml M M' body g) (su : Su X c c0 i (b₀ :: suite) wa) (su2 : Su X c c2 i (b2 :: suite2) wb)
    (hno : ∀ kx r, wb kx = some r → PySem.W.exmOne X.K kx c0 = some false) (hc : Names X x c0) (hc2 : Names X x2 c2)
    (hN : X.N.Nodup) (hi : X.N[i]? = some n := by rfl) (hln : X.env.kindOf n = some .local := by rfl) (hst : X.stack = X.env :: X.outer := by rfl) (hfr : X.env.frame = some X.env.locals := by rfl) :
    VSt X c We .fz Ml M M' (.Try body [.ExceptHandler (some (.Name x np)) (some n) (b₀ :: suite) pos', .ExceptHandler (some (.Name x2 np2)) (some n) (b2 :: suite2) pos2] [] [] pos) (sTry2 wa wb i g) := by
  obtain ⟨ts, hsu, hread⟩ := su.ex
  obtain ⟨ts2, hsu2, hread2⟩ := su2.ex
  refine ⟨_, ps_try_as2 (tb := tBody X fun W pn xe t => PSs (X.tr pn xe) body t) hst hfr hN hi hln hc hc2 takesNo (fun W pn xe h1 h2 => ⟨fun pins s σ H D I hw => ?_⟩) hsu hsu2, fun B σ H ρ D R po pn xe h1 h2 => ?_⟩
  · obtain ⟨t, ht, hd⟩ := hw pn xe h1 h2
    exact ht.run pins s σ H D I hd
  · obtain ⟨t, ht, hr⟩ := (hb _ pn xe (z.tr (takesN h1) h2)).ex
    refine ⟨t, ht, hr B σ H ρ D R ?_⟩
    unfold sTry2 at po
    cases hg : g ρ with
    | bad => rw [hg] at po; exact po.elim
    | exc kx => rw [hg] at po; exact po.elim
    | ok out =>
      rw [hg] at po
      cases out with
      | ex kx ρ' =>
        dsimp only at po
        cases hk : wa kx with
        | some r =>
          rw [hk] at po
          obtain ⟨hi', po⟩ := Po.gd po
          rw [Bool.and_eq_true, decide_eq_true_eq] at hi'
          obtain ⟨hm, hrd⟩ := hread kx r hk
          rintro σ' H' M2 ⟨Fs, R'⟩
          refine ⟨true, hm, fun _ a _ => hrd a _ _ _ ?_ fun v hv => ?_, fun e => by cases e⟩
          · rw [List.getElem?_set_self (by rw [R'.len]; exact hi'.2)]
          · exact po v H' ⟨M2, Fs, σ', [], R', by simp, by simp, rfl, hv.up fun _ z => z.elim⟩
        | none =>
          rw [hk] at po
          dsimp only at po
          cases hk2 : wb kx with
          | none => rw [hk2] at po; exact po.elim
          | some r =>
            rw [hk2] at po
            obtain ⟨hi', po⟩ := Po.gd po
            rw [Bool.and_eq_true, decide_eq_true_eq] at hi'
            obtain ⟨hm, hrd⟩ := hread2 kx r hk2
            rintro σ' H' M2 ⟨Fs, R'⟩
            refine ⟨false, hno kx r hk2, (fun e => by cases e), fun _ => ⟨true, hm, fun _ a _ => hrd a _ _ _ ?_ fun v hv => ?_, fun e => by cases e⟩⟩
            · rw [List.getElem?_set_self (by rw [R'.len]; exact hi'.2)]
            · exact po v H' ⟨M2, Fs, σ', [], R', by simp, by simp, rfl, hv.up fun _ z => z.elim⟩
      | nx ρ' => exact po
      | rt d ρ' => exact po
      | bk ρ' => exact po
      | ct ρ' => exact po
end
theorem Dw.less {P : Program} {w : World} {K : PySem.W.Frag} {mg : Str → Option Value} {base : Heap} {k : Nat} {x : Str} {wf wf' : Addr → Option Str} (d : Dw P w K mg base k x wf) (h : ∀ C r, wf' C = some r → wf C = some r) : Dw P w K mg base k x wf' := by
  obtain ⟨f, fd, y, G, hb, hm, kp⟩ := d.ex
  exact ⟨f, fd, y, ⟨fun A outer s H args Q p C r h1 h2 h3 h4 h5 => G.run A outer s H args Q p C r h1 h2 h3 h4 (h C r h5)⟩, hb, hm, kp⟩
def onlyW [Exl] (A : Addr) : Addr → Option Str := fun C => if C = A then Exl.word C else none
theorem onlyW_le [Exl] {A : Addr} : ∀ C r, onlyW A C = some r → Exl.word C = some r := fun C r h => by
  unfold onlyW at h
  split at h
  · exact h
  · cases h
theorem onlyW_eq [Exl] {A C : Addr} {r : Str} (h : onlyW A C = some r) : C = A := by
  unfold onlyW at h
  split at h
  · assumption
  · cases h
theorem onlyW_ex [Exl] {K : PySem.W.Frag} {A : Addr} {b : Bool} {L : Value} (hx : PySem.W.exmOne K (.ref A) L = some b) : ∀ C r, onlyW A C = some r → PySem.W.exmOne K (.ref C) L = some b := fun C r h => by
  rw [onlyW_eq h]; exact hx
theorem onlyW_exK [Exl] {K : PySem.W.Frag} {A : Addr} {b : Bool} {L : Value} {f : Str → D} (hx : PySem.W.exmOne K (.ref A) L = some b) : ∀ kx r, hMap f (onlyW A) kx = some r → PySem.W.exmOne K kx L = some b := fun kx r h => by
  obtain ⟨C, w, rfl, hw, _⟩ := hMap_some h
  exact onlyW_ex hx C w hw
/-! ### abs, a list times an int, slices -/
def repD : D → D → O D
  | .lst xs, .int k => gd (VS.immA xs && decide (xs.length * k.toNat ≤ 100000) && decide (-(2 ^ 63) ≤ k) && decide (k < 2 ^ 63)) (.ok (.lst (List.replicate k.toNat xs).flatten))
  | _, _ => .bad
def eSl0 (fa : EF) (pl ph : Rho → O (Option Int)) : EF := fun ρ => (fa ρ).bind fun d => (lstD d).bind fun l => (pl ρ).bind fun lo => (ph ρ).bind fun hi => .ok (.lst (cutD l lo hi))
section
variable {X : Cx} {c : Ct} {M : Nat → Mo} {We : WX} {al al' k : Nat} {e a b : Expr} {f fa fb : EF} {pos p2 : Pos} {lo hi : Option Expr} {pl ph : Rho → O (Option Int)}
theorem ve_abs {p : Pos} (h : VE X c M We al e f) (hg : Gl X "abs") (hm : X.mg "abs" = none) (hs : starEach [e] X.env = (false, eval e X.env) :: starEach [] X.env := by rfl) (hpl : (backTo pos (starEach [] X.env)).any (·.1) = false := by rfl) :
    VE X c M We 0 (.Call (.Name "abs" p) [e] [] pos) (e1 absD f) := by
  obtain ⟨te, pe, s⟩ := h.ex
  refine ⟨_, pe_callB call_abs hg hm (by decide +kernel) (pa_cons pe pa_nil hs) (by decide) (by decide) hs hpl, fun w σ H ρ Q sl po => s w σ H ρ _ sl ((Po.bind po).imp (fun d _ q v H1 hs1 hi => ?_) fun _ _ q => q)⟩
  cases d with
  | int i =>
    refine ⟨i, by rw [is_int hi], ?_⟩
    exact q _ H1 hs1 (.int _)
  | _ => exact q.elim
theorem IsA.rep {W : Addr → Prop} {H : Hp} {xs : List V} {ds : List D} (h : IsA c W H xs ds) : ∀ n, IsA c W H (List.replicate n xs).flatten (List.replicate n ds).flatten
  | 0 => .nil
  | n + 1 => by
    rw [List.replicate_succ, List.replicate_succ, List.flatten_cons, List.flatten_cons]
    exact h.append (IsA.rep h n)
theorem immA_append : ∀ {xs ys : List D}, immA xs = true → immA ys = true → immA (xs ++ ys) = true
  | [], _, _, h => h
  | x :: xs, ys, h1, h2 => by
    rw [immA_cons, Bool.and_eq_true] at h1
    rw [List.cons_append, immA_cons, h1.1, immA_append h1.2 h2]
    rfl
theorem immA_rep {ds : List D} (h : immA ds = true) : ∀ n, immA (List.replicate n ds).flatten = true
  | 0 => by simp
  | n + 1 => by
    rw [List.replicate_succ, List.flatten_cons]
    exact immA_append h (immA_rep h n)
theorem vo_rep (ha : VO X c M We (.l .fz) a fa) (hb : VE X c M We al b fb) : VO X c M We (.l .fz) (.BinOp a .Mult b pos) (e2 repD fa fb) := by
  obtain ⟨ta, pa, sa⟩ := ha.ex
  obtain ⟨tb, pb, sb⟩ := hb.ex
  refine ⟨_, pe_op op_rep pa pb, fun w σ H ρ Q sl po => sa w σ H ρ _ sl ((Po.bind po).imp (fun d _ q v H1 F hs1 hn nd ho => ?_) fun _ _ q => q)⟩
  refine sb w σ H1 ρ _ (sl.same hs1) ((Po.bind q).imp (fun d2 _ q v2 H2 hs2 hi2 => ?_) fun _ _ q H2 hs2 => q H2 (hs1.trans hs2))
  obtain ⟨p, xs, ds, Gs, rfl, rfl, hp, h3, eF⟩ := ho
  obtain ⟨h4, _⟩ := h3.ofFz
  cases d2 with
  | int j =>
    obtain ⟨hg, q⟩ := Po.gd q
    rw [Bool.and_eq_true, Bool.and_eq_true, Bool.and_eq_true, decide_eq_true_eq, decide_eq_true_eq, decide_eq_true_eq] at hg
    obtain ⟨⟨⟨g1, g2⟩, g3⟩, g4⟩ := hg
    refine ⟨p, j, xs, rfl, is_int hi2, hs2 _ _ hp, g3, g4, by rw [h4.length]; exact Nat.le_trans g2 (by decide), fun q' hq' => ?_⟩
    obtain ⟨o1, o2, o3, o4⟩ := own_new (w := w) (hs1.trans hs2) hq' ((h4.same hs2).rep j.toNat) (immA_rep g1 _)
    exact q _ _ [q'] o1 o2 o3 o4
  | _ => exact q.elim
theorem vo_slice0 (z : Cz X c We k) (ha : VE X c M We 0 a fa) (hl : VPo X c M We lo pl) (hh : VPo X c M We hi ph) : VO X c M We (.l .fz) (.Subscript a (.Slice lo hi none p2) pos) (eSl0 fa pl ph) := by
  obtain ⟨ta, pa, sa⟩ := ha.ex
  obtain ⟨tl, pl', sl'⟩ := hl.ex
  obtain ⟨th, ph', sh⟩ := hh.ex
  refine ⟨_, pe_slice sl_list pa pl' ph', fun w σ H ρ Q sl po => sa w σ H ρ _ sl ((Po.bind po).imp (fun d _ q v H1 hs1 hi1 => ?_) fun _ _ q => q)⟩
  cases d with
  | lst l =>
    replace q : Po ((pl ρ).bind fun lo => (ph ρ).bind fun hi => (O.ok (D.lst (cutD l lo hi)))) _ _ := q
    refine sl' w σ H1 ρ _ (sl.same hs1) ((Po.bind q).imp (fun o1 _ q H2 hs2 => ?_) fun _ _ q H' hs => q H' (hs1.trans hs))
    refine sh w σ H2 ρ _ ((sl.same hs1).same hs2) ((Po.bind q).imp (fun o2 _ q H3 hs3 => ?_) fun _ _ q H' hs => q H' ((hs1.trans hs2).trans hs))
    have hs13 := hs2.trans hs3
    have hs := hs1.trans hs13
    obtain ⟨p, xs, rfl, h1, h2⟩ := is_lst (hi1.same hs13)
    refine ⟨p, xs, rfl, by rw [z.K]; exact h1, fun q' hq' => ?_⟩
    have hcut : IsA c (NW w 0 H) H3 (cutV xs o1 o2) (cutD l o1 o2) := by
      unfold cutV cutD
      rw [h2.length]
      exact (h2.drop _).take _
    refine q _ _ [q'] (same_new hs hq') (fun a ha => ?_) (by simp) ?_
    · have e : a = q' := by simpa using ha
      rw [e]; exact hs.free hq'
    · have hi3 : IsA c (fun a => NW w 0 H a ∧ a ∉ [q']) (upd H3 q' (.lst (cutV xs o1 o2))) (cutV xs o1 o2) (cutD l o1 o2) := (hcut.track.up fun a x => ⟨x.1, fun z => x.2 (by have e : a = q' := (by simpa using z); rw [e]; exact hq')⟩).same (same_new (Same.refl _) hq')
      obtain ⟨Gs, g1, g2⟩ := hi3.toP3
      exact ⟨q', _, _, Gs, rfl, rfl, upd_same, g1, by rw [g2]⟩
  | _ => exact q.elim
end
/-! ### defs that take what they are handed -/
def spC (c : Ct) (s : Sh) (F : List D → O D) : Sp := fun vs H Q _ => ∃ v0 vr d0 dr G, vs = v0 :: vr ∧ Own c (fun _ => False) H s v0 d0 G ∧ G.Nodup ∧ IsA c (fun a => a ∉ G) H vr dr ∧
  Po (F (d0 :: dr)) (fun d => ∀ v H', (∀ a o, a ∉ G → H a = some o → H' a = some o) → Is c (fun a => a ∈ G ∨ H a = none) H' v d → Q v H') (fun _ => False)
section
variable {P : Program} {w : World} {K : PySem.W.Frag} {mg : Str → Option Value} {base : Heap} {c : Ct}
theorem fn_cons {x qual : Str} {st : Stmt} {f : Addr} {fd : FuncData} {N ps : List Str} {k : Nat} {s : Sh} {g : SF} {M M' : Nat → Mo} (F : Fun K x qual st f fd) (S : FnScope N ps (defScope st)) (hK : K = c.K) (h0 : M 0 = .o s) (hM : ∀ i, 0 < i → i < ps.length → M i = .v 1)
    (hb : ∀ (cdv : Value) (A : Around) (outer : List Env) (s : Shared) (H : Hp) (E : XK), Cz (cxOf (L2N.CX P w) P w K mg base N qual (defScope st) f cdv A outer s H E) c (fun cls d _ H => E cls d H) k →
      VSs (cxOf (L2N.CX P w) P w K mg base N qual (defScope st) f cdv A outer s H E) c (fun cls d _ H => E cls d H) .fz M M M' (defBody st) g) :
    FnOk P w K mg base (L2N.CX P w) (k + 1) f fd ps (spC c s (runF N.length ps.length .fz g)) := by
  refine okG F S (fun vs H Q E h => ?_) (fun cdv A outer s H vs Q E hr h => ?_)
  · obtain ⟨v0, vr, d0, dr, G, rfl, h1, h2, h3, h4⟩ := h
    obtain ⟨hl, _⟩ := Po.gd h4
    rw [Bool.and_eq_true, decide_eq_true_eq] at hl
    have := hl.1
    rw [List.length_cons] at this ⊢
    rw [h3.length, this]
  · have z : Cz (cxOf (L2N.CX P w) P w K mg base N qual (defScope st) f cdv A outer s H E) c (fun cls d _ H => E cls d H) k := ⟨hK, rfl, L2N.takes_of rfl rfl rfl rfl, hr, passes_of rfl⟩
    obtain ⟨t, p, so⟩ := (hb cdv A outer s H E z).ex
    refine ⟨t, p, ?_⟩
    obtain ⟨v0, vr, d0, dr, G, rfl, h1, h2, h3, h4⟩ := h
    obtain ⟨hl, h4⟩ := Po.gd h4
    rw [Bool.and_eq_true, decide_eq_true_eq, decide_eq_true_eq] at hl
    have h4 := Po.bind h4
    let B : Bs := ⟨fun a => if a ∈ G then none else H a, [(H, fun a => a ∈ G)], []⟩
    let Fs : Nat → List Addr := fun i => if i = 0 then G else []
    have fs0 : ∀ i a, a ∈ Fs i → i = 0 ∧ a ∈ G := fun i a ha => by
      by_cases hi : i = 0
      · subst hi; exact ⟨rfl, ha⟩
      · have : a ∈ (if i = 0 then G else []) := ha
        rw [if_neg hi] at this; simp at this
    have R0 : RelF c M B Fs H (L2.start N (v0 :: vr)) (startD N.length (d0 :: dr)) := by
      refine ⟨fun i => ?_, fun i j a ha hb => by rw [(fs0 i a ha).1, (fs0 j a hb).1], fun i a ha => h1.there a (fs0 i a ha).2, fun p hp a o e _ => ?_, fun p hp i a ha => ?_, fun i s hs a ha => if_pos (fs0 i a ha).2, fun a e => ?_, fun i d e => ?_, (fun q hq => by cases hq), by simp [L2.start, startD, h3.length]⟩
      · show (if i = 0 then G else []).Nodup
        split
        · exact h2
        · simp
      · have : p = (H, fun a => a ∈ G) := by simpa [B] using hp
        rw [this] at e; exact e
      · have : p = (H, fun a => a ∈ G) := by simpa [B] using hp
        rw [this]; exact .inr (fs0 i a ha).2
      · show (if a ∈ G then none else H a) = none
        split
        · rfl
        · exact e
      · cases i with
        | zero =>
          have e : some d0 = some d := by simpa [startD] using e
          cases e
          refine ⟨v0, by simp [L2.start], ?_⟩
          rw [h0]
          exact h1.mono (fun _ z => z.elim) fun a o _ e => e
        | succ i =>
          have e1 : dr[i]? = some d := by
            unfold startD at e
            rw [List.map_cons, List.cons_append, List.getElem?_cons_succ] at e
            by_cases hi : i < dr.length
            · rw [List.getElem?_append_left (by simpa using hi), List.getElem?_map, List.getElem?_eq_getElem hi] at e
              rw [List.getElem?_eq_getElem hi]
              cases e; rfl
            · rw [List.getElem?_append_right (by simpa using hi), List.getElem?_replicate] at e
              split at e <;> cases e
          obtain ⟨v, e2, e3⟩ := h3.getD e1
          have hv : i < vr.length := (List.getElem?_eq_some_iff.mp e2).1
          have hd : i < dr.length := (List.getElem?_eq_some_iff.mp e1).1
          refine ⟨v, ?_, ?_⟩
          · unfold L2.start
            rw [List.map_cons, List.cons_append, List.getElem?_cons_succ, List.getElem?_append_left (by simpa using hv), List.getElem?_map, e2]
            rfl
          · rw [hM (i + 1) (by omega) (by have := hl.1; rw [List.length_cons] at this; omega)]
            exact ⟨by decide, if_neg (by omega), e3.up fun a ha j z => ha (fs0 j a z).2⟩
    refine so B _ H (startD N.length (d0 :: dr)) _ ⟨Fs, R0⟩ (h4.imp (fun out _ q => ?_) fun kx _ q σ' H' hf => q.elim)
    have keep : ∀ {M2 : Nat → Mo} {Fs2 : Nat → List Addr} {σ2 : L2.St} {ρ2 : Rho} {H' : Hp}, RelF c M2 B Fs2 H' σ2 ρ2 → ∀ a o, a ∉ G → H a = some o → H' a = some o := fun {M2 Fs2 σ2 ρ2 H'} R a o hn e =>
      R.fr (H, fun a => a ∈ G) (by simp [B]) a o e hn
    cases out with
    | nx ρ' =>
      intro σ' H' R
      obtain ⟨hrs, q⟩ := Po.gd q
      obtain ⟨Fs2, R⟩ := R
      exact q .non H' (keep R) .non
    | rt d ρ' =>
      rintro v H' ⟨M2, Fs2, σ2, Fp, R, n1, n2, n3⟩
      refine q v H' (keep R) (n3.2.up fun a x => ?_)
      have hx : (if a ∈ G then none else H a) = none := x.1
      by_cases ha : a ∈ G
      · exact .inl ha
      · rw [if_neg ha] at hx; exact .inr hx
    | bk ρ' => exact q.elim
    | ct ρ' => exact q.elim
    | ex k ρ' => exact q.elim
end
/-- y = f(y, ..): y's own objects go to f; what comes back is read only -/
def sCons (i : Nat) (s : Sh) (fs : AF) (F : List D → O D) : SF := fun ρ => (eOwn s i ρ).bind fun d0 => (fs ρ).bind fun dr => (noX (F (d0 :: dr))).bind fun d => gd (decide (i < ρ.length)) (.ok (.nx (ρ.set i (some d))))
section
variable {X : Cx} {c : Ct} {M Ml : Nat → Mo} {We : WX} {al k k' : Nat} {rs : Sh} {es : List Expr} {fs : AF} {pos pos' p p1 p2 : Pos}
theorem vs_setC {n y : Str} {F : List D → O D} (i : Nat) (s : Sh) (z : Cz X c We k) (dc : Dc X.prog X.w X.K X.mg X.base k' n (spC c s F)) (hk : k' ≤ k) (hm : M i = .o s) (t : VA X c M We al es fs) (hal : al ≤ 1) (hN : X.N.Nodup) (hi : X.N[i]? = some y := by rfl)
    (hv : Vis X.env.scope y := by first | exact Or.inl rfl | exact Or.inr (Or.inl rfl) | exact Or.inr (Or.inr rfl)) (hd : (y == ("__debug__" : Str)) = false := by decide) (hcd : (y == ("__classdict__" : Str)) = false := by decide) (hg : Gl X n := by rfl) (hdb : (n == ("__debug__" : Str)) = false := by decide)
    (hst : starEach (.Name y p2 :: es) X.env = (false, eval (.Name y p2) X.env) :: starEach es X.env := by rfl) (hpl : (backTo pos (starEach es X.env)).any (·.1) = false := by rfl)
    (hx : L2.Loc X.env.scope y := by first | exact .inl rfl | exact .inr rfl) (hs : swapsWith (.Call (.Name n p) (.Name y p2 :: es) [] pos) (some (.Name y p1)) pos'.line X.env = pure false := by rfl) (hf : X.fn y = true ∨ X.env.scope.names.lookup y = some .local := by first | exact .inl rfl | exact .inr rfl) :
    VSt X c We rs Ml M (fset M i (.v 0)) (.Assign [.Name y p1] (.Call (.Name n p) (.Name y p2 :: es) [] pos) pos') (sCons i s fs F) := by
  obtain ⟨f, fd, ps, G, hb, hmg, kp⟩ := dc.ex
  obtain ⟨ta, pt, st⟩ := t.ex
  refine ⟨_, ps_set (i := i) hN hi hx (pe_callS (G.mono hk) z.hr hg hmg kp hb (fun σ => L2N.passAt z.tk σ) (pa_cons (pv i hi hv hd hcd) pt hst) hdb hst hpl) hs hf, fun B σ H ρ D R po => ?_⟩
  obtain ⟨Fs, R⟩ := R
  obtain ⟨d0, hr, po⟩ := po_var (i := i) (ρ := ρ) (f := fun d => gd (immIn s d) (.ok d)) (Po.bind (r := eOwn s i ρ) po)
  obtain ⟨him, po⟩ := Po.gd po
  obtain ⟨v0, h1, h2⟩ := R.sl i d0 hr
  rw [hm] at h2
  have h2 : Own c (wd B Fs).n H s v0 d0 (Fs i) := h2
  refine ⟨v0, h1, ?_⟩
  refine st _ σ H ρ _ R.slots ((Po.exc_up R (Po.bind (r := fs ρ) po)).imp (fun dr _ q vs H1 hs1 hi1 => ?_) fun _ _ q => q)
  have R1 := R.same hs1
  have hown : Own c (fun _ => False) H1 s v0 d0 (Fs i) := (h2.immIn him).mono (fun _ z => z) fun a o _ e => hs1 a o e
  refine ⟨v0, vs, d0, dr, Fs i, rfl, hown, R.nd i, hi1.up fun a x => ?_, (Po.noX (E' := fun _ => False) (Po.bind (r := noX (F (d0 :: dr))) q)).imp (fun d _ q v H2 hfr hv2 => ?_) fun _ _ q => q⟩
  · rcases x with x | x
    · have h := (wd B Fs).up hal a x
      exact h i
    · exact R.newNot x i
  · obtain ⟨hl, q⟩ := Po.gd q
    have hl := of_decide_eq_true hl
    have ownB : ∀ a ∈ Fs i, B.H0 a = none := R.own i s hm
    have R2 : RelF c M B (fset Fs i []) H2 σ (ρ.set i none) := by
      refine R1.putW (F' := []) hfr (fun a e => ?_) (by simp) (by simp) (by simp) (fun j hj => rfl) (fun j hj => List.getElem?_set_ne (Ne.symm hj)) (by simp [R.len]) (fun q hq e => ?_) (fun s' hs' => R.own i s' hs') fun d e => ?_
      · by_cases ha : a ∈ Fs i
        · exact ownB a ha
        · refine R1.old a ?_
          cases e1 : H1 a with
          | none => rfl
          | some o => rw [hfr a o ha e1] at e; cases e
      · have hs := (R.mp q hq).2
        rw [e, hm] at hs; cases hs
      · rw [List.getElem?_set_self hl] at e; cases e
    have R3 := R2.remode (i := i) (.v 0) (fun s' hs' => by rw [hm] at hs'; cases hs')
    have R4 := R3.setV (i := i) (fset_self _ _ _) (by decide) (by simpa using hl) (v := v) (d := d) (hv2.up fun a x => ?_) (Same.refl H2)
    · rw [List.set_set, List.set_set] at R4
      exact q _ H2 R4
    · refine .inl ⟨fun l z => ?_, ?_⟩
      · by_cases hl' : l = i
        · rw [hl', fset_self] at z; simp at z
        · rw [fset_ne hl', fset_ne hl'] at z
          rcases x with x | x
          · exact hl' (R.dj l i a z x)
          · exact R1.newNot x l z
      · rcases x with x | x
        · exact ownB a x
        · exact R1.old a x
end
end VS
set_option Elab.async false
set_option linter.all false
set_option maxRecDepth 100000
set_option maxHeartbeats 2000000
/-! VI: texts; what is never reached; isinstance of a land. -/
namespace VS
open PySem L2
def strID : D → O D
  | .int i => gd (decide (i.natAbs < 2 ^ 64)) (.ok (.str (toString i)))
  | _ => .bad
def strsD : List D → Option (List Str)
  | [] => some []
  | .str s :: ds => match strsD ds with
    | some ss => some (s :: ss)
    | none => none
  | _ :: _ => none
def joinD : D → D → O D
  | .str a, .lst l => match strsD l with
    | some ys => gd (decide ((ys.map (·.length)).sum + ys.length * a.length ≤ 100000)) (.ok (.str (Txt.join a ys)))
    | none => .bad
  | _, _ => .bad
def splitD : D → D → O D
  | .str a, .str b => gd ((!(b.length == 0)) && decide (a.length ≤ 100000)) (.ok (.lst ((Txt.split a b).map .str)))
  | _, _ => .bad
def endD : D → D → O D
  | .str a, .str b => .ok (.bl (Txt.endswith a b))
  | _, _ => .bad
def eSlS (fa : EF) (pl ph : Rho → O (Option Int)) : EF := fun ρ => (fa ρ).bind fun d => match d with
  | .str z => (pl ρ).bind fun lo => (ph ρ).bind fun hi => gd (decide (z.length ≤ 100000)) (.ok (.str (cutS z lo hi)))
  | _ => .bad
def inS (neg : Bool) (x y : D) : O D := match x, y with
  | .str s, .str z => match s.cps.toList with
    | [ch] => .ok (.bl (neg != decide (ch ∈ z.cps.toList)))
    | _ => .bad
  | _, _ => .bad
def intSD : D → O D
  | .str a => match PySem.intText? a with
    | some n => gd (decide (a.length ≤ 640)) (.ok (.int n))
    | none => .bad
  | _ => .bad
def isLandD : D → O D
  | .land _ => .ok (.bl true)
  | _ => .bad
theorem one_sign {s : Str} {ch : Nat} (h : s.cps.toList = [ch]) : s = ⟨#[ch]⟩ := Str.ext' (Array.toList_inj.mp h)
theorem strsD_is {c : Ct} {W : Addr → Prop} {H : Hp} : ∀ {xs : List V} {ds : List D} {ss : List Str}, IsA c W H xs ds → strsD ds = some ss → xs = ss.map V.str
  | _, [], _, .nil, h => by cases h; rfl
  | _, d :: ds, ss, .cons h t, e => by
    cases d with
    | str s =>
      cases e2 : strsD ds with
      | none => simp [strsD, e2] at e
      | some ms =>
        simp [strsD, e2] at e
        subst e
        rw [is_str h, strsD_is t e2]; rfl
    | _ => cases e
theorem isA_strs {c : Ct} {W : Addr → Prop} {H : Hp} : ∀ ss : List Str, IsA c W H (ss.map V.str) (ss.map D.str)
  | [] => .nil
  | s :: ss => .cons (.str s) (isA_strs ss)
theorem immA_strs : ∀ ss : List Str, immA (ss.map D.str) = true
  | [] => by simp
  | s :: ss => by rw [List.map_cons, immA_cons, immA_strs ss]; rfl
theorem rs_inS {c : Ct} : RS c (fun x y H Q => ∃ (ch : Nat) (z : Str), x = .str ⟨#[ch]⟩ ∧ y = .str z ∧ Q (.bl (decide (ch ∈ z.cps.toList))) H) (inS false) := by
  intro W W' x y dx dy H Q E hx hy po
  cases dx with
  | str s =>
    cases dy with
    | str z =>
      simp only [inS] at po
      cases hs : s.cps.toList with
      | nil => rw [hs] at po; exact po.elim
      | cons ch r =>
        cases r with
        | cons _ _ => rw [hs] at po; exact po.elim
        | nil =>
          rw [hs] at po
          refine ⟨ch, z, by rw [is_str hx, one_sign hs], is_str hy, po _ H (Same.refl H) fun Wz => ?_⟩
          rw [Bool.false_bne]; exact .bl _
    | _ => exact po.elim
  | _ => exact po.elim
theorem rs_notinS {c : Ct} : RS c (fun x y H Q => ∃ (ch : Nat) (z : Str), x = .str ⟨#[ch]⟩ ∧ y = .str z ∧ Q (.bl (!decide (ch ∈ z.cps.toList))) H) (inS true) := by
  intro W W' x y dx dy H Q E hx hy po
  cases dx with
  | str s =>
    cases dy with
    | str z =>
      simp only [inS] at po
      cases hs : s.cps.toList with
      | nil => rw [hs] at po; exact po.elim
      | cons ch r =>
        cases r with
        | cons _ _ => rw [hs] at po; exact po.elim
        | nil =>
          rw [hs] at po
          refine ⟨ch, z, by rw [is_str hx, one_sign hs], is_str hy, po _ H (Same.refl H) fun Wz => ?_⟩
          rw [Bool.true_bne]; exact .bl _
    | _ => exact po.elim
  | _ => exact po.elim
section
variable {X : Cx} {c : Ct} {M Ml M' : Nat → Mo} {We : WX} {al al' k : Nat} {e a b : Expr} {f fa fb : EF} {pos apos p2 : Pos} {lo hi : Option Expr} {pl ph : Rho → O (Option Int)} {rs : Sh} {g : SF}
theorem ve_strI {p : Pos} (h : VE X c M We al e f) (hg : Gl X "str") (hm : X.mg "str" = none) (hs : starEach [e] X.env = (false, eval e X.env) :: starEach [] X.env := by rfl) (hpl : (backTo pos (starEach [] X.env)).any (·.1) = false := by rfl) :
    VE X c M We 0 (.Call (.Name "str" p) [e] [] pos) (e1 strID f) := by
  obtain ⟨te, pe, s⟩ := h.ex
  refine ⟨_, pe_callTy call_str_int hg hm (by decide +kernel) (pa_cons pe pa_nil hs) (by decide) (by decide) hs hpl, fun w σ H ρ Q sl po => s w σ H ρ _ sl ((Po.bind po).imp (fun d _ q v H1 hs1 hi => ?_) fun _ _ q => q)⟩
  cases d with
  | int i =>
    obtain ⟨hb, q⟩ := Po.gd q
    refine ⟨i, by rw [is_int hi], ?_, q _ H1 hs1 (.str _)⟩
    have hb := of_decide_eq_true hb
    by_cases h0 : i.natAbs = 0
    · rw [h0]; decide
    · exact Nat.lt_trans ((Nat.log2_lt h0).mpr hb) (by decide)
  | _ => exact q.elim
theorem ve_join {x : Str} {j : Nat} (z : Cz X c We k) (hb : VE X c M We al b fb) (hs : starEach [b] X.env = [(false, eval b X.env)] := by rfl) (hbase : attributeBase (.Constant (.str x) j p2) "join" X.env (eval (.Constant (.str x) j p2) X.env) = eval (.Constant (.str x) j p2) X.env := by rfl) (hline : (apos.endLine == pos.line) = true := by rfl) :
    VE X c M We 0 (.Call (.Attribute (.Constant (.str x) j p2) "join" apos) [b] [] pos) (e1 (joinD (.str x)) fb) := by
  obtain ⟨tb, pb, sb⟩ := hb.ex
  refine ⟨_, pe_join pe_str pb hs hbase hline, fun w σ H ρ Q sl po => ?_⟩
  refine ⟨⟨x, rfl⟩, sb w σ H ρ _ sl ((Po.bind po).imp (fun d2 _ q v2 H2 hs2 hi2 => ?_) fun _ _ q => q)⟩
  cases d2 with
  | lst l =>
    cases hy : strsD l with
    | none => simp only [joinD, hy] at q; exact q.elim
    | some ys =>
      simp only [joinD, hy] at q
      obtain ⟨hz, q⟩ := Po.gd q
      obtain ⟨p, xs0, rfl, _, _⟩ := is_lst hi2
      obtain ⟨xs, h1, h2, _⟩ := sq_list (xs := xs0) hi2
      have e := strsD_is h1 hy
      subst e
      exact ⟨x, p, ys, rfl, rfl, .inl (by rw [z.K]; exact h2), Nat.le_trans (of_decide_eq_true hz) (by decide), q _ H2 hs2 (.str _)⟩
  | _ => exact q.elim
theorem vo_split {x : Str} {j : Nat} (ha : VE X c M We al a fa) (hs : starEach [.Constant (.str x) j p2] X.env = [(false, eval (.Constant (.str x) j p2) X.env)] := by rfl) (hbase : attributeBase a "split" X.env (eval a X.env) = eval a X.env := by rfl) (hline : (apos.endLine == pos.line) = true := by rfl) :
    VO X c M We (.l .fz) (.Call (.Attribute a "split" apos) [.Constant (.str x) j p2] [] pos) (e1 (fun d => splitD d (.str x)) fa) := by
  obtain ⟨ta, pa, sa⟩ := ha.ex
  refine ⟨_, pe_split pa pe_str hs hbase hline, fun w σ H ρ Q sl po => sa w σ H ρ _ sl ((Po.bind po).imp (fun d _ q v H1 hs1 hi1 => ?_) fun _ _ q => q)⟩
  cases d with
  | str s =>
    obtain ⟨hz, q⟩ := Po.gd q
    rw [Bool.and_eq_true, decide_eq_true_eq] at hz
    refine ⟨⟨s, is_str hi1⟩, s, x, is_str hi1, rfl, by simpa using hz.1, Nat.le_trans (Nat.add_le_add_right hz.2 2) (by decide), fun p hp => ?_⟩
    obtain ⟨o1, o2, o3, o4⟩ := own_new (w := w) hs1 hp (isA_strs (c := c) (W := fun _ => False) (H := H1) (Txt.split s x)) (immA_strs _)
    exact q _ _ [p] o1 o2 o3 o4
  | _ => exact q.elim
theorem ve_ends {x : Str} {j : Nat} (ha : VE X c M We al a fa) (hs : starEach [.Constant (.str x) j p2] X.env = [(false, eval (.Constant (.str x) j p2) X.env)] := by rfl) (hbase : attributeBase a "endswith" X.env (eval a X.env) = eval a X.env := by rfl) (hline : (apos.endLine == pos.line) = true := by rfl) :
    VE X c M We 0 (.Call (.Attribute a "endswith" apos) [.Constant (.str x) j p2] [] pos) (e1 (fun d => endD d (.str x)) fa) := by
  obtain ⟨ta, pa, sa⟩ := ha.ex
  refine ⟨_, pe_m1 PySem.F.slot_str_endswith PySem.F.type_str_endswith mt_endswith pa pe_str hs hbase hline, fun w σ H ρ Q sl po => sa w σ H ρ _ sl ((Po.bind po).imp (fun d _ q v H1 hs1 hi1 => ?_) fun _ _ q => q)⟩
  cases d with
  | str s => exact ⟨⟨s, is_str hi1⟩, s, x, is_str hi1, rfl, q _ H1 hs1 (.bl _)⟩
  | _ => exact q.elim
theorem ve_slS (ha : VE X c M We al a fa) (hl : VPo X c M We lo pl) (hh : VPo X c M We hi ph) : VE X c M We 0 (.Subscript a (.Slice lo hi none p2) pos) (eSlS fa pl ph) := by
  obtain ⟨ta, pa, sa⟩ := ha.ex
  obtain ⟨tl, pl', sl'⟩ := hl.ex
  obtain ⟨th, ph', sh⟩ := hh.ex
  refine ⟨_, pe_slice sl_str pa pl' ph', fun w σ H ρ Q sl po => sa w σ H ρ _ sl ((Po.bind po).imp (fun d _ q v H1 hs1 hi1 => ?_) fun _ _ q => q)⟩
  cases d with
  | str x =>
    replace q : Po ((pl ρ).bind fun lo => (ph ρ).bind fun hi => gd (decide (x.length ≤ 100000)) (.ok (D.str (cutS x lo hi)))) _ _ := q
    refine sl' w σ H1 ρ _ (sl.same hs1) ((Po.bind q).imp (fun o1 _ q H2 hs2 => ?_) fun _ _ q H' hs => q H' (hs1.trans hs))
    refine sh w σ H2 ρ _ ((sl.same hs1).same hs2) ((Po.bind q).imp (fun o2 _ q H3 hs3 => ?_) fun _ _ q H' hs => q H' ((hs1.trans hs2).trans hs))
    obtain ⟨hz, q⟩ := Po.gd q
    exact ⟨x, is_str hi1, Nat.le_trans (of_decide_eq_true hz) (by decide), q _ H3 ((hs1.trans hs2).trans hs3) (.str _)⟩
  | _ => exact q.elim
theorem ve_sin (ha : VE X c M We al a fa) (hb : VE X c M We al' b fb) (hmk : behindInMarks .In b = false := by first | exact nobehind _ (by decide) (by decide) | rfl) : VE X c M We 0 (.Compare a [.In] [b] pos) (e2 (inS false) fa fb) := ve_cmp op_in_sign rs_inS ha hb hmk
theorem vt_sin (ha : VE X c M We al a fa) (hb : VE X c M We al' b fb) (hmk : behindInMarks .In b = false := by first | exact nobehind _ (by decide) (by decide) | rfl) : VT X c M We (.Compare a [.In] [b] pos) (tE (e2 (inS false) fa fb)) := vt_cmp op_in_sign rs_inS ha hb hmk
theorem ve_snotin (ha : VE X c M We al a fa) (hb : VE X c M We al' b fb) (hmk : behindInMarks .NotIn b = false := by first | exact nobehind _ (by decide) (by decide) | rfl) : VE X c M We 0 (.Compare a [.NotIn] [b] pos) (e2 (inS true) fa fb) := ve_cmp op_notIn_sign rs_notinS ha hb hmk
theorem vt_snotin (ha : VE X c M We al a fa) (hb : VE X c M We al' b fb) (hmk : behindInMarks .NotIn b = false := by first | exact nobehind _ (by decide) (by decide) | rfl) : VT X c M We (.Compare a [.NotIn] [b] pos) (tE (e2 (inS true) fa fb)) := vt_cmp op_notIn_sign rs_notinS ha hb hmk
theorem ve_intS {p : Pos} (h : VE X c M We al e f) (hg : Gl X "int") (hm : X.mg "int" = none) (hs : starEach [e] X.env = (false, eval e X.env) :: starEach [] X.env := by rfl) (hpl : (backTo pos (starEach [] X.env)).any (·.1) = false := by rfl) :
    VE X c M We 0 (.Call (.Name "int" p) [e] [] pos) (e1 intSD f) := by
  obtain ⟨te, pe, s⟩ := h.ex
  refine ⟨_, pe_callTy call_int_str hg hm PyProof.Rows.boot_int (pa_cons pe pa_nil hs) (by decide) (by decide) hs hpl, fun w σ H ρ Q sl po => s w σ H ρ _ sl ((Po.bind po).imp (fun d _ q v H1 hs1 hi => ?_) fun _ _ q => q)⟩
  cases d with
  | str x =>
    cases hn : PySem.intText? x with
    | none => simp only [intSD, hn] at q; exact q.elim
    | some n =>
      simp only [intSD, hn] at q
      obtain ⟨hz, q⟩ := Po.gd q
      exact ⟨x, n, by rw [is_str hi], hn, of_decide_eq_true hz, q _ H1 hs1 (.int _)⟩
  | _ => exact q.elim
/-! ### what is never reached -/
def sBad : SF := fun _ => .bad
theorem vs_bad {st : Stmt} : VSt X c We rs Ml M M' st sBad := ⟨fun _ _ _ => False, ⟨fun _ _ _ _ _ _ h => h.elim⟩, fun _ _ _ _ _ _ po => po.elim⟩
theorem vss_bad {sts : List Stmt} : VSs X c We rs Ml M M' sts sBad := ⟨fun _ _ _ => False, ⟨fun _ _ _ _ _ _ h => h.elim⟩, fun _ _ _ _ _ _ po => po.elim⟩
/-- try .. except A: (whatever: nothing is raised) -/
def sTryN (g : SF) : SF := fun ρ => match g ρ with
  | .bad => .bad
  | .exc _ => .bad
  | .ok (.ex _ _) => .bad
  | .ok o => .ok o
theorem vs_tryN {x : Str} {c0 : Value} {body suite : List Stmt} {b₀ : Stmt} {np pos' : Pos} (z : Cz X c We k) (hb : ∀ (W : WX) (pn : List (Addr × Obj)) (xe : Value → Shared → Prop), Cz (X.tr pn xe) c W k → VSs (X.tr pn xe) c W rs Ml M M' body g) (hc : Names X x c0)
    (hst : X.stack = X.env :: X.outer := by rfl) (hfr : X.env.frame = some X.env.locals := by rfl) :
    VSt X c We rs Ml M M' (.Try body [.ExceptHandler (some (.Name x np)) none (b₀ :: suite) pos'] [] [] pos) (sTryN g) := by
  refine ⟨_, ps_try_only (tb := tBody X fun W pn xe t => PSs (X.tr pn xe) body t) (ts := fun _ _ _ _ _ _ => False) hst hfr hc takesNo (fun W pn xe h1 h2 => ⟨fun pins s σ H D I hw => ?_⟩) (fun a oe cls d pn hz hf => ⟨fun _ _ _ _ _ _ h => h.elim⟩), fun B σ H ρ D R po pn xe h1 h2 => ?_⟩
  · obtain ⟨t, ht, hd⟩ := hw pn xe h1 h2
    exact ht.run pins s σ H D I hd
  · obtain ⟨t, ht, hr⟩ := (hb _ pn xe (z.tr (takesN h1) h2)).ex
    refine ⟨t, ht, hr B σ H ρ D R ?_⟩
    unfold sTryN at po
    cases hg : g ρ with
    | bad => rw [hg] at po; exact po.elim
    | exc kx => rw [hg] at po; exact po.elim
    | ok out =>
      rw [hg] at po
      cases out with
      | ex kx ρ' => exact po.elim
      | nx ρ' => exact po
      | rt d ρ' => exact po
      | bk ρ' => exact po
      | ct ρ' => exact po
/-! ### isinstance of a land -/
structure ClsF (K : PySem.W.Frag) (C : Addr) : Prop where
  ha : PySem.W.findIn K (.ref C) "__class__" = some (some (.builtin "object.__class__"))
  hn : PySem.W.specialIn K (.builtin "object.__class__") "__get__" = some (some (.builtin "getset_descriptor.__get__"))
  ht : PySem.W.takesIn K (.builtin "object.__class__") = some true
  hm : PySem.W.mroIn K C (.type "object") = some true
theorem ve_isLand {p : Pos} {tn : Str} (lc : Cls X.K c.CL) (cf : ClsF X.K c.CL) (hL : X.mg tn = some (.ref c.CL)) (z : Cz X c We k) (h : VE X c M We al e f) (hg : Gl X "isinstance") (hm : X.mg "isinstance" = none) (hg2 : Gl X tn) (hd : (tn == ("__debug__" : Str)) = false := by decide)
    (hs : starEach [e, .Name tn p2] X.env = (false, eval e X.env) :: starEach [.Name tn p2] X.env := by rfl) (hs1 : starEach [.Name tn p2] X.env = (false, eval (.Name tn p2) X.env) :: starEach [] X.env := by rfl) (hpl : (backTo pos (starEach [.Name tn p2] X.env)).any (·.1) = false := by rfl) :
    VE X c M We 0 (.Call (.Name "isinstance" p) [e, .Name tn p2] [] pos) (e1 isLandD f) := by
  obtain ⟨te, pe, s⟩ := h.ex
  have hb : PE X (.Name tn p2) (tC (.ref c.CL)) := pe_glob (v := .ref c.CL) hg2 hL rfl hd
  refine ⟨_, pe_callB (call_isi (X := X)) hg hm PyProof.Rows.boot_isinstance (pa_cons pe (pa_cons hb pa_nil hs1) hs) (by decide) (by decide) hs hpl, fun w σ H ρ Q sl po => s w σ H ρ _ sl ((Po.bind po).imp (fun d _ q v H1 hs hi => ?_) fun _ _ q => q)⟩
  cases d with
  | land L =>
    cases hi with
    | land h1 h2 =>
      obtain ⟨dx, g, od, rs, e1, _⟩ := h1
      refine ⟨_, .ref c.CL, .ref c.CL, .ref c.CL, true, rfl, .own _, .base (.ins e1 lc cf.ha cf.hn cf.ht cf.hm), ?_, q _ H1 hs (.bl _)⟩
      unfold PySem.W.kitOne
      simp
  | _ => exact q.elim
end
end VS
set_option Elab.async false
set_option linter.all false
set_option maxRecDepth 100000
set_option maxHeartbeats 2000000
/-! VSet: set(xs) of tuples of ints, where the 64th item handed over is there already (the library's rule, that stops at 63 items handed over, turned to that), and its sorted list. -/
namespace VS
open PySem L2 PySem.Spec PyProof.Rows
section
variable {P : Program} {w : World} {A : Around} {E : Value → Shared → Prop} {s : Shared}
theorem add_there {a : Addr} {L : List (Addr × List Int)} {es : Array (Int × Value)} {ep : Nat} {t : SetTable} (R : SetTR P w s.heap a L es ep t) {x : Addr} {k : List Int} (hx : IsT P w s.heap k x) (hu : A.units < cLine) (hin : k ∈ L.map (·.2)) {Q : Bool → Shared → Prop} (hQ : Q false s) :
    wpAny (model P w) A (setAddHashed a (.ref x) (thash P w k)) Q E s := by
  obtain ⟨o, ho, hex, hd⟩ := R.ob
  unfold setAddHashed
  refine wpAny_holding ?_
  rw [show (100000 : Nat) = 99999 + 1 from rfl, setAddHashedIn_succ]
  refine wpAny_bind (wpAny_setState_of ho hd R.fits ?_)
  dsimp only
  refine wp_if_neg (by simp [byScan, Value.scannable]) ?_
  try refine wpAny_bind (wpAny_pure ?_)
  refine wpAny_bind (search_at R hx hu (fun hm => ?_) fun K hm _ _ => absurd hin hm)
  dsimp only
  exact wpAny_pure hQ
theorem set_update_more {I : Addr} {fp wr : List Addr} {G : Array GenState → Array GenState → Prop} {n : Nat} {Pv : Nat → Value → Prop} {St : Nat → Shared → Prop} {R : Result → Shared → Prop}
    (W : WalksS P w A.in1 I fp wr G n Pv St) (S : Addr) (hSf : S ∉ fp) (ks : List (Addr × List Int)) (hn : n = ks.length) (hfew : ∀ i p, ks[i]? = some p → i + 1 < 64 ∨ p.2 ∈ (ks.take i).map (·.2)) (hval : ∀ i v, Pv i v → ∃ p, ks[i]? = some p ∧ v = .ref p.1)
    (h0 : Heap) (hk : ∀ p ∈ ks, IsT P w h0 p.2 p.1) (hS0 : h0.get? S = none) (hw0 : ∀ b ∈ wr, h0.get? b = none) (hu : A.in1.units < cLine) :
    ∀ (k i : Nat) (s : Shared), n - i = k → i ≤ n → St i s → (∀ b o, h0.get? b = some o → s.heap.get? b = some o) → (∃ L es ep t, SetTR P w s.heap S L es ep t ∧ Got ks i L) →
      (∀ s' L es ep t, Moved (S :: wr) G s s' → SetTR P w s'.heap S L es ep t → Got ks n L → (∀ b o, h0.get? b = some o → s'.heap.get? b = some o) → R (.ok (.ret .none)) s') →
      codeAny (model P w) A (.builtin "set.update.loop" ⟨[.ref S, .ref I], []⟩) R s := by
  have hSw : S ∉ wr := fun h => hSf (W.sub _ h)
  have hsub : ∀ b ∈ wr, b ∈ S :: wr := fun b hb => List.mem_cons_of_mem _ hb
  have keepM : ∀ {s s' : Shared}, Moved wr G s s' → (∀ b o, h0.get? b = some o → s.heap.get? b = some o) → ∀ b o, h0.get? b = some o → s'.heap.get? b = some o := fun hm hkp b o e =>
    hm.heap b o (fun hb => by rw [hw0 b hb] at e; cases e) (hkp b o e)
  intro k
  induction k with
  | zero =>
    intro i s hk' hi hst hkp ⟨L, es, ep, t, hS, g⟩ hR
    have hin : i = n := by omega
    subst hin
    refine codeAny_builtin F.entry_set_update_loop ?_
    rw [Around.under_plainId F.plain_set_update_loop _]
    show wpAny _ A.in1 (pyNext (.ref I) >>= _) _ _ s
    refine wpAny_bind (W.done s _ _ hst fun s' hm => ?_)
    show wpAny _ A.in1 (ret Value.none) _ _ s'
    have hkp' := keepM hm hkp
    have sub : ∀ p ∈ L, p ∈ ks := fun p hp => List.mem_of_mem_take (g.sub p hp)
    exact wpAny_pure (hR s' L es ep t (hm.mono hsub) (hS.keep (fun o e => hm.heap S o hSw e) fun p hp => isT_keep (hk p (sub p hp)) hkp') g hkp')
  | succ k ih =>
    intro i s hk' hi hst hkp ⟨L, es, ep, t, hS, g⟩ hR
    have hlt : i < n := by omega
    refine codeAny_builtin F.entry_set_update_loop ?_
    rw [Around.under_plainId F.plain_set_update_loop _]
    show wpAny _ A.in1 (pyNext (.ref I) >>= _) _ _ s
    refine wpAny_bind (W.item i s _ _ hlt hst fun v s' hP hst' hm => ?_)
    obtain ⟨p, hp, rfl⟩ := hval i v hP
    have hkp' := keepM hm hkp
    have sub : ∀ p ∈ L, p ∈ ks := fun p hp => List.mem_of_mem_take (g.sub p hp)
    have hS' : SetTR P w s'.heap S L es ep t := hS.keep (fun o e => hm.heap S o hSw e) fun q hq => isT_keep (hk q (sub q hq)) hkp'
    have hx : IsT P w s'.heap p.2 p.1 := isT_keep (hk p (List.mem_of_getElem? hp)) hkp'
    show wpAny _ A.in1 (holding [Value.ref p.1] (setAdd S (.ref p.1)) >>= _) _ _ s'
    refine wpAny_bind (wpAny_holding ?_)
    unfold setAdd
    refine wpAny_holding ?_
    refine wpAny_bind (wpAny_pyHash_tuple hu hx ?_)
    have step : ∀ {Q : Bool → Shared → Prop} {E : Value → Shared → Prop}, (∀ b h' L' es' ep' t', Heap.SameBut S s'.heap h' → SetTR P w h' S L' es' ep' t' → (p.2 ∈ L.map (·.2) → L' = L) → (p.2 ∉ L.map (·.2) → L'.Perm ((p.1, p.2) :: L)) → Q b { s' with toks := s'.toks + (p.2.length + 1), heap := h' }) →
        wpAny (model P w) A.in1 (setAddHashed S (.ref p.1) (thash P w p.2)) Q E { s' with toks := s'.toks + (p.2.length + 1) } := fun {Q E} hQ => by
      rcases hfew i p hp with hf | hf
      · exact add_at (s := { s' with toks := s'.toks + (p.2.length + 1) }) hS' hx hu (by have := g.len; omega) fun b h' L' es' ep' t' hsb hS2 c1 c2 => hQ b h' L' es' ep' t' hsb hS2 c1 c2
      · obtain ⟨q, hq, e⟩ := List.mem_map.mp hf
        have hin : p.2 ∈ L.map (·.2) := e ▸ g.all q hq
        exact add_there (s := { s' with toks := s'.toks + (p.2.length + 1) }) hS' hx hu hin (hQ false s'.heap L es ep t (Heap.SameBut.refl S s'.heap) hS' (fun _ => rfl) fun z => absurd hin z)
    refine step fun b h' L' es' ep' t' hsb hS2 c1 c2 => ?_
    have g' : Got ks (i + 1) L' := by
      rcases Classical.em (p.2 ∈ L.map (·.2)) with c | c
      · rw [c1 c]; exact g.same hp c
      · exact g.more hp (c2 c)
    have hkp2 : ∀ b o, h0.get? b = some o → h'.get? b = some o := fun b o e => (hsb.2 b (fun z => by rw [z, hS0] at e; cases e)).trans (hkp' b o e)
    refine wpAny_pure ⟨plainId_quiet F.plain_set_update_loop _, ih (i + 1) _ (by omega) hlt (W.frame _ s' _ _ hst' (Nat.le_add_right _ _) fun b hb o e => ?_) hkp2 ⟨L', es', ep', t', hS2, g'⟩ fun s'' L2 es2 ep2 t2 hm'' hS'' g'' hkp'' => ?_⟩
    · rw [hsb.2 b (fun h : b = S => hSf (by rw [← h]; exact hb))]; exact e
    · refine hR s'' L2 es2 ep2 t2 (Moved.trans W.gtrans ((hm.mono hsub).then_heap (Nat.le_add_right _ _) fun b o hb e => ?_) hm'') hS'' g'' hkp''
      rw [hsb.2 b (fun h : b = S => hb (by rw [h]; exact List.mem_cons_self))]; exact e

set_option maxRecDepth 100000 in
set_option maxHeartbeats 3200000 in
/-- set(xs) -/
theorem call_set_more {l : Addr} {items : Array Value} (ks : List (Addr × List Int)) {Q : Value → Shared → Prop} (hh : A.handled = none) (hl : s.heap.IsList l items) (hit : items.toList = ks.map fun p => Value.ref p.1)
    (hk : ∀ p ∈ ks, IsT P w s.heap p.2 p.1) (hfew : ∀ i p, ks[i]? = some p → i + 1 < 64 ∨ p.2 ∈ (ks.take i).map (·.2)) (hu : A.units + 3 < cLine)
    (h : ∀ (h' : Heap) (tk : Nat) L es ep t, SetTR P w h' s.heap.objs.size L es ep t → Got ks ks.length L → (∀ b o, s.heap.get? b = some o → h'.get? b = some o) → Q (.ref s.heap.objs.size) { s with heap := h', toks := tk }) :
    wpAny (model P w) A (call (.type "set") [.ref l]) Q E s := by
  have hisz : items.size = ks.length := by
    have q := congrArg List.length hit
    rw [Array.length_toList, List.length_map] at q
    exact q
  obtain ⟨c, tl, hmro⟩ := F.called_set.mro
  have hmade := F.called_set.made
  have hsub := F.called_set.sub
  refine wpAny_call (codeAny_of_tree ?_)
  show wpAny _ _ (callAny (.type "set") _) _ _ _
  refine wpAny_pure ⟨Code.quiet_builtin _ (by decide +kernel), codeAny_builtin F.entry_type_call ?_⟩
  rw [Around.under_plain (weight_type_call_type "set" [.ref l] []) rfl]
  have h1 := F.called_set.notType
  have h2 := F.called_set.canCreate
  have hct := F.typeCall_set_1 (.ref l)
  repeat (any_goals (first | assumption | wp_step))

  refine codeAny_mono (code_set_led1 (.ref l) (E := E) (Q₁ := fun obj s₁ => obj = .ref s.heap.objs.size ∧ s₁ = { s with heap := s.heap.push { cls := .type "set", dict := none, data := .set #[] 0 (.fresh 0 0 (!w.params.followText "set-order")) } }) ⟨rfl, rfl⟩) fun r s₁ hr => ?_
  cases r with
  | error e => exact hr
  | ok fl =>
    cases fl with
    | ret obj =>
      obtain ⟨rfl, rfl⟩ := hr
      have hS : (s.heap.push { cls := .type "set", dict := none, data := .set #[] 0 (.fresh 0 0 (!w.params.followText "set-order")) }).get? s.heap.objs.size = some { cls := .type "set", dict := none, data := .set #[] 0 (.fresh 0 0 (!w.params.followText "set-order")) } := Heap.get?_push_size _ rfl
      have hT : Shared.TypeIs { s with heap := s.heap.push { cls := .type "set", dict := none, data := .set #[] 0 (.fresh 0 0 (!w.params.followText "set-order")) } } (.ref s.heap.objs.size) "set" := ⟨_, hS, rfl⟩
      have hli := F.called_set.init.lookup
      have hbi := F.called_set.init.bind (.ref s.heap.objs.size)
      repeat (any_goals (first | assumption | wp_step))

      refine codeAny_mono (codeAny_call_builtin (R := wants (fun r s₂ => r = .none ∧ ∃ h' tk L es ep t, s₂ = { s with heap := h', toks := tk } ∧ SetTR P w h' s.heap.objs.size L es ep t ∧ Got ks ks.length L ∧
          (∀ b o, s.heap.get? b = some o → h'.get? b = some o)) E) F.called_set.init.plain F.entry_set_init (check_set_init_1 hT ?_)) fun r₂ s₂ hr₂ => ?_
      · obtain ⟨ol, hol, hcl, nl, hdl⟩ := hl
        obtain ⟨ocls, odict, odata, oslots⟩ := ol
        simp only at hcl hdl
        subst hcl; subst hdl
        have hol' : (s.heap.push { cls := .type "set", dict := none, data := .set #[] 0 (.fresh 0 0 (!w.params.followText "set-order")) }).get? l = some { cls := .type "list", dict := odict, data := .seq items nl, slots := oslots } := Heap.get?_push_of_some _ hol
        have hsls := F.sub_list_set
        have hslf := F.sub_list_frozenset
        have hne : (Value.type "list" == Value.type "dict") = false := by decide
        have hl1 : (s.heap.push { cls := .type "set", dict := none, data := .set #[] 0 (.fresh 0 0 (!w.params.followText "set-order")) }).IsList l items := ⟨_, hol', rfl, nl, rfl⟩
        unfold Builtin.«set.__init__» noKeywords Builtin.Frozenset.updateFrom
        generalize hPI : pyIter = PI
        wp_walk
        subst hPI

        refine wpAny_pyIter_list hl1 ?_
        refine wpAny_bind (wpAny_runValue ?_)
        have hlS : l < s.heap.objs.size := Heap.lt_size hol
        have hh3 : A.in1.in1.in1.handled = none := by simp [hh]
        have hz1 : (s.heap.push { cls := .type "set", dict := none, data := .set #[] 0 (.fresh 0 0 (!w.params.followText "set-order")) }).objs.size = s.heap.objs.size + 1 := Heap.size_push ..
        have hneI : l ≠ (s.heap.push { cls := .type "set", dict := none, data := .set #[] 0 (.fresh 0 0 (!w.params.followText "set-order")) }).objs.size := by
          rw [Heap.size_push]; exact Nat.ne_of_lt (Nat.lt_succ_of_lt hlS)
        have hSf : s.heap.objs.size ∉ [(s.heap.push { cls := .type "set", dict := none, data := .set #[] 0 (.fresh 0 0 (!w.params.followText "set-order")) }).objs.size, l] := by
          rw [Heap.size_push]; simp only [List.mem_cons, List.mem_singleton, List.not_mem_nil, or_false, not_or]
          exact ⟨Nat.ne_of_lt (Nat.lt_succ_self _), Nat.ne_of_gt hlS⟩
        have hval : ∀ (i : Nat) (v : Value), items[i]? = some v → ∃ p, ks[i]? = some p ∧ v = .ref p.1 := fun i v hv => by
          have q : items.toList[i]? = some v := by rw [Array.getElem?_toList]; exact hv
          rw [hit, List.getElem?_map] at q
          cases hq : ks[i]? with
          | none => rw [hq] at q; cases q
          | some p =>
            rw [hq] at q
            exact ⟨p, rfl, (Option.some.inj q).symm⟩
        have none_of : ∀ b, s.heap.objs.size ≤ b → s.heap.get? b = none := fun b hb => by
          cases q : s.heap.get? b with
          | none => rfl
          | some o => exact absurd (Nat.lt_of_lt_of_le (Heap.lt_size q) hb) (Nat.lt_irrefl _)
        refine set_update_more ((Walks.list hh3 _ l hneI items).toS) s.heap.objs.size
          hSf ks hisz hfew hval s.heap hk (none_of _ (Nat.le_refl _)) (fun b hb => none_of b (by
            rw [List.mem_singleton.mp hb, Heap.size_push]
            exact Nat.le_succ _)) hu (items.size - 0) 0 _ (by omega) (Nat.zero_le _)
          ⟨⟨_, Heap.get?_push_size _ rfl, rfl, rfl⟩, (hl1.push _)⟩ (fun b o e => Heap.get?_push_of_some _ (Heap.get?_push_of_some _ e)) ?hS0 ?hR
        case hS0 =>
          have hget : ((s.heap.push { cls := .type "set", dict := none, data := .set #[] 0 (.fresh 0 0 (!w.params.followText "set-order")) }).push { cls := .type "list_iterator", data := .fields #[.ref l, .int 0 0] }).get? s.heap.objs.size
              = some { cls := .type "set", dict := none, data := .set #[] 0 (.fresh 0 0 (!w.params.followText "set-order")) } := Heap.get?_push_of_some _ hS
          exact ⟨[], #[], 0, _, setTR_fresh hget, Got.zero ks⟩
        case hR =>
          intro s' L es ep t hm hS' g' hkp
          obtain ⟨h', g2, d', tk', os'⟩ := s'
          have eg : g2 = s.gens := hm.gens
          have ed : d' = s.drawn := hm.drawn
          have eo : os' = s.os := hm.os
          subst eg; subst ed; subst eo
          show wpAny _ _ _ _ _ _
          refine wpAny_pure ?_
          show wpAny _ _ (ret Value.none) _ _ _
          rw [hisz] at g'
          exact wpAny_pure ⟨rfl, h', tk', L, es, ep, t, rfl, hS', g', hkp⟩

      · cases r₂ with
        | error e => exact hr₂
        | ok fl₂ =>
          cases fl₂ with
          | ret r =>
            obtain ⟨rfl, h', tk, L, es, ep, t, rfl, hS', g', hk'⟩ := hr₂
            repeat (any_goals (first | assumption | wp_step))
            exact h _ _ _ _ _ _ hS' g' hk'
          | _ => exact hr₂.elim
    | _ => exact hr.elim

end
def rSetOfM (K : PySem.W.Frag) (P : Program) (w : World) : List V → Hp → VK → Prop := fun xs H Q => ∃ (l : Addr) (ks : List (Addr × List Int)), xs = [V.ref l] ∧ SqL K H l (ks.map fun p => V.ref p.1) ∧ (∀ p ∈ ks, SqT K H p.1 (p.2.map V.int)) ∧ (∀ i p, ks[i]? = some p → i + 1 < 64 ∨ p.2 ∈ (ks.take i).map (·.2)) ∧
  ∀ a L, H a = none → (∀ p ∈ L, p ∈ ks) → (∀ p ∈ ks, p.2 ∈ L.map (·.2)) → Q (.ref a) (upd H a (SetTO P w a L))
theorem cr_setOfM {X : Cx} (hc : X.calm = true) (hu : X.A.units + 64 < cLine) : CallR X (.type "set") (rSetOfM X.K X.prog X.w) := by
  intro pins s σ H xs us Q I r h
  obtain ⟨l, ks, rfl, hl, hk, hf, q⟩ := h
  rw [Vals.ref1 r]
  obtain ⟨its, rv, pl, hz⟩ := I.list hl
  have hn : H s.heap.objs.size = none := I.hok.fresh (Nat.le_refl _)
  refine call_set_more (P := X.prog) (w := X.w) ks (I.ok.hd hc) pl.isList (by simpa using refs_of_vals rv) (fun p hp => I.isT (hk p hp)) hf (by omega) fun h' tk L es ep t R g k => ?_
  refine ⟨.ref s.heap.objs.size, upd H s.heap.objs.size (SetTO X.prog X.w s.heap.objs.size L), I.laid (t' := tk) k (Nat.le_refl _) (setTO_new R.t0), rfl, q _ L hn (fun p hp => ?_) fun p hp => ?_⟩
  · exact List.mem_of_mem_take (g.sub p hp)
  · exact g.all p (by rw [List.take_length]; exact hp)
end VS
set_option Elab.async false
set_option linter.all false
set_option maxRecDepth 100000
set_option maxHeartbeats 2000000
/-! VJs: sorted(set(xs)), xs a list of pairs of ints. -/
namespace VS
open PySem L2
/-- a list of pairs of ints -/
def prsD : List D → Option (List (Int × Int))
  | [] => some []
  | .tup [.int x, .int y] :: ds => match prsD ds with
    | some ps => some ((x, y) :: ps)
    | none => none
  | _ :: _ => none
def code2 (p : Int × Int) : Int := p.1 * 64 + p.2
/-- those of the list, each once, in order -/
def setC (ps : List (Int × Int)) : List (Int × Int) := ((List.range 4096).map fun (n : Nat) => (((n / 64 : Nat) : Int), ((n % 64 : Nat) : Int))).filter fun p => decide (p ∈ ps)
def prD (p : Int × Int) : D := .tup [.int p.1, .int p.2]
def okP (ps : List (Int × Int)) : Bool := ps.all (fun p => decide (0 ≤ p.1) && decide (p.1 < 64) && (decide (0 ≤ p.2) && decide (p.2 < 64))) && (decide (ps.length < 64) || (decide (ps.length = 64) && (match ps[63]? with
  | some p => decide (p ∈ ps.take 63)
  | none => false)))
def sortSetD : D → O D
  | .lst l => match prsD l with
    | some ps => gd (okP ps) (.ok (.lst ((setC ps).map prD)))
    | none => .bad
  | _ => .bad
theorem eq_of_lt {α : Type} (f : α → Int) : ∀ {l m : List α}, l.Pairwise (fun a b => f a < f b) → m.Pairwise (fun a b => f a < f b) → (∀ x, x ∈ l ↔ x ∈ m) → l = m
  | [], [], _, _, _ => rfl
  | [], b :: m, _, _, h => absurd ((h b).mpr (by simp)) (by simp)
  | a :: l, [], _, _, h => absurd ((h a).mp (by simp)) (by simp)
  | a :: l, b :: m, h1, h2, h => by
    obtain ⟨p1, q1⟩ := List.pairwise_cons.mp h1
    obtain ⟨p2, q2⟩ := List.pairwise_cons.mp h2
    have hab : a = b := by
      rcases List.mem_cons.mp ((h a).mp (by simp)) with e | e
      · exact e
      · rcases List.mem_cons.mp ((h b).mpr (by simp)) with e' | e'
        · exact e'.symm
        · have := p1 b e'; have := p2 a e; omega
    subst hab
    rw [eq_of_lt f q1 q2 fun x => ?_]
    constructor
    · intro hx
      rcases List.mem_cons.mp ((h x).mp (by simp [hx])) with e | e
      · rw [e] at hx; have := p1 a hx; omega
      · exact e
    · intro hx
      rcases List.mem_cons.mp ((h x).mpr (by simp [hx])) with e | e
      · rw [e] at hx; have := p2 a hx; omega
      · exact e
theorem setC_lt (ps : List (Int × Int)) : (setC ps).Pairwise fun a b => code2 a < code2 b := by
  unfold setC
  refine List.Pairwise.filter _ ?_
  rw [List.pairwise_map]
  refine List.Pairwise.imp (fun {a b} h => ?_) List.pairwise_lt_range
  show (((a / 64 : Nat) : Int)) * 64 + ((a % 64 : Nat) : Int) < ((b / 64 : Nat) : Int) * 64 + ((b % 64 : Nat) : Int)
  omega
theorem mem_setC {ps : List (Int × Int)} (h : ∀ p ∈ ps, 0 ≤ p.1 ∧ p.1 < 64 ∧ 0 ≤ p.2 ∧ p.2 < 64) (p : Int × Int) : p ∈ setC ps ↔ p ∈ ps := by
  unfold setC
  rw [List.mem_filter, decide_eq_true_eq]
  refine ⟨fun z => z.2, fun z => ⟨?_, z⟩⟩
  obtain ⟨a1, a2, a3, a4⟩ := h p z
  refine List.mem_map.mpr ⟨(p.1 * 64 + p.2).toNat, by rw [List.mem_range]; omega, ?_⟩
  obtain ⟨x, y⟩ := p
  simp only at a1 a2 a3 a4 ⊢
  rw [Prod.mk.injEq]
  omega
theorem okP_spec {ps : List (Int × Int)} (h : okP ps = true) : (∀ p ∈ ps, 0 ≤ p.1 ∧ p.1 < 64 ∧ 0 ≤ p.2 ∧ p.2 < 64) ∧ ∀ i p, ps[i]? = some p → i + 1 < 64 ∨ p ∈ ps.take i := by
  unfold okP at h
  rw [Bool.and_eq_true, List.all_eq_true] at h
  refine ⟨fun p hp => ?_, fun i p hi => ?_⟩
  · have := h.1 p hp
    simp only [Bool.and_eq_true, decide_eq_true_eq] at this
    omega
  · have hil : i < ps.length := (List.getElem?_eq_some_iff.mp hi).1
    have h2 := h.2
    rw [Bool.or_eq_true, decide_eq_true_eq, Bool.and_eq_true, decide_eq_true_eq] at h2
    rcases h2 with h2 | ⟨h2, h3⟩
    · left; omega
    · by_cases hi63 : i = 63
      · subst hi63
        rw [hi] at h3
        exact .inr (of_decide_eq_true h3)
      · left; omega
theorem prs_is {c : Ct} {W : Addr → Prop} {H : Hp} : ∀ {xs : List V} {ds : List D} {ps : List (Int × Int)}, IsA c W H xs ds → prsD ds = some ps → ∃ ks : List (Addr × List Int), xs = ks.map (fun p => V.ref p.1) ∧ ks.map (·.2) = ps.map (fun p => [p.1, p.2]) ∧ ∀ p ∈ ks, H p.1 = some (.tup (p.2.map V.int))
  | _, [], _, .nil, h => by cases h; exact ⟨[], rfl, rfl, by simp⟩
  | _, d :: ds, ps, .cons (v := v) h t, e => by
    match d, e with
    | .tup [.int x, .int y], e =>
      unfold prsD at e
      cases e2 : prsD ds with
      | none => rw [e2] at e; cases e
      | some qs =>
        rw [e2] at e
        cases e
        obtain ⟨ks, h1, h2, h3⟩ := prs_is t e2
        obtain ⟨a, ys, rfl, g1, g2⟩ := is_tup h
        cases g2 with
        | cons i1 t2 =>
          cases t2 with
          | cons i2 t3 =>
            cases t3
            rw [is_int i1, is_int i2] at g1
            refine ⟨(a, [x, y]) :: ks, by rw [h1]; rfl, by rw [List.map_cons, h2]; rfl, fun p hp => ?_⟩
            rcases List.mem_cons.mp hp with e | e
            · rw [e]; exact g1
            · exact h3 p e
section
variable {X : Cx} {c : Ct} {M : Nat → Mo} {We : WX} {k : Nat} {e : Expr} {f : EF} {pos p1 p2 q : Pos}
theorem vo_sortset (z : Cz X c We k) (h : VO X c M We (.l .fz) e f) (hg : Gl X "sorted") (hm : X.mg "sorted" = none) (hg2 : Gl X "set") (hm2 : X.mg "set" = none)
    (hs : starEach [e] X.env = (false, eval e X.env) :: starEach [] X.env := by rfl) (hpl : (backTo q (starEach [] X.env)).any (·.1) = false := by rfl)
    (hs2 : starEach [.Call (.Name "set" p2) [e] [] q] X.env = (false, eval (.Call (.Name "set" p2) [e] [] q) X.env) :: starEach [] X.env := by rfl) (hpl2 : (backTo pos (starEach [] X.env)).any (·.1) = false := by rfl) :
    VO X c M We (.l .fz) (.Call (.Name "sorted" p1) [.Call (.Name "set" p2) [e] [] q] [] pos) (e1 sortSetD f) := by
  obtain ⟨te, pe, s⟩ := h.ex
  refine ⟨_, pe_callB (cr_sortedT z.calm) hg hm (by decide +kernel) (pa_cons (pe_callTy (cr_setOfM z.calm (by have := z.hr.un; omega)) hg2 hm2 (by decide +kernel) (pa_cons pe pa_nil hs) (by decide) (by decide) hs hpl) pa_nil hs2) (by decide) (by decide) hs2 hpl2, fun w σ H ρ Q sl po => s w σ H ρ _ sl ((Po.bind po).imp (fun d _ qq v H1 F hs1 hn nd ho => ?_) fun _ _ q => q)⟩
  obtain ⟨a, xs, ds, Gs, rfl, rfl, ha, h3, eF⟩ := ho
  obtain ⟨h4, _⟩ := h3.ofFz
  cases hp : prsD ds with
  | none => simp only [sortSetD, hp] at qq; exact qq.elim
  | some ps =>
    simp only [sortSetD, hp] at qq
    obtain ⟨hok, qq⟩ := Po.gd qq
    obtain ⟨b1, b2⟩ := okP_spec hok
    obtain ⟨ks, g1, g2, g3⟩ := prs_is h4 hp
    have kmem : ∀ p ∈ ks, ∃ r ∈ ps, p.2 = [r.1, r.2] := fun p hp => by
      have : p.2 ∈ ks.map (·.2) := List.mem_map.mpr ⟨p, hp, rfl⟩
      rw [g2] at this
      obtain ⟨r, hr, e⟩ := List.mem_map.mp this
      exact ⟨r, hr, e.symm⟩
    refine ⟨a, ks, rfl, .inl (.of (by rw [ha, g1])), fun p hp => .of (g3 p hp), fun i p hi => ?_, fun a' L ha' hL hall => ?_⟩
    · have e2 : (ks.map (·.2))[i]? = some p.2 := by rw [List.getElem?_map, hi]; rfl
      rw [g2, List.getElem?_map] at e2
      cases hr : ps[i]? with
      | none => rw [hr] at e2; cases e2
      | some r =>
        rw [hr] at e2
        have er : [r.1, r.2] = p.2 := Option.some.inj e2
        rcases b2 i r hr with z | z
        · exact .inl z
        · right
          rw [List.map_take, g2, ← List.map_take, ← er]
          exact List.mem_map.mpr ⟨r, z, rfl⟩
    · have old : ∀ {b o}, H1 b = some o → (upd H1 a' (SetTO X.prog X.w a' L)) b = some o := fun {b o} e => by rw [upd_ne (ne_of_none e ha')]; exact e
      refine ⟨a', L, 2, 64, rfl, upd_same, fun p hp => .of (old (g3 p (hL p hp))), by decide, fun p hp => ?_, fun L' p' pm hnd hlt pw hp' => ?_⟩
      · obtain ⟨r, hr, e⟩ := kmem p (hL p hp)
        rw [e]
        refine ⟨rfl, fun m hm => ?_⟩
        have := b1 r hr
        simp only [List.mem_cons, List.not_mem_nil, or_false] at hm
        rcases hm with rfl | rfl <;> omega
      · -- the pairs in order
        have lmem : ∀ p ∈ L', ∃ r ∈ ps, p.2 = [r.1, r.2] := fun p hp => kmem p (hL p (pm.mem_iff.mp hp))
        obtain ⟨rs, hrs, hrm⟩ : ∃ rs : List (Int × Int), L'.map (·.2) = rs.map (fun p => [p.1, p.2]) ∧ ∀ r ∈ rs, r ∈ ps := by
          have : ∀ M : List (Addr × List Int), (∀ p ∈ M, ∃ r ∈ ps, p.2 = [r.1, r.2]) → ∃ rs : List (Int × Int), M.map (·.2) = rs.map (fun p => [p.1, p.2]) ∧ ∀ r ∈ rs, r ∈ ps := fun M => by
            induction M with
            | nil => exact fun _ => ⟨[], rfl, by simp⟩
            | cons x M ih =>
              intro hM
              obtain ⟨r, hr, e⟩ := hM x (by simp)
              obtain ⟨rs, h1, h2⟩ := ih fun p hp => hM p (by simp [hp])
              refine ⟨r :: rs, by rw [List.map_cons, List.map_cons, h1, e], fun y hy => ?_⟩
              rcases List.mem_cons.mp hy with rfl | hy
              · exact hr
              · exact h2 y hy
          exact this L' lmem
        have hcode : ∀ r : Int × Int, TS.code 64 [r.1, r.2] = code2 r := fun r => code_pair r.1 r.2
        have hpw : (rs.map fun p => [p.1, p.2]).Pairwise fun q r => TS.code 64 q ≤ TS.code 64 r := by
          rw [← hrs, List.pairwise_map]
          exact pw
        rw [List.pairwise_map] at hpw
        rw [hrs] at hnd
        have hnd' : rs.Nodup := List.Pairwise.of_map (fun p : Int × Int => [p.1, p.2]) (fun _ _ hne e => hne (by rw [e])) hnd
        have hlt' : rs.Pairwise fun a b => code2 a < code2 b := by
          have h5 := List.Pairwise.and_mem.mp (hpw.and hnd')
          refine h5.imp fun {x y} hxy => ?_
          obtain ⟨hx, hy, hle, hne⟩ := hxy
          rw [hcode, hcode] at hle
          have bx := b1 x (hrm x hx)
          have by' := b1 y (hrm y hy)
          have : code2 x ≠ code2 y := fun e => hne (by
            unfold code2 at e
            obtain ⟨x1, x2⟩ := x
            obtain ⟨y1, y2⟩ := y
            simp only at e bx by' ⊢
            rw [Prod.mk.injEq]
            omega)
          omega
        have hrs2 : rs = setC ps := by
          refine eq_of_lt code2 hlt' (setC_lt ps) fun x => ?_
          rw [mem_setC b1]
          refine ⟨hrm x, fun hx => ?_⟩
          -- each stands in the set
          have h6 : [x.1, x.2] ∈ ks.map (·.2) := by rw [g2]; exact List.mem_map.mpr ⟨x, hx, rfl⟩
          obtain ⟨p, hp, e⟩ := List.mem_map.mp h6
          have h7 : p.2 ∈ L.map (·.2) := hall p hp
          have h8 : p.2 ∈ L'.map (·.2) := (pm.map (·.2)).mem_iff.mpr h7
          rw [hrs, e] at h8
          obtain ⟨y, hy, e'⟩ := List.mem_map.mp h8
          have : y = x := by
            obtain ⟨y1, y2⟩ := y
            obtain ⟨x1, x2⟩ := x
            simp only [List.cons.injEq, and_true] at e'
            rw [e'.1, e'.2]
          exact this ▸ hy
        -- the new list
        have hs2 : Same H (upd H1 a' (SetTO X.prog X.w a' L)) := same_new hs1 ha'
        have himm : ∀ rs : List (Int × Int), VS.immA (rs.map prD) = true := fun rs => by
          induction rs with
          | nil => simp
          | cons r rs ih => rw [List.map_cons, immA_cons, ih]; simp [prD]
        have hisa : ∀ (M : List (Addr × List Int)) (rs : List (Int × Int)), M.map (·.2) = rs.map (fun p => [p.1, p.2]) → (∀ p ∈ M, p ∈ L') → IsA c (fun _ => False) (upd H1 a' (SetTO X.prog X.w a' L)) (M.map fun q => V.ref q.1) (rs.map prD) := fun M => by
          induction M with
          | nil =>
            intro rs e _
            cases rs with
            | nil => exact .nil
            | cons r rs => cases e
          | cons x M ih =>
            intro rs e hM
            cases rs with
            | nil => cases e
            | cons r rs =>
              simp only [List.map_cons, List.cons.injEq] at e
              refine .cons ?_ (ih rs e.2 fun p hp => hM p (by simp [hp]))
              have hx := g3 x (hL x (pm.mem_iff.mp (hM x (by simp))))
              rw [e.1] at hx
              exact .tup (old hx) (.cons (.int _) (.cons (.int _) .nil))
        have hA := hisa L' rs hrs fun p hp => hp
        obtain ⟨o1, o2, o3, o4⟩ := own_new (w := w) hs2 hp' hA (himm rs)
        rw [hrs2] at o4
        exact qq _ _ [p'] o1 o2 o3 o4
end
end VS
set_option Elab.async false
set_option linter.all false
set_option maxRecDepth 100000
set_option maxHeartbeats 2000000
/-! VE13: an except suite that raises another error; errors made of a text; what is set within a try. -/
namespace VS
open PySem L2
/-- a def that keeps a promise; its errors may hang on another one -/
structure DcX (P : Program) (w : World) (K : PySem.W.Frag) (mg : Str → Option Value) (base : Heap) (k : Nat) (x : Str) (sp : Sp) : Prop where
  ex : ∃ f fd ps, FnOk P w K mg base (L2.CX P w) k f fd ps sp ∧ Binds K fd ps [] ∧ mg x = some (.ref f) ∧ PySem.W.keepIn K (.ref f) = true
section
variable {X : Cx} {c : Ct} {M Ml M' : Nat → Mo} {We : WX} {al k k' i : Nat} {rs : Sh} {e : Expr} {f : EF} {g : SF} {pos pos' p p1 p2 p3 np : Pos}
theorem vo_callDX {x : Str} {F : List D → O D} {es : List Expr} {fs : AF} (z : Cz X c We k) (tx : L2.Takes X We) (dc : DcX X.prog X.w X.K X.mg X.base k' x (spP c rs F)) (hk : k' ≤ k) (t : VA X c M We 2 (e :: es) fs) (hg : Gl X x := by rfl) (hdb : (x == ("__debug__" : Str)) = false := by decide)
    (he : starEach (e :: es) X.env = (false, eval e X.env) :: starEach es X.env := by rfl) (hpl : (backTo pos (starEach es X.env)).any (·.1) = false := by rfl) :
    VO X c M We rs (.Call (.Name x p) (e :: es) [] pos) (eCall fs F) := by
  obtain ⟨f, fd, ps, G, hb, hm, kp⟩ := dc.ex
  obtain ⟨ta, pt, s⟩ := t.ex
  refine ⟨_, pe_callS (G.mono hk) z.hr hg hm kp hb (fun σ => L2.passAt tx σ) pt hdb he hpl, fun w σ H ρ Q sl po => s w σ H ρ _ sl ((Po.bind po).imp (fun ds _ q vs H1 hs hi => ?_) fun _ _ q => q)⟩
  refine ⟨ds, hi.up fun _ _ => trivial, q.imp (fun d _ q v H' Fp hs2 hn nd ho => q v H' Fp (hs.trans hs2) (fun a ha => hs.free (hn a ha)) nd (ho.mono (fun a x => ⟨.inr (hs.free x.1), x.2⟩) fun a o _ e => e)) fun kx _ q H' hs2 => q H' (hs.trans hs2)⟩
/-- raise A(e) -/
def sExc1 (kx : Value) (f : EF) : SF := fun ρ => (f ρ).bind fun _ => .exc kx
theorem vs_raise1 {x : Str} {C : Addr} (z : Cz X c We k) (tx : L2.Takes X We) (h : ExK X.K X.mg x C) (he : VE X c M We al e f) (hg : Gl X x := by rfl) (hdb : (x == ("__debug__" : Str)) = false := by decide)
    (hs : starEach [e] X.env = (false, eval e X.env) :: starEach [] X.env := by rfl) :
    VSt X c We rs Ml M M' (.Raise (some (.Call (.Name x p) [e] [] p3)) none pos) (sExc1 (.ref C) f) := by
  obtain ⟨te, pe, s⟩ := he.ex
  refine ⟨_, L2.ps_raise z.calm tx (SkE.pmk_own1 PySem.F.excBase_ValueError h.q h.g h.kp (raises_own h.b h.t) hg pe hs hdb), fun B σ H ρ D R po => ?_⟩
  obtain ⟨Fs, R⟩ := R
  exact s _ σ H ρ _ R.slots ((Po.exc_up R (Po.bind (r := f ρ) po)).imp (fun d _ q v H1 hs1 hi1 => q σ H1 fun p hp a o e hn => (R.same hs1).fr p hp a o e hn) fun _ _ q => q)
/-- x = e, what is raised leaves the state -/
theorem vs_setOK {x : Str} {s : Sh} (i : Nat) (h : VO X c M We s e f) (hm : M i = .o s) (hN : X.N.Nodup) (hi : X.N[i]? = some x := by rfl) (hx : Loc X.env.scope x := by first | exact .inl rfl | exact .inr rfl) (hs : swapsWith e (some (.Name x pos')) pos.line X.env = pure false := by rfl)
    (hf : X.fn x = true ∨ X.env.scope.names.lookup x = some .local := by first | exact .inl rfl | exact .inr rfl) : VSt X c We rs Ml M M (.Assign [.Name x pos'] e pos) (sK (sSet i f)) := by
  obtain ⟨te, p, s⟩ := h.ex
  refine ⟨_, ps_set (i := i) hN hi hx p hs hf, fun B σ H ρ D R po => ?_⟩
  obtain ⟨Fs, R⟩ := R
  refine s _ σ H ρ _ R.slots ?_
  unfold sK sSet at po
  cases hf : f ρ with
  | bad => rw [hf] at po; exact po.elim
  | exc k =>
    rw [hf] at po
    exact fun H' hs => po σ H' M ⟨Fs, R.same hs⟩
  | ok d =>
    rw [hf] at po
    cases hd : decide (i < ρ.length) with
    | false =>
      rw [O.bind_ok, hd] at po
      exact po.elim
    | true =>
      rw [O.bind_ok, hd, gd_true] at po
      exact fun v H' F hs hn nd ho => po _ H' (R.setO hm (of_decide_eq_true hd) hs hn nd ho)
/-- as vs_tryA, for bodies whose errors may hang on another one -/
theorem vs_tryAX {n x : Str} {c0 : Value} {body suite : List Stmt} {b₀ : Stmt} {h : Value → Option D} (z : Cz X c We k) (i : Nat) (hb : ∀ (W : WX) (pn : List (Addr × Obj)) (xe : Value → Shared → Prop), L2.Takes (X.tr pn xe) W → Cz (X.tr pn xe) c W k → VSs (X.tr pn xe) c W rs Ml M M' body g) (su : Su X c c0 i (b₀ :: suite) h) (hc : Names X x c0)
    (hN : X.N.Nodup) (hi : X.N[i]? = some n := by rfl) (hln : X.env.kindOf n = some .local := by rfl) (hst : X.stack = X.env :: X.outer := by rfl) (hfr : X.env.frame = some X.env.locals := by rfl) (hrs : rs = .fz ∨ rs = .m := by first | exact Or.inl rfl | exact Or.inr rfl) :
    VSt X c We rs Ml M M' (.Try body [.ExceptHandler (some (.Name x np)) (some n) (b₀ :: suite) pos'] [] [] pos) (sTry h i g) := by
  obtain ⟨ts, hsu, hread⟩ := su.ex
  refine ⟨_, ps_try_as (tb := tBody X fun W pn xe t => PSs (X.tr pn xe) body t) hst hfr hN hi hln hc takesNo (fun W pn xe h1 h2 => ⟨fun pins s σ H D I hw => ?_⟩) hsu, fun B σ H ρ D R po pn xe h1 h2 => ?_⟩
  · obtain ⟨t, ht, hd⟩ := hw pn xe h1 h2
    exact ht.run pins s σ H D I hd
  · obtain ⟨t, ht, hr⟩ := (hb _ pn xe h1 (z.tr (takesN h1) h2)).ex
    refine ⟨t, ht, hr B σ H ρ D R ?_⟩
    unfold sTry at po
    cases hg : g ρ with
    | bad => rw [hg] at po; exact po.elim
    | exc kx => rw [hg] at po; exact po.elim
    | ok out =>
      rw [hg] at po
      cases out with
      | ex kx ρ' =>
        dsimp only at po
        cases hk : h kx with
        | none => rw [hk] at po; exact po.elim
        | some r =>
          rw [hk] at po
          obtain ⟨hi', po⟩ := Po.gd po
          rw [Bool.and_eq_true, decide_eq_true_eq] at hi'
          obtain ⟨hm, hrd⟩ := hread kx r hk
          rintro σ' H' M2 ⟨Fs, R'⟩
          refine ⟨true, hm, fun _ a _ => hrd a _ _ _ ?_ fun v hv => ?_, fun e => by cases e⟩
          · rw [List.getElem?_set_self (by rw [R'.len]; exact hi'.2)]
          · refine po v H' ⟨M2, Fs, σ', [], R', by simp, by simp, ?_⟩
            rcases hrs with rfl | rfl
            · exact ⟨rfl, hv.up fun _ z => z.elim⟩
            · exact .inl ⟨rfl, hi'.1, hv.up fun _ z => z.elim⟩
      | nx ρ' => exact po
      | rt d ρ' => exact po
      | bk ρ' => exact po
      | ct ρ' => exact po
/-- if word(e) == lit: return None, then return s2 -/
theorem su_wordIf {L : Addr} {n y lit s2 : Str} {j j2 j3 : Nat} {wf : Addr → Option Str} {p4 p5 p7 p8 p9 p10 : Pos} (z : Cz X c We k) (dw : Dw X.prog X.w X.K X.mg X.base k' y wf) (hk : k' ≤ k) (hw : ∀ C w, wf C = some w → PySem.W.exmOne X.K (.ref C) (.ref L) = some true) (hg : Gl X y := by rfl)
    (hN : X.N[i]? = some n := by rfl) (hv : Vis X.env.scope n := by first | exact Or.inl rfl | exact Or.inr (Or.inl rfl) | exact Or.inr (Or.inr rfl)) (hd : (n == ("__debug__" : Str)) = false := by decide) (hcd : (n == ("__classdict__" : Str)) = false := by decide) (hdb : (y == ("__debug__" : Str)) = false := by decide)
    (hs : starEach [.Name n p1] X.env = (false, eval (.Name n p1) X.env) :: starEach [] X.env := by rfl) (hpl : (backTo p2 (starEach [] X.env)).any (·.1) = false := by rfl) :
    Su X c (.ref L) i [.If (.Compare (.Call (.Name y p3) [.Name n p1] [] p2) [.Eq] [.Constant (.str lit) j p4] p5) [.Return (some (.Constant .none j3 p7)) p8] [] p9, .Return (some (.Constant (.str s2) j2 p10)) pos] (hMap (fun w => if w = lit then .non else .str s2) wf) := by
  refine ⟨_, fun a oe cls d pn hz hf => pss_cons (ps_if (pt_cmpR (r := rEq) op_eq (pe_word dw hk z.hr hz hf hg (pv i hN hv hd hcd) hdb hs hpl) pe_str (nomark _)) (pss_one (ps_ret pe_non)) pss_nil) (pss_one (ps_ret pe_str)), fun kx r hr => ?_⟩
  obtain ⟨C, w, rfl, hwc, rfl⟩ := hMap_some hr
  refine ⟨hw C w hwc, fun a σ H D hσ q => ⟨.ref a, hσ, _, rfl, rfl, rfl, C, w, rfl, hwc, rfl, decide (w = lit), by simp, ?_⟩⟩
  by_cases e : w = lit
  · rw [decide_eq_true e]
    rw [if_pos e] at q
    exact iteT (q _ .non)
  · rw [decide_eq_false e]
    rw [if_neg e] at q
    exact iteF (q _ (.str s2))
theorem tryR_h [Exl] {K : PySem.W.Frag} (xw : ∀ C r, Exl.word C = some r → WordX K C r) : ∀ k, (fun k => (hMap .str Exl.word k).isSome) k = true → PySem.W.exmOne K k (.ref Exs.LandError) = some true := fun k h => by
  obtain ⟨r, hr⟩ := Option.isSome_iff_exists.mp h
  obtain ⟨C, w, rfl, hw, _⟩ := hMap_some hr
  exact (xw C w hw).k.m
/-- .. except A: raise B('m') -/
def sTryR (h : Value → Bool) (kx : Value) (g : SF) : SF := fun ρ => match g ρ with
  | .bad => .bad
  | .exc _ => .bad
  | .ok (.ex k _) => if h k = true then .exc kx else .bad
  | .ok o => .ok o
def tBodyN (X : Cx) (P : WX → List (Addr × Obj) → (Value → Shared → Prop) → TS → Prop) (W : WX) : TS := fun D σ H => ∀ (pn : List (Addr × Obj)) (xe : Value → Shared → Prop), L2N.Takes (X.tr pn xe) W → PassesOwn (model X.prog X.w) X.A X.env xe → ∃ t, P W pn xe t ∧ t D σ H
theorem vs_tryR {x nm m : Str} {j : Nat} {c0 : Value} {C : Addr} {body : List Stmt} {pr : Pos} {h : Value → Bool} (z : Cz X c We k) (tx : L2.Takes X We) (pa : ∀ hd : Option Value, PassesOwnAt (model X.prog X.w) (X.A.mark hd) X.A X.env X.xe)
    (hb : ∀ (W : WX) (pn : List (Addr × Obj)) (xe : Value → Shared → Prop), Cz (X.tr pn xe) c W k → VSs (X.tr pn xe) c W rs Ml M M' body g) (hh : ∀ k, h k = true → PySem.W.exmOne X.K k c0 = some true) (hc : Names X x c0) (hx : ExK X.K X.mg nm C)
    (hg : Gl X nm := by rfl) (hdb : (nm == ("__debug__" : Str)) = false := by decide) (hst : X.stack = X.env :: X.outer := by rfl) (hfr : X.env.frame = some X.env.locals := by rfl) :
    VSt X c We rs Ml M M' (.Try body [.ExceptHandler (some (.Name x np)) none [.Raise (some (.Call (.Name nm p) [.Constant (.str m) j p2] [] p3)) none pr] pos'] [] [] pos) (sTryR h (.ref C) g) := by
  refine ⟨_, L2H.ps_try_onlyX (tb := tBodyN X fun W pn xe t => PSs (X.tr pn xe) body t) (Wout := We) hst hfr hc pa tx (fun W pn xe h1 _ h2 => ⟨fun pins s σ H D I hw => ?_⟩)
    (fun a oe cls d pn hz hf tk hot => pss_one (L2H.ps_raiseH hot tk (L2N.pmk_own (X := L2H.suiteX X a ((a, oe) :: pn)) PySem.F.excBase_ValueError hx.q hx.g hx.kp (raises_own hx.b hx.t) hg hdb))), fun B σ H ρ D R po pn xe h1 h2 => ?_⟩
  · obtain ⟨t, ht, hd⟩ := hw pn xe h1 h2
    exact ht.run pins s σ H D I hd
  · obtain ⟨t, ht, hr⟩ := (hb _ pn xe (z.tr h1 h2)).ex
    refine ⟨t, ht, hr B σ H ρ D R ?_⟩
    unfold sTryR at po
    cases hg : g ρ with
    | bad => rw [hg] at po; exact po.elim
    | exc kx => rw [hg] at po; exact po.elim
    | ok out =>
      rw [hg] at po
      cases out with
      | ex kx ρ' =>
        dsimp only at po
        cases hk : h kx with
        | false =>
          rw [hk] at po
          exact po.elim
        | true =>
          rw [hk] at po
          rintro σ' H' M2 ⟨Fs, R'⟩
          exact ⟨true, hh kx hk, fun _ a _ => po σ' H' fun p hp a o e hn => R'.fr p hp a o e hn, fun e => by cases e⟩
      | nx ρ' => exact po
      | rt d ρ' => exact po
      | bk ρ' => exact po
      | ct ρ' => exact po
end
section
variable {P : Program} {w : World} {K : PySem.W.Frag} {mg : Str → Option Value} {base : Heap} {c : Ct}
/-- as fn_pure, for a def whose errors may hang on another one -/
theorem fn_pureX {x qual : Str} {st : Stmt} {f : Addr} {fd : FuncData} {N ps : List Str} {k : Nat} {rs : Sh} {g : SF} {M M' : Nat → Mo} (F : Fun K x qual st f fd) (S : FnScope N ps (defScope st)) (hK : K = c.K) (hM : ∀ i, i < ps.length → M i = .v 1)
    (hb : ∀ (cdv : Value) (A : Around) (outer : List Env) (s : Shared) (H : Hp) (E : XK), Cz (cxOf (L2.CX P w) P w K mg base N qual (defScope st) f cdv A outer s H E) c (fun cls d _ H => E cls d H) k →
      L2.Takes (cxOf (L2.CX P w) P w K mg base N qual (defScope st) f cdv A outer s H E) (fun cls d _ H => E cls d H) →
      (∀ hd : Option Value, PassesOwnAt (model P w) ((cxOf (L2.CX P w) P w K mg base N qual (defScope st) f cdv A outer s H E).A.mark hd) (cxOf (L2.CX P w) P w K mg base N qual (defScope st) f cdv A outer s H E).A (cxOf (L2.CX P w) P w K mg base N qual (defScope st) f cdv A outer s H E).env (cxOf (L2.CX P w) P w K mg base N qual (defScope st) f cdv A outer s H E).xe) →
      VSs (cxOf (L2.CX P w) P w K mg base N qual (defScope st) f cdv A outer s H E) c (fun cls d _ H => E cls d H) rs M M M' (defBody st) g) :
    FnOk P w K mg base (L2.CX P w) (k + 1) f fd ps (spP c rs (runF N.length ps.length rs g)) := by
  refine okG F S (fun vs H Q E h => ?_) (fun cdv A outer s H vs Q E hr h => ?_)
  · obtain ⟨ds, h1, h2⟩ := h
    obtain ⟨hl, _⟩ := Po.gd h2
    rw [Bool.and_eq_true, decide_eq_true_eq] at hl
    rw [h1.length, hl.1]
  · have tx : L2.Takes (cxOf (L2.CX P w) P w K mg base N qual (defScope st) f cdv A outer s H E) (fun cls d _ H => E cls d H) := L2.takes_of rfl rfl rfl rfl
    have z : Cz (cxOf (L2.CX P w) P w K mg base N qual (defScope st) f cdv A outer s H E) c (fun cls d _ H => E cls d H) k := ⟨hK, rfl, takesN tx, hr, passes_of rfl⟩
    obtain ⟨t, p, so⟩ := (hb cdv A outer s H E z tx (fun hd => L2H.passesAt_of rfl hd)).ex
    refine ⟨t, p, ?_⟩
    obtain ⟨ds, h1, h2⟩ := h
    obtain ⟨hl, h2⟩ := Po.gd h2
    rw [Bool.and_eq_true, decide_eq_true_eq, decide_eq_true_eq] at hl
    have h2 := Po.bind h2
    refine so ⟨H, [(H, fun _ => False)], []⟩ _ H (startD N.length ds) _ ⟨fun _ => [], ?_⟩ (h2.imp (fun out _ q => ?_) fun kx _ q σ' H' hf => q H' fun a o e => hf (H, fun _ => False) (by simp) a o e (fun z => z))
    · refine ⟨by simp, by simp, by simp, fun p hp a o e _ => ?_, by simp, by simp, fun a e => e, fun i d e => ?_, by simp, by simp [L2.start, startD, h1.length]⟩
      · have : p = (H, fun _ => False) := by simpa using hp
        rw [this] at e; exact e
      · obtain ⟨hi, v, e1, e2⟩ := isA_get h1 e
        have hv : i < vs.length := (List.getElem?_eq_some_iff.mp e1).1
        refine ⟨v, ?_, ?_⟩
        · unfold L2.start
          rw [List.getElem?_append_left (by simpa using hv), List.getElem?_map, e1]
          rfl
        · rw [hM i (by omega)]
          exact ⟨by decide, rfl, e2.up fun _ _ _ => by simp⟩
    · cases out with
      | nx ρ' =>
        intro σ' H' R
        obtain ⟨hrs, q⟩ := Po.gd q
        have hrs : rs = .fz := of_decide_eq_true hrs
        subst hrs
        obtain ⟨Fs, R⟩ := R
        exact q .non H' [] (fun a o e => R.fr (H, fun _ => False) (by simp) a o e (fun z => z)) (by simp) (by simp) ⟨rfl, .non⟩
      | rt d ρ' =>
        rintro v H' ⟨M2, Fs, σ2, Fp, R, n1, n2, n3⟩
        exact q v H' Fp (fun a o e => R.fr (H, fun _ => False) (by simp) a o e (fun z => z)) (fun a ha => (n2 a ha).1) n1 (n3.mono (fun a x => ⟨x.1, x.2.2⟩) fun a o _ e => e)
      | bk ρ' => exact q.elim
      | ct ρ' => exact q.elim
      | ex k ρ' =>
        rintro σ' H' M2 ⟨Fs, R⟩
        exact q H' fun a o e => R.fr (H, fun _ => False) (by simp) a o e (fun z => z)
end
end VS
set_option Elab.async false
set_option linter.all false
set_option maxRecDepth 100000
set_option maxHeartbeats 2000000
/-! VFd: a dict that is locked for good (its keys walked), list(d), d.clear(), {k: v}, sum. -/
namespace VS
open PySem L2
section
variable {X : Cx} {c : Ct} {M Ml M' : Nat → Mo} {We : WX} {al al' al'' k k' i : Nat} {rs : Sh} {a b d e : Expr} {es : List Expr} {f fa fb fd : EF} {g : SF} {pos pos' p p1 p2 p3 apos cpos : Pos} {sts : List Stmt}
/-- the thing at d stays locked from here on -/
theorem pss_lockP {t : TS} (h : PSs X sts t) : PSs X sts (fun D σ H => ∃ d u, H d = some u ∧ Mut (some u) ∧ ∀ od, t D σ (upd H d (.frz od u))) := by
  refine ⟨fun pins s σ H D I hw => ?_⟩
  obtain ⟨d, u, hd, mu, hw⟩ := hw
  obtain ⟨od, I1⟩ := I.lock hd mu
  exact h.run pins s σ _ D I1 (hw od)
def sLock (i : Nat) (g : SF) : SF := fun ρ => (eVar i ρ).bind fun x => (dctO x).bind fun m => gd (decide (i < ρ.length)) (g (ρ.set i (some (.fd m))))
theorem vss_lock (i : Nat) (hm : M i = .o .d) (h : VSs X c We rs Ml (fset M i (.v 0)) M' sts g) : VSs X c We rs Ml M M' sts (sLock i g) := by
  obtain ⟨t, p, s'⟩ := h.ex
  refine ⟨_, pss_lockP p, fun B σ H ρ D R po => ?_⟩
  obtain ⟨Fs, R⟩ := R
  have po : Po ((eVar i ρ).bind fun x => (dctO x).bind fun m => gd (decide (i < ρ.length)) (g (ρ.set i (some (.fd m))))) _ _ := po
  obtain ⟨x, er, po⟩ := po_var (i := i) (ρ := ρ) po
  cases x with
  | dct m =>
    obtain ⟨hil, po⟩ := Po.gd po
    have hil := of_decide_eq_true hil
    obtain ⟨v, e1, e2⟩ := R.sl i _ er
    rw [hm] at e2
    obtain ⟨q0, kss, vs, ds, rfl, ed, h1, h2, h3, eF⟩ := e2
    cases ed
    have hq : q0 ∈ Fs i := by rw [eF]; simp
    refine ⟨q0, _, h1, trivial, fun od => s' B σ _ _ D ?_ po⟩
    have hsub : ∀ j a, a ∈ fset Fs i [] j → a ∈ Fs j ∧ j ≠ i := fun j a z => by
      by_cases hj : j = i
      · rw [hj, fset_self] at z; simp at z
      · rw [fset_ne hj] at z; exact ⟨z, hj⟩
    have hne : ∀ j a, a ∈ fset Fs i [] j → a ≠ q0 := fun j a z e => by
      obtain ⟨z1, z2⟩ := hsub j a z
      rw [e] at z1
      exact z2 (R.dj j i q0 z1 hq)
    have hst : ∀ (Wz : Addr → Prop), (∀ a, Wz a → a ≠ q0) → ∀ a o, (Wz a ∨ VS.sta o) → H a = some o → upd H q0 (.frz od (.dT (kss.zip vs))) a = some o := fun Wz hw a o x e => by
      rw [upd_ne (fun z => ?_)]
      · exact e
      · rcases x with x | x
        · exact hw a x z
        · rw [z, h1] at e; cases e; exact x
    refine ⟨fset Fs i [], fun j => ?_, fun j l a ha hb => R.dj j l a (hsub j a ha).1 (hsub l a hb).1, fun j a ha => ?_, fun pp hp a o e hn => ?_, fun pp hp j a ha => R.out pp hp j a (hsub j a ha).1, fun j s hs a ha => ?_, fun a e => ?_, fun j dj ej => ?_, fun q hq' => ?_, ?_⟩
    · by_cases hj : j = i
      · rw [hj, fset_self]; simp
      · rw [fset_ne hj]; exact R.nd j
    · obtain ⟨o, e, n⟩ := R.th j a (hsub j a ha).1
      exact ⟨o, by rw [upd_ne (hne j a ha)]; exact e, n⟩
    · rw [upd_ne (fun z => ?_)]
      · exact R.fr pp hp a o e hn
      · rw [z] at e hn
        rcases R.out pp hp i q0 hq with y | y
        · rw [y] at e; cases e
        · exact hn y
    · by_cases hj : j = i
      · rw [hj, fset_self] at ha; simp at ha
      · rw [fset_ne hj] at hs; exact R.own j s hs a (hsub j a ha).1
    · by_cases h : a = q0
      · rw [h, upd_same] at e; cases e
      · rw [upd_ne h] at e; exact R.old a e
    · by_cases hj : j = i
      · subst hj
        rw [List.getElem?_set_self hil] at ej
        cases ej
        refine ⟨.ref q0, e1, ?_⟩
        rw [fset_self, fset_self]
        refine ⟨by decide, rfl, .fd upd_same h2 (h3.mono (fun a x => ⟨fun l z => x.1 l (hsub l a z).1, x.2⟩) (hst _ fun a x z => x.1 j (by rw [z]; exact hq)))⟩
      · rw [List.getElem?_set_ne (Ne.symm hj)] at ej
        obtain ⟨v, f1, f2⟩ := R.sl j dj ej
        refine ⟨v, f1, ?_⟩
        rw [fset_ne hj, fset_ne hj]
        refine f2.mono (fun al a hal x _ => ?_) fun a o x e => ?_
        · match al, hal, x with
          | 0, _, x => exact ⟨fun l z => x.1 l (hsub l a z).1, x.2⟩
          | 1, _, x => exact fun l z => x l (hsub l a z).1
        · rw [upd_ne (fun z => ?_)]
          · exact e
          · rcases x with x | x | x
            · exact x i (by rw [z]; exact hq)
            · rw [z] at x; exact hj (R.dj j i q0 x hq)
            · rw [z, h1] at e; cases e; exact x
    · obtain ⟨m1, m2⟩ := R.mp q hq'
      refine ⟨m1, ?_⟩
      rw [fset_ne (fun z => ?_)]
      · exact m2
      · rw [z, hm] at m2; cases m2
    · rw [List.length_set]; exact R.len
  | _ => exact po.elim
/-! ### reading it -/
def fdO : D → O (List (List Key × D))
  | .fd m => .ok m
  | _ => .bad
def keyT (ks : List Key) : D := .tup (ks.map fun
  | .inl i => .int i
  | .inr s => .str s)
def iFd (f : EF) : AF := fun ρ => (f ρ).bind fun x => (fdO x).bind fun m => .ok (m.map fun p => keyT p.1)
theorem isA_keys {W : Addr → Prop} {H : Hp} : ∀ ks : List Key, IsA c W H (ks.map kV) (ks.map fun
    | .inl i => D.int i
    | .inr s => .str s)
  | [] => .nil
  | .inl i :: ks => .cons (.int i) (isA_keys ks)
  | .inr s :: ks => .cons (.str s) (isA_keys ks)
theorem is_key {W : Addr → Prop} {H : Hp} {q : Addr} {ks : List Key} (h : H q = some (.tup (ks.map kV))) : Is c W H (.ref q) (keyT ks) := .tup h (isA_keys ks)
theorem zip_key {ks : List (List Key)} {vs : List V} {ds : List D} (h1 : vs.length = ks.length) (h2 : vs.length = ds.length) : (ks.zip ds).map (fun p => keyT p.1) = (ks.zip vs).map fun p => keyT p.1 := by
  have e : ∀ {α : Type} (l : List α), l.length = ks.length → (ks.zip l).map (fun p => keyT p.1) = ks.map keyT := fun l hl => by
    rw [show (fun p : List Key × _ => keyT p.1) = keyT ∘ Prod.fst from rfl, ← List.map_map, List.map_fst_zip (by omega)]
  rw [e ds (by omega), e vs h1]
theorem vi_fd {tg : Expr} (z : Cz X c We k) (h : VE X c M We al e f) : VI X c M We 0 tg e (iFd f) := by
  obtain ⟨te, pe, s⟩ := h.ex
  refine ⟨_, pi_keys pe, fun w σ H ρ R sl po => s w σ H ρ _ sl ((Po.bind po).imp (fun d _ q v H' hs hi => ?_) fun _ _ q => q)⟩
  cases d with
  | fd m =>
    cases hi with
    | @fd a o kss vs ds h2 h3 h4 =>
      have q : ∀ (J : It) (G : Hp → Prop) (Y : Nat → Hp → V → Hp → Prop) (H' : Hp), Same H H' → Walk J ((kss.zip ds).map fun p => keyT p.1).length G Y → (∀ H'', Kp (NW w 0 H) H' H'' → G H'') → (∀ i Hi x Hi', i < ((kss.zip ds).map fun p => keyT p.1).length → Kp (NW w 0 H) H' Hi → Y i Hi x Hi' → Same Hi Hi' ∧ ∃ d, ((kss.zip ds).map fun p => keyT p.1)[i]? = some d ∧ ∀ W' : Addr → Prop, (∀ a, NW w 0 H a → H' a ≠ none → W' a) → Is c W' Hi' x d) → R J H' := q
      rw [zip_key h3 h4.length] at q
      refine ⟨a, o, rfl, .inr ⟨_, h2, q _ (fun Hx => Hx a = some (.frz o (.dT (kss.zip vs)))) _ H' hs (by rw [List.length_map]; exact walk_keysT) (fun H'' hk => hk _ _ (.inr trivial) h2) fun i Hi x Hi' hlt hk hy => ?_⟩⟩
      obtain ⟨rfl, kk, vv, q0, g1, rfl, g2⟩ := hy
      exact ⟨Same.refl _, keyT kk, by rw [List.getElem?_map, g1]; rfl, fun W' _ => is_key g2⟩
  | _ => exact q.elim
def ixF (x y : D) : O D := (fdO x).bind fun m => (ofO (keyD y)).bind fun ks => ofO (lookD m ks)
theorem ve_ixF (z : Cz X c We k) (ha : VE X c M We al a fa) (hb : VE X c M We al' b fb) (hs : PlainIx b := by exact fun _ _ => rfl) : VE X c M We al (.Subscript a b pos) (e2 ixF fa fb) := by
  obtain ⟨ta, pa, sa⟩ := ha.ex
  obtain ⟨tb, pb, sb⟩ := hb.ex
  refine ⟨_, pe_dget (hu_of z.hr) pa pb hs, fun w σ H ρ Q sl po => sa w σ H ρ _ sl ((Po.bind po).imp (fun d _ q v H1 hs hi => ?_) fun _ _ q => q)⟩
  refine sb w σ H1 ρ _ (sl.same hs) ((Po.bind q).imp (fun d2 _ q v2 H2 hs2 hi2 => ?_) fun _ _ q H2 hs2 => q H2 (hs.trans hs2))
  have hi' := hi.same hs2
  cases d with
  | fd m =>
    obtain ⟨ks, hk, q1⟩ := Po.ofO (Po.bind (r := ofO (keyD d2)) q)
    obtain ⟨d3, hl, q2⟩ := Po.ofO q1
    obtain ⟨b0, rfl, hb0⟩ := key_is hi2 hk
    cases hi' with
    | @fd a0 o kss vs ds h2 h3 h4 =>
      obtain ⟨v3, e3, i3⟩ := (look_is h4 h3).1 d3 hl
      exact ⟨a0, v3, rfl, by rw [← e3]; exact .inr ⟨_, ks, b0, .inr ⟨_, h2⟩, rfl, hb0, rfl⟩, q2 v3 H2 (hs.trans hs2) i3⟩
  | _ => exact q.elim
def eGetF (fa fb fd : EF) : EF := fun ρ => (fa ρ).bind fun x => (fdO x).bind fun m => (fb ρ).bind fun k => (fd ρ).bind fun z => (ofO (keyD k)).bind fun ks => .ok ((lookD m ks).getD z)
theorem ve_getF (z : Cz X c We k) (ha : VE X c M We al a fa) (hb : VE X c M We al' b fb) (hd : VE X c M We al'' d fd) (m : M2 X a "get" apos b d cpos := by exact ⟨rfl, rfl, rfl, rfl⟩) : VE X c M We (max al al'') (.Call (.Attribute a "get" apos) [b, d] [] cpos) (eGetF fa fb fd) := by
  obtain ⟨ta, pa, sa⟩ := ha.ex
  obtain ⟨tb, pb, sb⟩ := hb.ex
  obtain ⟨td, pd, sd⟩ := hd.ex
  refine ⟨_, pe_dget2 (hu_of z.hr) pa pb pd m, fun w σ H ρ Q sl po => ?_⟩
  refine sa w σ H ρ _ sl ((Po.bind po).imp (fun x _ q v H1 hs1 hi1 => ?_) fun _ _ q => q)
  cases x with
  | fd mm =>
    have q : Po ((fb ρ).bind fun k => (fd ρ).bind fun z => (ofO (keyD k)).bind fun ks => .ok ((lookD mm ks).getD z)) _ _ := q
    cases hi1 with
    | @fd p o kss vs ds h2 h3 h4 =>
      refine ⟨p, rfl, .inr ⟨_, .inr ⟨_, h2⟩⟩, sb w σ H1 ρ _ (sl.same hs1) ((Po.bind q).imp (fun y _ q v2 H2 hs2 hi2 => ?_) fun _ _ q H' hs => q H' (hs1.trans hs))⟩
      refine sd w σ H2 ρ _ ((sl.same hs1).same hs2) ((Po.bind q).imp (fun zd _ q v3 H3 hs3 hi3 => ?_) fun _ _ q H' hs => q H' ((hs1.trans hs2).trans hs))
      obtain ⟨ks, hk, q⟩ := Po.ofO (Po.bind (r := ofO (keyD y)) q)
      obtain ⟨bb, rfl, hbb⟩ := key_is hi2 hk
      have hs23 := hs2.trans hs3
      refine ⟨_, .inr ⟨_, ks, bb, .inr ⟨_, hs23 _ _ h2⟩, rfl, hs3 _ _ hbb, rfl⟩, q _ H3 ((hs1.trans hs2).trans hs3) ?_⟩
      obtain ⟨l1, l2⟩ := look_is (k := ks) h4 h3
      have up1 : ∀ {vv dd}, Is c (NW w al H) H1 vv dd → Is c (NW w (max al al'') H) H3 vv dd := fun h => (h.same hs23).up (NW.up (Nat.le_max_left _ _))
      have up2 : Is c (NW w (max al al'') H) H3 v3 zd := hi3.up fun a x => NW.up (Nat.le_max_right al al'') a (NW.back hs1 a (NW.back hs2 a x))
      cases hl : lookD (kss.zip ds) ks with
      | none => rw [l2 hl]; exact up2
      | some dd =>
        obtain ⟨vv, e1, e2⟩ := l1 dd hl
        rw [e1]; exact up1 e2
  | _ => exact q.elim
/-- list(d) -/
def listF : D → O D := fun x => (fdO x).bind fun m => .ok (.lst (m.map fun p => keyT p.1))
def listDct : D → O D := fun x => (dctO x).bind fun m => .ok (.lst (m.map fun p => keyT p.1))
theorem immA_keys (l : List (List Key)) : immA (l.map keyT) = true := by
  induction l with
  | nil => simp
  | cons ks l ih =>
    rw [List.map_cons, immA_cons, ih, Bool.and_true]
    show D.imm (.tup _) = true
    rw [imm_tup]
    induction ks with
    | nil => simp
    | cons x ks ih2 => cases x <;> simp [ih2]
theorem isKeys_isA {W : Addr → Prop} {H : Hp} : ∀ {kvs : List (List Key × V)} {bs : List Addr}, IsKeys H kvs bs → IsA c W H (bs.map V.ref) (kvs.map fun p => keyT p.1)
  | _, _, .nil => .nil
  | _, _, .cons h t => .cons (is_key h) (isKeys_isA t)
theorem vo_listF (z : Cz X c We k) (h : VE X c M We al e f) (hg : Gl X "list") (hm : X.mg "list" = none) (hs : starEach [e] X.env = (false, eval e X.env) :: starEach [] X.env := by rfl) (hpl : (backTo pos (starEach [] X.env)).any (·.1) = false := by rfl) :
    VO X c M We (.l .fz) (.Call (.Name "list" p) [e] [] pos) (e1 listF f) := by
  obtain ⟨te, pe, s⟩ := h.ex
  refine ⟨_, pe_callTy (call_list_dT z.calm) hg hm (by decide +kernel) (pa_cons pe pa_nil hs) (by decide) (by decide) hs hpl, fun w σ H ρ Q sl po => s w σ H ρ _ sl ((Po.bind po).imp (fun d _ q v H1 hs1 hi => ?_) fun _ _ q => q)⟩
  cases d with
  | fd m =>
    cases hi with
    | @fd a0 o kss vs ds h2 h3 h4 =>
      refine ⟨a0, _, rfl, .inr ⟨_, h2⟩, fun p bs hp hk => ?_⟩
      have q : Po (O.ok (D.lst ((kss.zip ds).map fun p => keyT p.1))) _ _ := q
      rw [zip_key h3 h4.length] at q
      obtain ⟨o1, o2, o3, o4⟩ := own_new (w := w) hs1 hp (isKeys_isA (c := c) (W := fun _ => False) hk) (by
        rw [show (fun p : List Key × V => keyT p.1) = keyT ∘ Prod.fst from rfl, ← List.map_map]
        exact immA_keys _)
      exact q _ _ [p] o1 o2 o3 o4
  | _ => exact q.elim
theorem vo_listD (z : Cz X c We k) (h : VE X c M We al e f) (hg : Gl X "list") (hm : X.mg "list" = none) (hs : starEach [e] X.env = (false, eval e X.env) :: starEach [] X.env := by rfl) (hpl : (backTo pos (starEach [] X.env)).any (·.1) = false := by rfl) :
    VO X c M We (.l .fz) (.Call (.Name "list" p) [e] [] pos) (e1 listDct f) := by
  obtain ⟨te, pe, s⟩ := h.ex
  refine ⟨_, pe_callTy (call_list_dT z.calm) hg hm (by decide +kernel) (pa_cons pe pa_nil hs) (by decide) (by decide) hs hpl, fun w σ H ρ Q sl po => s w σ H ρ _ sl ((Po.bind po).imp (fun d _ q v H1 hs1 hi => ?_) fun _ _ q => q)⟩
  cases d with
  | dct m =>
    cases hi with
    | @dct a0 kss vs ds h1 h2 h3 h4 =>
      refine ⟨a0, _, rfl, .inl h2, fun p bs hp hk => ?_⟩
      have q : Po (O.ok (D.lst ((kss.zip ds).map fun p => keyT p.1))) _ _ := q
      rw [zip_key h3 h4.length] at q
      obtain ⟨o1, o2, o3, o4⟩ := own_new (w := w) hs1 hp (isKeys_isA (c := c) (W := fun _ => False) hk) (by
        rw [show (fun p : List Key × V => keyT p.1) = keyT ∘ Prod.fst from rfl, ← List.map_map]
        exact immA_keys _)
      exact q _ _ [p] o1 o2 o3 o4
  | _ => exact q.elim
/-- sum(ints) -/
def intsL : List D → Option (List Int)
  | [] => some []
  | .int i :: ds => match intsL ds with
    | some l => some (i :: l)
    | none => none
  | _ :: _ => none
def sumD : D → O D
  | .lst l => match intsL l with
    | some ns => .ok (.int ns.sum)
    | none => .bad
  | _ => .bad
theorem intsL_is {W : Addr → Prop} {H : Hp} : ∀ {xs : List V} {ds : List D} {ns : List Int}, IsA c W H xs ds → intsL ds = some ns → xs = ns.map V.int
  | _, [], _, .nil, h => by cases h; rfl
  | _, d :: ds, ns, .cons h t, e => by
    cases d with
    | int i =>
      cases e2 : intsL ds with
      | none => simp [intsL, e2] at e
      | some ms =>
        simp [intsL, e2] at e
        subst e
        rw [is_int h, intsL_is t e2]; rfl
    | _ => cases e
theorem ve_sum (z : Cz X c We k) (h : VE X c M We al e f) (hg : Gl X "sum") (hm : X.mg "sum" = none) (hs : starEach [e] X.env = (false, eval e X.env) :: starEach [] X.env := by rfl) (hpl : (backTo pos (starEach [] X.env)).any (·.1) = false := by rfl) :
    VE X c M We 0 (.Call (.Name "sum" p) [e] [] pos) (e1 sumD f) := by
  obtain ⟨te, pe, s⟩ := h.ex
  refine ⟨_, pe_callB (cr_sum z.calm) hg hm (by decide +kernel) (pa_cons pe pa_nil hs) (by decide) (by decide) hs hpl, fun w σ H ρ Q sl po => s w σ H ρ _ sl ((Po.bind po).imp (fun d _ q v H1 hs1 hi => ?_) fun _ _ q => q)⟩
  cases d with
  | lst l =>
    cases hn : intsL l with
    | none => simp only [sumD, hn] at q; exact q.elim
    | some ns =>
      simp only [sumD, hn] at q
      obtain ⟨p, xs0, rfl, _, _⟩ := is_lst hi
      obtain ⟨xs, h1, h2, _⟩ := sq_list (xs := xs0) hi
      have e := intsL_is h1 hn
      subst e
      exact ⟨p, ns, rfl, by rw [z.K]; exact h2, q _ H1 hs1 (.int _)⟩
  | _ => exact q.elim
/-! ### d.clear() -/
def rDClearT : V → List V → Hp → VK → Prop := fun x vs H Q => ∃ (a : Addr) (kvs : List (List Key × V)), x = .ref a ∧ vs = [] ∧ H a = some (.dT kvs) ∧ Q .non (upd H a (.dT []))
theorem mtd_clearT {X : Cx} : MtR X "dict.clear" rDClearT := by
  intro pins s σ H x vs v us Q I rx rv h
  obtain ⟨a, kvs, ex, ev, e, q⟩ := h
  subst ex
  subst ev
  obtain rfl : v = Value.ref a := rx
  have hus := rv.zero
  subst hus
  obtain ⟨z, hd, ys, rel, dd⟩ := dt_of I.hok e
  have hl : kvs.length = ys.length := Paired.length rel
  refine PySem.clear_keyed (knd := tupleKind (mixKind X.prog X.w)) ⟨ys, dd, rfl⟩ (fun h' hm' hs' => ?_) (by rw [PySem.pairsH_length, ← hl]; exact z)
  obtain ⟨xs, ⟨o, es, ep, ho, hc, hdt, he, his, hn⟩, hx⟩ := hm'
  have hxs : xs = [] := List.eq_nil_of_length_eq_zero (by rw [← PySem.pairsH_length, hx]; rfl)
  subst hxs
  have I' : Inv X pins σ (upd H a (.dT [])) { s with heap := h' } := d_write (t' := s.toks) I (by rw [e]; exact True.intro) hs' ⟨o, ho⟩ ⟨Nat.zero_le _, hd, [], .nil, o, es, ep, ho, hc, hdt, he, List.nodup_nil⟩
  exact ⟨.non, _, I', rfl, q⟩
/-- x.clear(), its own dict -/
def sClearD (i : Nat) : SF := fun ρ => (eVar i ρ).bind fun x => (dctO x).bind fun _ => .ok (.nx (ρ.set i (some (.dct []))))
theorem tyV_d {K : PySem.W.Frag} {H : Hp} {a : Addr} {kvs : List (List Key × V)} (h : H a = some (.dT kvs)) : tyV K "dict" (.ref a) H := by
  unfold tyV
  exact .inr (.inr (.inl ⟨rfl, .inr ⟨_, h⟩⟩))
theorem vs_clearD {x : Str} (i : Nat) (hm : M i = .o .d) (hN : X.N[i]? = some x := by rfl) (hv : Vis X.env.scope x := by first | exact Or.inl rfl | exact Or.inr (Or.inl rfl) | exact Or.inr (Or.inr rfl)) (hd : (x == ("__debug__" : Str)) = false := by decide)
    (hcd : (x == ("__classdict__" : Str)) = false := by decide) (hbase : attributeBase (.Name x p2) "clear" X.env (eval (.Name x p2) X.env) = eval (.Name x p2) X.env := by rfl) (hline : (apos.endLine == cpos.line) = true := by rfl)
    (hs : swapsWith (.Call (.Attribute (.Name x p2) "clear" apos) [] [] cpos) none pos.line X.env = pure false := by rfl) :
    VSt X c We rs Ml M M (.Expr (.Call (.Attribute (.Name x p2) "clear" apos) [] [] cpos) pos) (sClearD i) := by
  refine ⟨_, ps_expr (pe_bm0 PySem.F.plainAttrs_dict PySem.F.slot_dict_clear PySem.F.type_dict_clear mtd_clearT (pv i hN hv hd hcd) hbase hline) hs, fun B σ H ρ D R po => ?_⟩
  obtain ⟨Fs, R⟩ := R
  have po : Po ((eVar i ρ).bind fun x => (dctO x).bind fun _ => O.ok (Out.nx (ρ.set i (some (.dct []))))) _ _ := po
  obtain ⟨dx, er, q⟩ := po_var (i := i) (ρ := ρ) po
  cases dx with
  | dct m =>
    obtain ⟨v', Wm, e1, ho, nd, hW, hth, put⟩ := R.mut (.inl hm) er
    obtain ⟨q0, kss, vs, ds, rfl, ed, h1, h2, h3, eF⟩ := ho
    refine ⟨_, e1, tyV_d h1, q0, _, rfl, rfl, h1, q σ _ ?_⟩
    refine put _ _ [q0] (fun b' o hb' eb => ?_) (fun b' eb => ?_) (by simp) (fun b' hb' => .inl (by rw [eF]; exact hb')) ⟨q0, [], [], [], rfl, rfl, upd_same, rfl, .nil, rfl⟩
    · rw [upd_ne (fun z => hb' (by rw [eF, z]; simp))]; exact eb
    · by_cases h : b' = q0
      · rw [h, upd_same] at eb; cases eb
      · rw [upd_ne h] at eb; exact eb
  | _ => exact q.elim
theorem vs_freshClearD (h : VO X c M We .d e f) (hbase : attributeBase e "clear" X.env (eval e X.env) = eval e X.env := by rfl) (hline : (apos.endLine == cpos.line) = true := by rfl)
    (hs : swapsWith (.Call (.Attribute e "clear" apos) [] [] cpos) none pos.line X.env = pure false := by rfl) : VSt X c We rs Ml M M (.Expr (.Call (.Attribute e "clear" apos) [] [] cpos) pos) (sDrop f) := by
  obtain ⟨te, p, so⟩ := h.ex
  refine ⟨_, ps_expr (pe_bm0 PySem.F.plainAttrs_dict PySem.F.slot_dict_clear PySem.F.type_dict_clear mtd_clearT p hbase hline) hs, fun B σ H ρ D R po => ?_⟩
  obtain ⟨Fs, R⟩ := R
  refine so _ σ H ρ _ R.slots ((Po.exc_up R (Po.bind po)).imp (fun d _ q v H' F hs hn nd ho => ?_) fun _ _ q => q)
  obtain ⟨a, kss, vs, ds, rfl, rfl, ha, _, _, eF⟩ := ho
  have hna : H a = none := hn a (by rw [eF]; simp)
  refine ⟨tyV_d ha, a, _, rfl, rfl, ha, q σ _ ⟨Fs, R.same fun b o eb => ?_⟩⟩
  rw [upd_ne (ne_of_none eb hna)]
  exact hs b o eb
/-! ### {k: v} -/
def tDct1 (tk tv : TE) : TE := fun σ H Q => ∀ p, H p = none → tk σ (upd H p (.dT [])) fun x H1 => tv σ H1 fun y H2 => ∃ (kk : List Key) (b : Addr), x = .ref b ∧ H2 b = some (.tup (kk.map kV)) ∧ H2 p = some (.dT []) ∧ Q (.ref p) (upd H2 p (.dT [(kk, y)]))
theorem pe_dct1 {tk tv : TE} (hu : X.A.units + 1 < cLine) (hk : PE X a tk) (hv : PE X b tv) (hsh : (evalEachOpt [some a] X.env).zip ((evalEach [b] X.env).map fun v => (do let x ← v; standAt pos; pure x)) = [(eval a X.env, (do let x ← eval b X.env; standAt pos; pure x))].map (fun (p : Sem Value × Sem Value) => (some p.1, p.2)) := by rfl) :
    PE X (.Dict [some a] [b] pos) (tDct1 tk tv) := by
  refine ⟨fun pins s σ H Q I h => ?_⟩
  rw [arm_eval_Dict, hsh, dictDisplay_pairs _ (by simp) (by simp)]
  refine wpAny_bind (wpAny_standAt (wpAny_bind (wpAny_subDictH (knd := tupleKind (mixKind X.prog X.w)) (Q := fun d s' => wpAny (model X.prog X.w) X.A (pure (Value.ref d)) _ X.xe s') (Nat.lt_of_succ_lt hu) (by simp) ?_)))
  have I1 : Inv X pins σ (upd H s.heap.objs.size (.dT [])) { s with heap := s.heap.push { cls := .type "dict", data := .dict #[] } } := I.laid (a := s.heap.objs.size) (o := .dT []) (t' := s.toks) (fun _ _ q => Heap.get?_push_of_some _ q) (Nat.le_refl _) (dt_empty s.heap I.big)
  refine evalPairs_cons (thn (hk.run pins _ σ _ _ I1 (h _ (I.hok.fresh (Nat.le_refl _)))) fun kv s1 ⟨x, H1, I2, rx, q1⟩ => ?_)
  refine wpAny_bind (thn (hv.run pins s1 σ H1 _ I2 q1) fun vv s2 ⟨y, H2, I3, ry, kk, b0, ex, hb, hp, q2⟩ => wpAny_bind (wpAny_standAt (wpAny_pure ?_)))
  refine evalPairs_nil ?_
  subst ex
  obtain rfl : kv = Value.ref b0 := rx
  obtain ⟨_, hsm, xs, rel, dd⟩ := dt_of I3.hok hp
  cases rel
  refine ⟨[(kk, b0, vv)], ⟨rfl, rfl, key_of I3.hok hb, trivial⟩, dd, fun h' tk hd' hs' => wpAny_pure ?_⟩
  obtain ⟨o, es, ep, ho, h2, h3, h4, _, h5⟩ := hd'
  have hkb : upd H2 s.heap.objs.size (.dT [(kk, y)]) b0 = some (.tup (kk.map kV)) := by
    rw [upd_ne (fun z => ?_)]
    · exact hb
    · rw [z, hp] at hb; cases hb
  have I4 : Inv X pins σ (upd H2 s.heap.objs.size (.dT [(kk, y)])) { s2 with heap := h', toks := tk } := d_write I3 (by rw [hp]; exact True.intro) hs' ⟨o, ho⟩ ⟨by show 1 ≤ sizeLine; decide, hsm, [(kk, b0, vv)], .cons ⟨rfl, hkb, ry⟩ .nil, o, es, ep, ho, h2, h3, h4, h5⟩
  exact ⟨.ref s.heap.objs.size, _, I4, rfl, q2⟩
def eDct1 (fk fv : EF) : EF := fun ρ => (fk ρ).bind fun x => (ofO (keyD x)).bind fun ks => (fv ρ).bind fun y => gd y.imm (.ok (.dct [(ks, y)]))
theorem vo_dct1 (z : Cz X c We k) (ha : VE X c M We al a fa) (hb : VE X c M We al' b fb) (hsh : (evalEachOpt [some a] X.env).zip ((evalEach [b] X.env).map fun v => (do let x ← v; standAt pos; pure x)) = [(eval a X.env, (do let x ← eval b X.env; standAt pos; pure x))].map (fun (p : Sem Value × Sem Value) => (some p.1, p.2)) := by rfl) :
    VO X c M We .d (.Dict [some a] [b] pos) (eDct1 fa fb) := by
  obtain ⟨ta, pa, sa⟩ := ha.ex
  obtain ⟨tb, pb, sb⟩ := hb.ex
  refine ⟨_, pe_dct1 (hu_of z.hr) pa pb hsh, fun w σ H ρ Q sl po => ?_⟩
  intro p hp
  have hs0 : Same H (upd H p (.dT [])) := same_new (Same.refl _) hp
  refine sa w σ _ ρ _ (sl.same hs0) ((Po.bind po).imp (fun x _ q v H1 hs1 hi1 => ?_) fun _ _ q H' hs => q H' (hs0.trans hs))
  obtain ⟨ks, hk, q⟩ := Po.ofO (Po.bind (r := ofO (keyD x)) q)
  refine sb w σ H1 ρ _ (sl.same (hs0.trans hs1)) ((Po.bind (r := fb ρ) q).imp (fun y _ q v2 H2 hs2 hi2 => ?_) fun _ _ q H' hs => q H' ((hs0.trans hs1).trans hs))
  obtain ⟨him, q⟩ := Po.gd q
  obtain ⟨bb, rfl, hbb⟩ := key_is hi1 hk
  have hp2 : H2 p = some (.dT []) := hs2 _ _ (hs1 _ _ upd_same)
  refine ⟨ks, bb, rfl, hs2 _ _ hbb, hp2, q _ _ [p] (fun a o e => ?_) (fun a ha => ?_) (by simp) ⟨p, [ks], [v2], [y], rfl, rfl, upd_same, rfl, .cons ?_ .nil, rfl⟩⟩
  · rw [upd_ne (ne_of_none e hp)]
    exact hs2 _ _ (hs1 _ _ (hs0 _ _ e))
  · have e : a = p := by simpa using ha
    rw [e]; exact hp
  · refine (Is.imm (W' := fun _ => False) (fun _ _ _ z => z) hi2 him).mono (fun _ z => z.elim) fun a o x e => ?_
    rw [upd_ne (fun z => ?_)]
    · exact e
    · rcases x with x | x
      · exact x.elim
      · rw [z, hp2] at e; cases e; exact x
/-! ### what is walked, by the state -/
structure VIR (X : Cx) (c : Ct) (M : Nat → Mo) (We : WX) (al : Nat) (tg it : Expr) (f : AF) : Prop where
  ex : ∃ wi, PI X tg it wi ∧ ∀ (B : Bs) (Fs : Nat → List Addr) (σ : L2.St) (H : Hp) (ρ : Rho) (R : It → Hp → Prop), RelF c M B Fs H σ ρ →
    Po (f ρ) (fun ds => ∀ (J : It) (G : Hp → Prop) (Y : Nat → Hp → V → Hp → Prop) (H' : Hp), Same H H' → Walk J ds.length G Y → (∀ H'', Kp (NW (wd B Fs) al H) H' H'' → G H'') →
      (∀ i Hi x Hi', i < ds.length → Kp (NW (wd B Fs) al H) H' Hi → Y i Hi x Hi' → Same Hi Hi' ∧ ∃ d, ds[i]? = some d ∧ ∀ W' : Addr → Prop, (∀ a, NW (wd B Fs) al H a → H' a ≠ none → W' a) → Is c W' Hi' x d) → R J H') (fun k => ∀ H', Same H H' → We k none σ H') → wi σ H R
section
variable {Ml : Nat → Mo}
theorem vs_forR {tg it : Expr} {fi : AF} {body : List Stmt} {h : D → Rho → O Rho} (z : Cz X c We k) (hi : VIR X c M We al tg it fi) (hal : al ≤ 1) (hg : VG X c M al tg h) (hb : VSs X c We rs M M M body g) (hfs : ∀ x, foldedSetIterable it X.env x = pure x := by intro _; rfl) : VSt X c We rs Ml M M (.For tg it body [] pos) (sFor fi h g) := by
  obtain ⟨wi, p, s⟩ := hi.ex
  obtain ⟨gg, pg, sg⟩ := hg.ex
  obtain ⟨tb, pb, sb⟩ := hb.ex
  refine ⟨_, ps_for z.po z.calm p pg pb hfs, fun B σ H ρ D R po => ?_⟩
  obtain ⟨Fs, R⟩ := R
  refine s B Fs σ H ρ _ R ((Po.exc_up R (Po.bind po)).imp (fun ds _ q J G Y H' hs wk hG hy => ?_) fun _ _ q => q)
  have R0 := (R.same hs).more
  -- what is kept of what is walked
  have kp : ∀ {Hi σi ρi} {Fi : Nat → List Addr}, RelF c M (B.more H' Fs) Fi Hi σi ρi → Kp (NW (wd B Fs) al H) H' Hi := fun {Hi σi ρi Fi} Ri a o x e => by
    refine Ri.fr (H', fun a => ∃ i, a ∈ Fs i) (List.mem_cons_self) a o e ?_
    rintro ⟨i, hm⟩
    rcases x with x | x
    · rcases x with x | x
      · exact (wd B Fs).up hal a x i hm
      · exact R.newNot x i hm
    · obtain ⟨o', e', n'⟩ := (R.same hs).th i a hm
      rw [e] at e'; cases e'; exact n' x
  have reg : ∀ {Hi σi ρi} {Fi : Nat → List Addr}, RelF c M (B.more H' Fs) Fi Hi σi ρi → ∀ a, NW (wd B Fs) al H a → H' a ≠ none → (wd B Fi).at al a := fun {Hi σi ρi Fi} Ri a x y => by
    have nin : ∀ i, a ∉ Fi i := fun i z => by
      rcases Ri.out (H', fun a => ∃ i, a ∈ Fs i) (List.mem_cons_self) i a z with e | ⟨l, e⟩
      · exact y e
      · rcases x with x | x
        · exact (wd B Fs).up hal a x l e
        · exact R.newNot x l e
    have h0 : al = 0 → B.H0 a = none := fun e => by
      subst e
      rcases x with x | x
      · exact x.2
      · exact R.old a x
    match al, hal, h0 with
    | 0, _, h0 => exact ⟨nin, h0 rfl⟩
    | 1, _, _ => exact nin
  refine for_it wk (fun i σ H => ∃ ρi, Rel c M (B.more H' Fs) H σ ρi ∧ PoS c Ml M B rs We (sFor.go h g (ds.drop i) ρi) D) ⟨ρ, ⟨Fs, R0⟩, by rw [List.drop_zero]; exact q⟩ (fun i σi Hi _ ⟨ρi, ⟨Fi, Ri⟩, _⟩ => hG Hi (kp Ri)) ?_ ?_
  · rintro i x σi Hi Hi' hlt ⟨ρi, ⟨Fi, Ri⟩, qi⟩ hY
    obtain ⟨st, d, ed, isd⟩ := hy i Hi x Hi' hlt (kp Ri) hY
    have ed2 : ds.drop i = d :: ds.drop (i + 1) := by
      obtain ⟨h1, h2⟩ := List.getElem?_eq_some_iff.mp ed
      rw [List.drop_eq_getElem_cons h1, h2]
    rw [ed2] at qi
    have Ri' := Ri.same st
    have qi := Po.bind qi
    refine sg _ Fi Hi' σi ρi x d _ Ri' (isd _ (reg Ri)) (qi.imp (fun ρ1 _ q1 σ2 R2 => ?_) fun _ _ _ => trivial)
    have q1 := Po.bind q1
    refine sb _ σ2 Hi' ρ1 _ R2 (q1.imp (fun out _ q2 => ?_) fun kx _ q2 σ' H' hf => q2 σ' H' fun p hp => hf p (List.mem_cons_of_mem _ hp))
    cases out with
    | nx ρ2 => exact fun σ' H' R' => ⟨ρ2, R', q2⟩
    | ct ρ2 => exact fun σ' H' R' => ⟨ρ2, R', q2⟩
    | bk ρ2 => exact fun σ' H' ⟨F', R'⟩ => q2 σ' H' ⟨F', R'.less⟩
    | rt d ρ2 => exact fun v H' ⟨M2, F2, σ2, F, R', n1, n2, n3⟩ => q2 v H' ⟨M2, F2, σ2, F, R'.less, n1, n2, n3⟩
    | ex k ρ2 => exact fun σ' H' M2 ⟨F', R'⟩ => q2 σ' H' M2 ⟨F', R'.less⟩
  · rintro σi Hi ⟨ρi, ⟨Fi, Ri⟩, qi⟩
    rw [List.drop_length] at qi
    exact qi σi Hi ⟨Fi, Ri.less⟩
end
def iLs (f : EF) : AF := fun ρ => (f ρ).bind lstD
/-- y[b], y its own list of what is read only -/
theorem vir_ixO {tg : Expr} {y : Str} (i : Nat) (z : Cz X c We k) (hm : M i = .o (.l .fz)) (hb : VE X c M We al' b fb) (hs : PlainIx b := by exact fun _ _ => rfl) (hN : X.N[i]? = some y := by rfl) (hv : Vis X.env.scope y := by first | exact Or.inl rfl | exact Or.inr (Or.inl rfl) | exact Or.inr (Or.inr rfl)) (hd : (y == ("__debug__" : Str)) = false := by decide)
    (hcd : (y == ("__classdict__" : Str)) = false := by decide) : VIR X c M We 0 tg (.Subscript (.Name y p2) b pos) (iLs (e2 ixD (eVar i) fb)) := by
  obtain ⟨tb, pb, sb⟩ := hb.ex
  refine ⟨_, pi_list (pe_ix ix_seq (pv i hN hv hd hcd) pb hs), fun B Fs σ H ρ RR R po => ?_⟩
  obtain ⟨dx, er, q⟩ := po_var (i := i) (ρ := ρ) (Po.bind po)
  obtain ⟨v0, e1, e2⟩ := R.sl i _ er
  rw [hm] at e2
  obtain ⟨p, xs, ds, Gs, rfl, rfl, hp, h3, eF⟩ := e2
  obtain ⟨h4, _⟩ := h3.ofFz
  refine ⟨.ref p, e1, sb _ σ H ρ _ R.slots ((Po.bind q).imp (fun d2 _ q v2 H2 hs2 hi2 => ?_) fun _ _ q => q)⟩
  cases d2 with
  | int jj =>
    obtain ⟨d3, hl, q⟩ := Po.ofO q
    obtain ⟨v3, e3, i3⟩ := isA_at (h4.same hs2) hl
    rw [is_int hi2]
    refine .inl ⟨p, xs, jj, v3, rfl, rfl, .inl (.of (hs2 _ _ hp)), e3, ?_⟩
    cases d3 with
    | lst l =>
      obtain ⟨a, xs0, rfl, _, _⟩ := is_lst i3
      obtain ⟨ys, g1, g2, g3⟩ := sq_list (xs := xs0) i3
      have q : ∀ (J : It) (G : Hp → Prop) (Y : Nat → Hp → V → Hp → Prop) (H' : Hp), Same H H' → Walk J l.length G Y → (∀ H'', Kp (NW (wd B Fs) 0 H) H' H'' → G H'') → (∀ i Hi x Hi', i < l.length → Kp (NW (wd B Fs) 0 H) H' Hi → Y i Hi x Hi' → Same Hi Hi' ∧ ∃ d, l[i]? = some d ∧ ∀ W' : Addr → Prop, (∀ a, NW (wd B Fs) 0 H a → H' a ≠ none → W' a) → Is c W' Hi' x d) → RR J H' := q
      have kp0 : ∀ {Hz : Hp}, Kp (NW (wd B Fs) 0 H) H2 Hz → Kp (wd B Fs).n H2 Hz := fun hk a o x e => hk a o (x.elim (fun y => .inl (.inl y)) .inr) e
      refine ⟨a, rfl, ⟨ys, by rw [z.K]; exact g2⟩, q _ (fun H => SqL X.K H a ys) (YAt ys) H2 hs2 (by rw [← g1.length]; exact walk_list) (fun H'' hk => by rw [z.K]; exact g3 H'' (kp0 hk)) fun n Hi x Hi' hi hk hy => ?_⟩
      obtain ⟨rfl, hx⟩ := hy
      obtain ⟨d, f1, f2⟩ := g1.get hx
      exact ⟨Same.refl _, d, f1, fun W' hw => kp_item f2 (kp0 hk) W' fun a y y' => hw a (.inl y) y'⟩
    | _ => exact q.elim
  | _ => exact q.elim
end
end VS
set_option Elab.async false
set_option linter.all false
set_option maxRecDepth 100000
set_option maxHeartbeats 2000000
/-! VZc: for a, b in zip(y, z): if ..: return ..; a.clear(), y its own list of lists. -/
namespace VS
open PySem L2
def zcGo (j l : Nat) (t : TF) (fe : EF) (ρ0 : Rho) : List (D × D) → O Out
  | [] => .ok (.nx ρ0)
  | (x, y) :: r => (t ((ρ0.set j (some x)).set l (some y))).bind fun b => if b = true then (fe ((ρ0.set j (some x)).set l (some y))).bind fun d => gd d.imm (.ok (.rt d ρ0)) else zcGo j l t fe ρ0 r
def sZipClr (i j l : Nat) (fz : EF) (t : TF) (fe : EF) : SF := fun ρ => (eVar i ρ).bind fun x => (lstD x).bind fun ds => (fz ρ).bind fun y => (lstD y).bind fun es =>
  gd (decide (i < ρ.length) && (decide (j < ρ.length) && (decide (l < ρ.length) && (decide (i ≠ j) && (decide (i ≠ l) && decide (j ≠ l)))))) (zcGo j l t fe (((ρ.set j none).set l none).set i none) (ds.zip es))
/-- its own rows, one by one -/
theorem P3.rowsA {c : Ct} {W : Addr → Prop} {H : Hp} : ∀ {vs : List V} {ds : List D} {Gs : List (List Addr)}, P3 (Own c W H (.l .fz)) vs ds Gs → ∃ rs : List Addr, vs = rs.map V.ref ∧ Gs.flatten = rs ∧ ∀ (m : Nat) (r : Addr), rs[m]? = some r → ∃ its ls, ds[m]? = some (.lst ls) ∧ H r = some (.lst its) ∧ IsA c W H its ls
  | _, _, _, .nil => ⟨[], rfl, rfl, fun m r h => by simp at h⟩
  | _, _, _, .cons (F := F) (Fs := Fs) h t => by
    obtain ⟨a, xs, ds, Gs', e1, e2, h1, h2, h3⟩ := h
    obtain ⟨rs, g1, g2, g3⟩ := t.rowsA
    obtain ⟨k1, k2⟩ := h2.ofFz
    refine ⟨a :: rs, by rw [e1, g1]; rfl, by rw [List.flatten_cons, h3, k2, g2]; rfl, fun m r hm => ?_⟩
    cases m with
    | zero =>
      simp at hm
      subst hm
      exact ⟨xs, ds, by rw [e2]; rfl, h1, k1⟩
    | succ m =>
      obtain ⟨its, ls, q1, q2, q3⟩ := g3 m r (by simpa using hm)
      exact ⟨its, ls, by simpa using q1, q2, q3⟩
section
variable {X : Cx} {c : Ct} {M Ml : Nat → Mo} {We : WX} {al aj ak k : Nat} {cnd ee ez : Expr} {fz fe : EF} {t : TF} {y x1 x2 : Str} {q1 q2 q3 q4 q5 q6 q7 apos cpos r1 r2 r3 pos : Pos} {kk : Nat}
theorem vs_zipClr (i j l : Nat) (z : Cz X c We k) (hmi : M i = .o (.l (.l .fz))) (hmj : M j = .v aj) (hml : M l = .v ak) (hz : VE X c M We al ez fz) (hal : al ≤ 1) (ht : VT X c (fset (fset M j (.v 2)) l (.v 2)) We cnd t) (hr : VO X c (fset (fset M j (.v 2)) l (.v 2)) We .fz ee fe)
    (hN : X.N.Nodup) (hgz : Gl X "zip" := by rfl) (hmz : X.mg "zip" = none) (hi : X.N[i]? = some y := by rfl) (hj : X.N[j]? = some x1 := by rfl) (hl : X.N[l]? = some x2 := by rfl)
    (hv : Vis X.env.scope y := by first | exact Or.inl rfl | exact Or.inr (Or.inl rfl) | exact Or.inr (Or.inr rfl)) (hd : (y == ("__debug__" : Str)) = false := by decide) (hcd : (y == ("__classdict__" : Str)) = false := by decide)
    (hvx : Vis X.env.scope x1 := by first | exact Or.inl rfl | exact Or.inr (Or.inl rfl) | exact Or.inr (Or.inr rfl)) (hdx : (x1 == ("__debug__" : Str)) = false := by decide) (hcdx : (x1 == ("__classdict__" : Str)) = false := by decide)
    (hx : Loc X.env.scope x1 := by first | exact .inl rfl | exact .inr rfl) (hf : X.fn x1 = true ∨ X.env.scope.names.lookup x1 = some .local := by first | exact .inl rfl | exact .inr rfl)
    (hx2 : Loc X.env.scope x2 := by first | exact .inl rfl | exact .inr rfl) (hf2 : X.fn x2 = true ∨ X.env.scope.names.lookup x2 = some .local := by first | exact .inl rfl | exact .inr rfl)
    (hse : starEach [.Name y q5, ez] X.env = (false, eval (.Name y q5) X.env) :: starEach [ez] X.env := by rfl) (hse1 : starEach [ez] X.env = (false, eval ez X.env) :: starEach [] X.env := by rfl) (hpl : (backTo q6 (starEach [ez] X.env)).any (·.1) = false := by rfl)
    (hbase : attributeBase (.Name x1 q7) "clear" X.env (eval (.Name x1 q7) X.env) = eval (.Name x1 q7) X.env := by rfl) (hline : (apos.endLine == cpos.line) = true := by rfl)
    (hs : swapsWith (.Call (.Attribute (.Name x1 q7) "clear" apos) [] [] cpos) none r3.line X.env = pure false := by rfl) (hfs : ∀ v, foldedSetIterable (.Call (.Name "zip" q4) [.Name y q5, ez] [] q6) X.env v = pure v := by intro _; rfl) :
    VSt X c We .fz Ml M M (.For (.Tuple [.Name x1 q1, .Name x2 q2] kk q3) (.Call (.Name "zip" q4) [.Name y q5, ez] [] q6) [.If cnd [.Return (some ee) r1] [] r2, .Expr (.Call (.Attribute (.Name x1 q7) "clear" apos) [] [] cpos) r3] [] pos) (sZipClr i j l fz t fe) := by
  obtain ⟨tz, pz, sz⟩ := hz.ex
  obtain ⟨tt, pt, stt⟩ := ht.ex
  obtain ⟨te, pe, se⟩ := hr.ex
  refine ⟨_, ps_for z.po z.calm (pi_zip hgz hmz (pa_cons (pv i hi hv hd hcd) (pa_cons pz pa_nil hse1) hse) hse hpl) (pg_tup (n := 2) z.calm (pgs_cons (pg_name (i := j) hN hj hx hf) (pgs_cons (pg_name (i := l) hN hl hx2 hf2) pgs_nil)))
    (pss_cons (ps_if pt (pss_one (ps_ret pe)) pss_nil) (pss_one (ps_expr (pe_bm0 PySem.F.plainAttrs_list PySem.F.slot_list_clear PySem.F.type_list_clear mt_clear (pv j hj hvx hdx hcdx) hbase hline) hs))) hfs, fun B σ H ρ D R po => ?_⟩
  obtain ⟨Fs, R⟩ := R
  obtain ⟨ds, er, po⟩ := po_lst po
  obtain ⟨v0, e1, e2⟩ := R.sl i _ er
  rw [hmi] at e2
  obtain ⟨q, xs, ds', Gs, rfl, ed, hq, h3, eF⟩ := e2
  cases ed
  refine ⟨.ref q, e1, sz _ σ H ρ _ R.slots ((Po.exc_up R (Po.bind (r := fz ρ) po)).imp (fun dz _ po v2 H1 hs1 hi2 => ?_) fun _ _ q => q)⟩
  cases dz with
  | lst es =>
    have po : PoS c Ml M B .fz We (gd (decide (i < ρ.length) && (decide (j < ρ.length) && (decide (l < ρ.length) && (decide (i ≠ j) && (decide (i ≠ l) && decide (j ≠ l)))))) (zcGo j l t fe (((ρ.set j none).set l none).set i none) (ds.zip es))) D := po
    obtain ⟨hb, po⟩ := Po.gd po
    simp only [Bool.and_eq_true, decide_eq_true_eq] at hb
    obtain ⟨bi, bj, bl, nij, nil_, njl⟩ := hb
    have R1 := R.same hs1
    have h3 : P3 (Own c (wd B Fs).n H1 (.l .fz)) xs ds Gs := h3.imp fun v d F hF h => h.mono (fun _ x => x) fun a o _ e => hs1 a o e
    have hq1 : H1 q = some (.lst xs) := hs1 _ _ hq
    obtain ⟨rs, ex, eG, hrow⟩ := h3.rowsA
    subst ex
    rw [eG] at eF
    have hnd := R.nd i
    rw [eF] at hnd
    have hqn : q ∉ rs := (List.nodup_cons.mp hnd).1
    have hrn : rs.Nodup := (List.nodup_cons.mp hnd).2
    have rin : ∀ a ∈ rs, a ∈ Fs i := fun a ha => by rw [eF]; exact List.mem_cons_of_mem _ ha
    have hlen : rs.length = ds.length := by have := h3.length.1; rwa [List.length_map] at this
    obtain ⟨b, xb, rfl, _, _⟩ := is_lst hi2
    obtain ⟨ys, b1, b2, b3⟩ := sq_list (xs := xb) hi2
    -- what is new in H is not owned
    have nF : ∀ a, NW (wd B Fs) al H a → ∀ n, a ∉ Fs n := fun a x n => by
      rcases x with x | x
      · exact (wd B Fs).up hal a x n
      · exact R.newNot x n
    let ρ0 : Rho := ((ρ.set j none).set l none).set i none
    let Inn : Nat → L2.St → Hp → Prop := fun n σ' H' => σ'.length = σ.length ∧ (∀ m, m ≠ j → m ≠ l → σ'[m]? = σ[m]?) ∧ (∀ a o, a ∉ rs → H1 a = some o → H' a = some o) ∧ (∀ a, H' a = none → H1 a = none) ∧ (∀ a ∈ rs, ∃ ys, H' a = some (.lst ys)) ∧
      (∀ m r its, n ≤ m → rs[m]? = some r → H1 r = some (.lst its) → H' r = some (.lst its)) ∧ PoS c Ml M B .fz We (zcGo j l t fe ρ0 ((ds.zip es).drop n)) D
    -- the state without y
    have rel : ∀ {n σ' H'}, Inn n σ' H' → ∃ Fs', RelF c M B Fs' H' σ' ρ0 ∧ (∀ n a, a ∈ Fs' n → a ∈ Fs n ∧ a ∉ rs) := fun {n σ' H'} hI => by
      obtain ⟨i1, i2, i3, i4, i5, i6, i7⟩ := hI
      have A1 : RelF c M B (fset Fs j []) H1 σ' (ρ.set j none) ∨ True := .inr trivial
      have Rj : RelF c M B (fset Fs j []) H1 (σ.set j (σ'.getD j none)) (ρ.set j none) := RelF.put (i := j) (F' := []) R1 (fun _ _ _ e => e) (fun _ e => e) (by simp) (by simp) (by simp) (fun m hm => List.getElem?_set_ne (Ne.symm hm)) (fun m hm => List.getElem?_set_ne (Ne.symm hm)) (by rw [List.length_set, List.length_set, R.len])
        (fun p hp e => by have hs := (R.mp p hp).2; rw [e, hmj] at hs; cases hs) (fun s hs => by rw [hmj] at hs; cases hs) (fun d e => by rw [List.getElem?_set_self bj] at e; cases e)
      have Rl : RelF c M B (fset (fset Fs j []) l []) H1 σ' ((ρ.set j none).set l none) := RelF.put (i := l) (F' := []) Rj (fun _ _ _ e => e) (fun _ e => e) (by simp) (by simp) (by simp) (fun m hm => ?_) (fun m hm => List.getElem?_set_ne (Ne.symm hm)) (by rw [i1, List.length_set, List.length_set, R.len])
        (fun p hp e => by have hs := (R.mp p hp).2; rw [e, hml] at hs; cases hs) (fun s hs => by rw [hml] at hs; cases hs) (fun d e => by rw [List.getElem?_set_self (by rw [List.length_set]; exact bl)] at e; cases e)
      · refine ⟨_, RelF.put (i := i) (F' := []) (H' := H') (σ' := σ') (ρ' := ρ0) Rl (fun a o ha e => i3 a o (fun z => ha ?_) e) i4 (by simp) (by simp) (by simp) (fun _ _ => rfl) (fun m hm => List.getElem?_set_ne (Ne.symm hm)) (by rw [i1, R.len]; simp [ρ0]) (fun p hp e => ?_) (fun s hs a ha => ?_) (fun d e => ?_), fun n a ha => ?_⟩
        · rw [fset_ne nil_, fset_ne nij]; exact rin a z
        · have hs := (R.mp p hp).2
          rw [e, hmi] at hs; cases hs
        · rw [fset_ne nil_, fset_ne nij] at ha; exact R.own i s hs a ha
        · rw [List.getElem?_set_self (by simp; exact bi)] at e; cases e
        · by_cases h : n = i
          · rw [h, fset_self] at ha; simp at ha
          · rw [fset_ne h] at ha
            by_cases h2 : n = l
            · rw [h2, fset_self] at ha; simp at ha
            · rw [fset_ne h2] at ha
              by_cases h4 : n = j
              · rw [h4, fset_self] at ha; simp at ha
              · rw [fset_ne h4] at ha
                exact ⟨ha, fun z => h (R.dj n i a ha (rin a z))⟩
      · by_cases hmj2 : m = j
        · rw [hmj2, List.getElem?_set_self (by rw [R.len]; exact bj)]
          have : j < σ'.length := by rw [i1, R.len]; exact bj
          rw [List.getD_eq_getElem?_getD, List.getElem?_eq_getElem this]
          rfl
        · rw [i2 m hmj2 hm, List.getElem?_set_ne (Ne.symm hmj2)]
    have kpz : ∀ {n σ' H'}, Inn n σ' H' → Kp (NW (wd B Fs) al H) H1 H' := fun {n σ' H'} hI a o x e => by
      obtain ⟨i1, i2, i3, i4, i5, i6, i7⟩ := hI
      refine i3 a o (fun hm => ?_) e
      rcases x with x | x
      · exact nF a x i (rin a hm)
      · obtain ⟨o', e', n'⟩ := R1.th i a (rin a hm)
        rw [e] at e'; cases e'; exact n' x
    refine ⟨q, b, rs.map V.ref, ys, rfl, .inl (.of hq1), by rw [z.K]; exact b2, for_it (walk_zip (n := (ds.zip es).length) (xs := rs.map V.ref) (ys := ys) (K := X.K) (a := q) (b := b) (by rw [List.length_zip, List.length_map, hlen, b1.length])) Inn ⟨rfl, fun _ _ _ => rfl, fun _ _ _ e => e, fun _ e => e, fun a ha => ?_, fun _ _ _ _ _ e => e, by rw [List.drop_zero]; exact po⟩ (fun n σ' H' _ hP => ⟨.inl (.of (hP.2.2.1 q _ hqn hq1)), by rw [z.K]; exact b3 _ (kpz hP)⟩) ?_ ?_⟩
    · obtain ⟨m, hm, e⟩ := List.getElem_of_mem ha
      obtain ⟨its, ls, _, g2, _⟩ := hrow m a (by rw [← e]; exact List.getElem?_eq_getElem hm)
      exact ⟨its, g2⟩
    · rintro n x σ' Hn Hn' hn hI hY
      obtain ⟨T, w1, w2, rfl, hT, rfl, f1, f2⟩ := hY
      have hI0 := hI
      obtain ⟨i1, i2, i3, i4, i5, i6, i7⟩ := hI
      have f1 : (rs[n]?).map V.ref = some w1 := by rw [← List.getElem?_map]; exact f1
      cases hrn' : rs[n]? with
      | none => rw [hrn'] at f1; cases f1
      | some r =>
        rw [hrn'] at f1
        have f1 : w1 = V.ref r := by simpa using f1.symm
        subst f1
        have f2 : ys[n]? = some w2 := f2
        obtain ⟨its, ls, g1, g2, g3⟩ := hrow n r hrn'
        obtain ⟨dy, f3, f4⟩ := b1.get f2
        have hrr : r ∈ rs := List.mem_of_getElem? hrn'
        have hrt : Hn r = some (.lst its) := i6 n r its (Nat.le_refl _) hrn' g2
        have st : Same Hn (upd Hn T (.tup [V.ref r, w2])) := same_new (Same.refl Hn) hT
        have ed2 : (ds.zip es).drop n = (.lst ls, dy) :: (ds.zip es).drop (n + 1) := by
          have h : (ds.zip es)[n]? = some (.lst ls, dy) := by rw [List.getElem?_zip_eq_some]; exact ⟨g1, f3⟩
          obtain ⟨k1, k2⟩ := List.getElem?_eq_some_iff.mp h
          rw [List.drop_eq_getElem_cons k1, k2]
        rw [ed2] at i7
        obtain ⟨Fs', R0, hsub⟩ := rel hI0
        have R0T := R0.same st
        refine ⟨T, [V.ref r, w2], rfl, .of upd_same, rfl, .ref r, [w2], rfl, w2, [], rfl, rfl, ?_⟩
        have σl : l < (σ'.set j (some (.ref r))).length := by rw [List.length_set, i1, R.len]; exact bl
        have sl0 : Sl c (fset (fset M j (.v 2)) l (.v 2)) (wd B Fs') (upd Hn T (.tup [V.ref r, w2])) ((σ'.set j (some (.ref r))).set l (some w2)) ((ρ0.set j (some (.lst ls))).set l (some dy)) := by
          refine ⟨by rw [List.length_set, List.length_set, List.length_set, List.length_set]; exact R0.len, fun m dm em => ?_⟩
          by_cases hml2 : m = l
          · subst hml2
            rw [List.getElem?_set_self (by simp [ρ0]; exact bl)] at em
            cases em
            refine ⟨w2, List.getElem?_set_self σl, ?_⟩
            rw [fset_self]
            refine (f4.mono (W' := fun _ => True) (fun _ _ => trivial) fun a o x e => st a o (i3 a o (fun hm => ?_) e))
            rcases x with x | x
            · exact nF a x i (rin a hm)
            · obtain ⟨o', e', n'⟩ := R1.th i a (rin a hm)
              rw [e] at e'; cases e'; exact n' x
          · rw [List.getElem?_set_ne (Ne.symm hml2)] at em ⊢
            by_cases hmj2 : m = j
            · subst hmj2
              rw [List.getElem?_set_self (by simp [ρ0]; exact bj)] at em
              cases em
              refine ⟨.ref r, List.getElem?_set_self (by rw [i1, R.len]; exact bj), ?_⟩
              rw [fset_ne hml2, fset_self]
              refine .lst trivial (.inl (st _ _ hrt)) (g3.mono (fun _ _ => trivial) fun a o x e => st a o (i3 a o (fun hm => ?_) e))
              rcases x with x | x
              · exact x.1 i (rin a hm)
              · obtain ⟨o', e', n'⟩ := R1.th i a (rin a hm)
                rw [e] at e'; cases e'; exact n' x
            · rw [List.getElem?_set_ne (Ne.symm hmj2)] at em ⊢
              obtain ⟨v, k1, k2⟩ := R0T.slots.2 m dm em
              exact ⟨v, k1, by rw [fset_ne hml2, fset_ne hmj2]; exact k2⟩
        have fr0 : ∀ {Hz : Hp}, Same (upd Hn T (.tup [V.ref r, w2])) Hz → FrB B Hz := fun hz p hp a o e hn' => hz a o (R0T.fr p hp a o e hn')
        have i7 : Po ((t ((ρ0.set j (some (.lst ls))).set l (some dy))).bind fun b => if b = true then (fe ((ρ0.set j (some (.lst ls))).set l (some dy))).bind fun d => gd d.imm (O.ok (Out.rt d ρ0)) else zcGo j l t fe ρ0 ((ds.zip es).drop (n + 1))) _ _ := i7
        refine stt _ _ _ _ _ sl0 ((Po.bind i7).imp (fun bb _ i7 H3 hs3 => ?_) fun kx _ q H' hs => q _ H' (fr0 hs))
        cases bb with
        | true =>
          have i7 : Po ((fe ((ρ0.set j (some (.lst ls))).set l (some dy))).bind fun d => gd d.imm (O.ok (Out.rt d ρ0))) _ _ := i7
          refine iteT (se _ _ H3 _ _ (sl0.same hs3) ((Po.bind i7).imp (fun d2 _ i7 v H4 F hs4 hn4 nd4 ho => ?_) fun kx _ q H' hs => q _ H' (fr0 (hs3.trans hs))))
          obtain ⟨him, i7⟩ := Po.gd i7
          refine i7 v H4 ⟨M, Fs', σ', [], (R0T.same hs3).same hs4, by simp, by simp, rfl, ?_⟩
          exact Is.imm (fun _ _ _ z => z) ho.2 him
        | false =>
          refine iteF ?_
          have hr3 : H3 r = some (.lst its) := hs3 _ _ (st _ _ hrt)
          refine ⟨.ref r, by rw [List.getElem?_set_ne (Ne.symm njl), List.getElem?_set_self (by rw [i1, R.len]; exact bj)], .inl ⟨rfl, its, .of hr3⟩, r, its, rfl, rfl, hr3, ?_⟩
          refine ⟨by rw [List.length_set, List.length_set]; exact i1, fun m m1 m2 => by rw [List.getElem?_set_ne (Ne.symm m2), List.getElem?_set_ne (Ne.symm m1)]; exact i2 m m1 m2, fun a o ha e => ?_, fun a e => ?_, fun a ha => ?_, fun m r' its' hle hm' e => ?_, i7⟩
          · rw [upd_ne (fun z => ha (by rw [z]; exact hrr))]
            exact hs3 _ _ (st _ _ (i3 a o ha e))
          · by_cases h : a = r
            · rw [h, upd_same] at e; cases e
            · rw [upd_ne h] at e
              exact i4 a (st.free (hs3.free e))
          · by_cases h : a = r
            · exact ⟨[], by rw [h, upd_same]⟩
            · obtain ⟨zs, hzs⟩ := i5 a ha
              exact ⟨zs, by rw [upd_ne h]; exact hs3 _ _ (st _ _ hzs)⟩
          · have hne : r' ≠ r := fun z => by
              obtain ⟨k1, k2⟩ := List.getElem?_eq_some_iff.mp hm'
              obtain ⟨k3, k4⟩ := List.getElem?_eq_some_iff.mp hrn'
              have := (List.getElem_inj hrn).mp (k2.trans (z.trans k4.symm))
              omega
            rw [upd_ne hne]
            exact hs3 _ _ (st _ _ (i6 m r' its' (by omega) hm' e))
    · rintro σ' Hn hI
      obtain ⟨Fs', R0, _⟩ := rel hI
      obtain ⟨i1, i2, i3, i4, i5, i6, i7⟩ := hI
      rw [List.drop_length] at i7
      exact i7 σ' Hn ⟨Fs', R0⟩
  | _ => exact po.elim
end
/-! ### len of a locked dict -/
theorem call_len_fd {X : Cx} : CallR X (.builtin "len") (fun xs H Q => ∃ p kvs, xs = [V.ref p] ∧ Rd H p (.dT kvs) ∧ Q (.int ((kvs.length : Nat) : Int)) H) := by
  intro pins s σ H xs us Q I r h
  obtain ⟨p, kvs, rfl, hp, q⟩ := h
  obtain ⟨u, rfl, rx⟩ := vals1 r
  obtain rfl : u = .ref p := rx
  obtain ⟨z, hd, ys, rel, dd⟩ := dt_rd I.hok hp
  have hl : kvs.length = ys.length := Paired.length rel
  refine call_len_dictH hd dd (by rw [← hl]; rw [sizeLine_eq] at z; omega) ?_
  rw [← hl]
  exact ⟨.int ((kvs.length : Nat) : Int), H, I.tok _, ⟨_, rfl⟩, q⟩
def lenF : D → O D := fun x => (fdO x).bind fun m => .ok (.int m.length)
theorem ve_lenF {X : Cx} {c : Ct} {M : Nat → Mo} {We : WX} {al k : Nat} {e : Expr} {f : EF} {p pos : Pos} (z : Cz X c We k) (h : VE X c M We al e f) (hg : Gl X "len") (hm : X.mg "len" = none) (hs : starEach [e] X.env = (false, eval e X.env) :: starEach [] X.env := by rfl) (hpl : (backTo pos (starEach [] X.env)).any (·.1) = false := by rfl) :
    VE X c M We 0 (.Call (.Name "len" p) [e] [] pos) (e1 lenF f) := by
  obtain ⟨te, pe, s⟩ := h.ex
  refine ⟨_, pe_callB call_len_fd hg hm PySem.boot_len (pa_cons pe pa_nil hs) (by decide) (by decide) hs hpl, fun w σ H ρ Q sl po => s w σ H ρ _ sl ((Po.bind po).imp (fun d _ q v H1 hs hi => ?_) fun _ _ q => q)⟩
  cases d with
  | fd m =>
    cases hi with
    | @fd a o kss vs ds h2 h3 h4 =>
      have e1 : (kss.zip vs).length = (kss.zip ds).length := by simp [List.length_zip, h3, h4.length.symm]
      exact ⟨a, _, rfl, .inr ⟨_, h2⟩, by rw [e1]; exact q _ H1 hs (.int _)⟩
  | _ => exact q.elim
end VS
set_option Elab.async false
set_option linter.all false
set_option maxRecDepth 100000
set_option maxHeartbeats 2000000
/-! VL: the meanings, unfolded step by step. -/
namespace VS
open PySem L2
section
variable {ρ : Rho} {i j : Nat} {f h fa fb fc : EF} {a b : AF} {g g' : SF} {t t' : TF} {d : D}
@[simp] theorem sNx_ap : sNx ρ = .ok (.nx ρ) := rfl
@[simp] theorem sSeq_ap : sSeq g g' ρ = (g ρ).bind fun out => match out with
  | .nx ρ => g' ρ
  | o => .ok o := rfl
@[simp] theorem sSet_ap : sSet i f ρ = (f ρ).bind fun d => gd (decide (i < ρ.length)) (.ok (.nx (ρ.set i (some d)))) := rfl
@[simp] theorem sDrop_ap : sDrop f ρ = (f ρ).bind fun _ => .ok (.nx ρ) := rfl
@[simp] theorem sRet_ap : sRet f ρ = (f ρ).bind fun d => .ok (.rt d ρ) := rfl
@[simp] theorem sRetN_ap : sRetN ρ = .ok (.rt .non ρ) := rfl
@[simp] theorem sRetV_ap : sRetV i ρ = (eVar i ρ).bind fun d => .ok (.rt d (ρ.set i none)) := rfl
@[simp] theorem sIf_ap : sIf t g g' ρ = (t ρ).bind fun b => if b = true then g ρ else g' ρ := rfl
@[simp] theorem sBk_ap : sBk ρ = .ok (.bk ρ) := rfl
@[simp] theorem sCt_ap : sCt ρ = .ok (.ct ρ) := rfl
@[simp] theorem sExc_ap (k : Value) : sExc k ρ = .exc k := rfl
@[simp] theorem sApp_ap : sApp i f ρ = (eVar i ρ).bind fun x => (lstD x).bind fun l => (f ρ).bind fun d => gd (decide (l.length < 100000)) (.ok (.nx (ρ.set i (some (.lst (l ++ [d])))))) := rfl
@[simp] theorem sAppV_ap : sAppV i j ρ = (eVar i ρ).bind fun x => (lstD x).bind fun l => (eVar j ρ).bind fun d => gd (decide (l.length < 100000) && decide (i ≠ j)) (.ok (.nx ((ρ.set j none).set i (some (.lst (l ++ [d])))))) := rfl
@[simp] theorem sClear_ap : sClear i ρ = (eVar i ρ).bind fun x => (lstD x).bind fun _ => .ok (.nx (ρ.set i (some (.lst [])))) := rfl
@[simp] theorem lstD_lst (l) : lstD (.lst l) = .ok l := rfl
theorem eVar_ap : eVar i ρ = match ρ[i]? with
  | some (some d) => .ok d
  | _ => .bad := rfl
@[simp] theorem eVar_nil : eVar i [] = .bad := rfl
@[simp] theorem eVar_zs : eVar 0 (some d :: ρ) = .ok d := rfl
@[simp] theorem eVar_s {x : Option D} : eVar (i + 1) (x :: ρ) = eVar i ρ := rfl
@[simp] theorem eC_ap : eC d ρ = .ok d := rfl
@[simp] theorem e1_ap {k : D → O D} : e1 k f ρ = (f ρ).bind k := rfl
@[simp] theorem e2_ap {k : D → D → O D} : e2 k f h ρ = (f ρ).bind fun x => (h ρ).bind fun y => k x y := rfl
@[simp] theorem eImm_ap : eImm f ρ = (f ρ).bind fun d => gd d.imm (.ok d) := rfl
@[simp] theorem aNil_ap : aNil ρ = .ok [] := rfl
@[simp] theorem aCons_ap : aCons f a ρ = (f ρ).bind fun x => (a ρ).bind fun xs => .ok (x :: xs) := rfl
@[simp] theorem eTup_ap : eTup a ρ = (a ρ).bind fun ds => gd (decide (ds.length ≤ 100000)) (.ok (.tup ds)) := rfl
@[simp] theorem eLst_ap : eLst a ρ = (a ρ).bind fun ds => gd (decide (ds.length ≤ 100000)) (.ok (.lst ds)) := rfl
@[simp] theorem tE_ap : tE f ρ = (f ρ).bind fun d => match d with
  | .bl b => .ok b
  | _ => .bad := rfl
@[simp] theorem tAndF_ap : tAndF t t' ρ = (t ρ).bind fun b => if b = true then t' ρ else .ok false := rfl
@[simp] theorem tOrF_ap : tOrF t t' ρ = (t ρ).bind fun b => if b = true then .ok true else t' ρ := rfl
@[simp] theorem tNotF_ap : tNotF t ρ = (t ρ).bind fun b => .ok (!b) := rfl
@[simp] theorem eB_ap : eB t ρ = (t ρ).bind fun b => .ok (.bl b) := rfl
@[simp] theorem tTr_ap : tTr ρ = .ok true := rfl
@[simp] theorem eChain_ap {p q : Int → Int → Bool} : eChain p q fa fb fc ρ = (fa ρ).bind fun x => (fb ρ).bind fun y => match x, y with
  | .int i, .int j => if p i j = true then (fc ρ).bind fun z => match z with
      | .int k => .ok (.bl (q j k))
      | _ => .bad
    else .ok (.bl false)
  | _, _ => .bad := rfl
@[simp] theorem iSeq_ap : iSeq f ρ = (f ρ).bind fun d => match d with
  | .lst l => .ok l
  | .tup l => .ok l
  | .str s => .ok (s.cps.toList.map fun ch => .str ⟨#[ch]⟩)
  | _ => .bad := rfl
@[simp] theorem iRg1_ap : iRg1 f ρ = (f ρ).bind fun d => match d with
  | .int n => gd (decide (-(2 ^ 62) ≤ n) && decide (n < 2 ^ 62)) (.ok (rngD 0 n.toNat))
  | _ => .bad := rfl
@[simp] theorem eCall_ap {fs : AF} {F : List D → O D} : eCall fs F ρ = (fs ρ).bind F := Eq.trans rfl rfl
@[simp] theorem iZp_ap : iZp f h ρ = (f ρ).bind fun x => (lstD x).bind fun xs => (h ρ).bind fun y => (lstD y).bind fun ys => .ok (pairsD xs ys) := rfl
@[simp] theorem iZpT_ap : iZpT f h ρ = (f ρ).bind fun x => (tupLD x).bind fun xs => (h ρ).bind fun y => (tupLD y).bind fun ys => .ok (pairsD xs ys) := rfl
@[simp] theorem tupLD_tup (l : List D) : tupLD (.tup l) = .ok l := rfl
@[simp] theorem iEn_ap : iEn f ρ = (f ρ).bind fun x => (lstD x).bind fun xs => .ok (pairsD (rngD 0 xs.length) xs) := rfl
@[simp] theorem sFor_ap {s : D → Rho → O Rho} : sFor a s g ρ = (a ρ).bind fun ds => sFor.go s g ds ρ := rfl
@[simp] theorem eLc_ap : eLc a i t f ρ = (a ρ).bind fun ds => gd (decide (i < ρ.length) && decide (ds.length ≤ 100000)) ((cGo i t f ds ρ).bind fun l => .ok (.lst l)) := rfl
@[simp] theorem gN_ap : gN i d ρ = gd (decide (i < ρ.length)) (.ok (ρ.set i (some d))) := rfl
@[simp] theorem gP_ap {x y : D} : gP i j (.tup [x, y]) ρ = gd (decide (i < ρ.length) && decide (j < ρ.length)) (.ok ((ρ.set i (some x)).set j (some y))) := rfl
end
section
variable {ρ : Rho} {i j : Nat} {f h fa fb fc fd : EF} {a b : AF} {g g' : SF} {t t' : TF} {d e : D} {x y : XF} {p : Rho → List D → Option D} {gl : Rho → O (List D)} {kd : Kd} {F : List D → O D} {R : List D → O Rz} {js : List (Option (Nat × Sh))} {xs : Rho → O (Xo × List D)} {ps : List D}
@[simp] theorem then_ok_v {k : D → Rho → O Xo} : Xo.then (.ok (.v d ρ)) k = k d ρ := rfl
@[simp] theorem then_ok_ex {v : Value} {k : D → Rho → O Xo} : Xo.then (.ok (.ex v ρ)) k = .ok (.ex v ρ) := rfl
@[simp] theorem xP_ap : xP f ρ = (f ρ).bind fun d => gd d.imm (.ok (.v d ρ)) := rfl
@[simp] theorem xCall_ap : xCall js a R ρ = (a ρ).bind fun ds => (R ds).bind fun r => match r with
  | .rt d ps => gd d.imm (.ok (.v d (putM ps js 0 ρ)))
  | .ex k ps => .ok (.ex k (putM ps js 0 ρ)) := rfl
@[simp] theorem xMe_ap : xMe kd j js a R ρ = (eOwn kd.sh j ρ).bind fun x => gd (kd.is x) ((a ρ).bind fun ds => (R (x :: ds)).bind fun r => match r with
  | .rt d ps => gd d.imm (.ok (.v d (putM ps (some (j, kd.sh) :: js) 0 ρ)))
  | .ex k ps => .ok (.ex k (putM ps (some (j, kd.sh) :: js) 0 ρ))) := rfl
@[simp] theorem eMe_ap : eMe kd f a F ρ = (f ρ).bind fun x => gd (kd.is x) ((a ρ).bind fun ds => F (x :: ds)) := rfl
@[simp] theorem eMk_ap : eMk a R ρ = (a ρ).bind fun ds => (R (.raw :: ds)).bind fun r => match r with
  | .rt .non (x :: _) => .ok x
  | .ex k _ => .exc k
  | _ => .bad := rfl
@[simp] theorem eOwn_ap {s : Sh} : eOwn s j ρ = (eVar j ρ).bind fun d => gd (immIn s d) (.ok d) := rfl
@[simp] theorem xaNil_ap : xaNil ρ = .ok (.v .non ρ, []) := rfl
@[simp] theorem xaCons_ap : xaCons x xs ρ = (x ρ).bind fun r => match r with
  | .v d ρ => (xs ρ).bind fun r => match r with
    | (.v e ρ, ds) => .ok (.v e ρ, d :: ds)
    | (.ex k ρ, ds) => .ok (.ex k ρ, ds)
  | .ex k ρ => .ok (.ex k ρ, []) := rfl
@[simp] theorem xCallP_ap : xCallP xs F ρ = (xs ρ).bind fun r => match r with
  | (.v _ ρ, ds) => (F ds).bind fun d => gd d.imm (.ok (.v d ρ))
  | (.ex k ρ, _) => .ok (.ex k ρ) := rfl
@[simp] theorem xB_ap : xB x ρ = Xo.then (x ρ) fun d ρ => match d with
  | .bl b => .ok (.v (.bl b) ρ)
  | _ => .bad := rfl
@[simp] theorem x2_ap {k : D → D → O D} : x2 k x y ρ = Xo.then (x ρ) fun d ρ => Xo.then (y ρ) fun e ρ => (k d e).bind fun r => gd r.imm (.ok (.v r ρ)) := rfl
@[simp] theorem xNot_ap : xNot x ρ = Xo.then (x ρ) fun d ρ => match d with
  | .bl b => .ok (.v (.bl !b) ρ)
  | _ => .bad := rfl
@[simp] theorem xOr_ap : xOr x y ρ = Xo.then (x ρ) fun d ρ => match d with
  | .bl true => .ok (.v (.bl true) ρ)
  | .bl false => y ρ
  | _ => .bad := rfl
@[simp] theorem xAnd_ap : xAnd x y ρ = Xo.then (x ρ) fun d ρ => match d with
  | .bl false => .ok (.v (.bl false) ρ)
  | .bl true => y ρ
  | _ => .bad := rfl
@[simp] theorem xT_ap : xT t ρ = (t ρ).bind fun b => .ok (.v (.bl b) ρ) := rfl
@[simp] theorem sX_ap {k : D → Rho → O Out} : sX x k ρ = (x ρ).bind fun r => match r with
  | .v d ρ => k d ρ
  | .ex k ρ => .ok (.ex k ρ) := rfl
@[simp] theorem sDropX_ap : sDropX x ρ = sX x (fun _ ρ => .ok (.nx ρ)) ρ := rfl
@[simp] theorem sSetX_ap : sSetX i x ρ = sX x (fun d ρ => gd (decide (i < ρ.length)) (.ok (.nx (ρ.set i (some d))))) ρ := rfl
@[simp] theorem sRetX_ap : sRetX x ρ = sX x (fun d ρ => .ok (.rt d ρ)) ρ := rfl
@[simp] theorem sIfX_ap : sIfX x g g' ρ = sX x (fun d ρ => match d with
  | .bl true => g ρ
  | .bl false => g' ρ
  | _ => .bad) ρ := rfl
@[simp] theorem sK_ap : sK g ρ = match g ρ with
  | .exc k => .ok (.ex k ρ)
  | r => r := rfl
@[simp] theorem sIfK_ap : sIfK t g g' ρ = match t ρ with
  | .exc k => .ok (.ex k ρ)
  | .bad => .bad
  | .ok b => if b = true then g ρ else g' ρ := rfl
@[simp] theorem gVar_ap : gVar i ρ = (eVar i ρ).bind fun d => (lstD d).bind fun l => gd (immA l) (.ok l) := rfl
@[simp] theorem gSub_ap : gSub i f ρ = (eVar i ρ).bind fun d => (lstD d).bind fun l => (f ρ).bind fun k => match k with
  | .int k => (ofO (atI l k)).bind fun r => (lstD r).bind fun r => gd (immA r) (.ok r)
  | _ => .bad := rfl
@[simp] theorem gGrid_ap : gGrid i f ρ = (eVar i ρ).bind fun d => (landO d).bind fun L => (f ρ).bind fun k => match k with
  | .int k => (ofO (atI L.g k)).bind fun r => .ok (r.map hD)
  | _ => .bad := rfl
@[simp] theorem gRow_ap : gRow i ρ = (eVar i ρ).bind fun d => (pileO d).bind fun l => gd (immA l) (.ok l) := rfl
@[simp] theorem sStore_ap : sStore i gl p f h ρ = (h ρ).bind fun d => gd d.imm ((gl ρ).bind fun l => (f ρ).bind fun k => match k with
  | .int k => (ofO (ixN l.length k)).bind fun j => (ofO (p ρ (l.set j d))).bind fun d' => .ok (.nx (ρ.set i (some d')))
  | _ => .bad) := rfl
@[simp] theorem sAppL_ap : sAppL i gl p h ρ = (gl ρ).bind fun l => (h ρ).bind fun d => gd (d.imm && decide (l.length < 100000)) ((ofO (p ρ (l ++ [d]))).bind fun d' => .ok (.nx (ρ.set i (some d')))) := rfl
@[simp] theorem xPop_ap : xPop i gl p ρ = (gl ρ).bind fun l => (ofO l[l.length - 1]?).bind fun d => (ofO (p ρ l.dropLast)).bind fun d' => .ok (.v d (ρ.set i (some d'))) := rfl
@[simp] theorem sAppO_ap : sAppO i f ρ = (eVar i ρ).bind fun x => (lstD x).bind fun l => (f ρ).bind fun d => gd (decide (l.length < 100000)) (.ok (.nx (ρ.set i (some (.lst (l ++ [d])))))) := rfl
@[simp] theorem sAppX_ap : sAppX i x ρ = sX x (fun d ρ => (eVar i ρ).bind fun y => (lstD y).bind fun l => gd (immA l && decide (l.length < 100000)) (.ok (.nx (ρ.set i (some (.lst (l ++ [d]))))))) ρ := rfl
@[simp] theorem sOpen_ap : sOpen i f h ρ = (h ρ).bind fun d => (blO d).bind fun b => (eVar i ρ).bind fun x => (landO x).bind fun L => (f ρ).bind fun k => (ofO (keyD k)).bind fun ks => gd (decide (L.o.length < 100000)) (.ok (.nx (ρ.set i (some (.land ⟨L.g, putL L.o ks b⟩))))) := rfl
@[simp] theorem sDput_ap : sDput i f h ρ = (h ρ).bind fun d => gd d.imm ((eVar i ρ).bind fun x => (dctO x).bind fun m => (f ρ).bind fun k => (ofO (keyD k)).bind fun ks => gd (decide (m.length < 100000)) (.ok (.nx (ρ.set i (some (.dct (putL m ks d))))))) := rfl
@[simp] theorem eGet2_ap : eGet2 fa fb fd ρ = (fa ρ).bind fun x => (dctO x).bind fun m => (fb ρ).bind fun k => (fd ρ).bind fun z => (ofO (keyD k)).bind fun ks => .ok ((lookD m ks).getD z) := rfl
@[simp] theorem eIn_ap {neg : Bool} : eIn neg fa fb ρ = (fa ρ).bind fun k => (fb ρ).bind fun d => inD neg k d := rfl
@[simp] theorem eDct0_ap : eDct0 ρ = .ok (.dct []) := rfl
@[simp] theorem landO_land (L : LandD) : landO (.land L) = .ok L := rfl
@[simp] theorem pileO_pile (l : List D) : pileO (.pile l) = .ok l := rfl
@[simp] theorem dctO_dct (l) : dctO (.dct l) = .ok l := rfl
@[simp] theorem blO_bl (b) : blO (.bl b) = .ok b := rfl
@[simp] theorem gridD_land (L : LandD) : gridD (.land L) = .ok (.lst (L.g.map rowD)) := rfl
@[simp] theorem rowsD_land (L : LandD) : rowsD (.land L) = .ok (.int L.g.length) := rfl
@[simp] theorem colsD_land (L : LandD) : colsD (.land L) = .ok (.int (L.g.headD []).length) := rfl
@[simp] theorem openD_land (L : LandD) : openD (.land L) = .ok (.dct (L.o.map fun p => (p.1, .bl p.2))) := rfl
@[simp] theorem rowPD_pile (l) : rowPD (.pile l) = .ok (.lst l) := rfl
@[simp] theorem kdl (L : LandD) : Kd.land.is (.land L) = true := rfl
@[simp] theorem kdp (l) : Kd.pile.is (.pile l) = true := rfl
@[simp] theorem kdsl : Kd.land.sh = .land := rfl
@[simp] theorem kdsp : Kd.pile.sh = .pile := rfl
@[simp] theorem imml (L : LandD) : immIn .land (.land L) = true := rfl
@[simp] theorem putM_nil {k : Nat} : putM ps [] k ρ = ρ := rfl
@[simp] theorem putM_none {k : Nat} : putM ps (none :: js) k ρ = putM ps js (k + 1) ρ := rfl
@[simp] theorem putM_some {k : Nat} {s : Sh} : putM ps (some (j, s) :: js) k ρ = putM ps js (k + 1) (match ps[k]? with
    | some d => ρ.set j (some d)
    | none => ρ) := by
  show putM ps js (k + 1) (match some (j, s), ps[k]? with
    | some (j, _), some d => ρ.set j (some d)
    | _, _ => ρ) = _
  cases ps[k]? <;> rfl
@[simp] theorem parD_nil' {k : Nat} : parD ρ [] k = .ok [] := rfl
@[simp] theorem parD_none' {k : Nat} {ms : List (Option Sh)} : parD ρ (none :: ms) k = (parD ρ ms (k + 1)).bind fun ds => .ok (.non :: ds) := rfl
@[simp] theorem parD_some' {k : Nat} {s : Sh} {ms : List (Option Sh)} : parD ρ (some s :: ms) k = (eVar k ρ).bind fun d => (parD ρ ms (k + 1)).bind fun ds => .ok (d :: ds) := rfl
end
/-! values -/
theorem laid_list {β : Type} (e : β → D) (k : Nat) (h : ∀ b, (toPy (e b)).canLay0 = true ∧ (toPy (e b)).depth ≤ k) : ∀ l : List β, PyData.canLayAll0 (toPyA (l.map e)) = true ∧ PyData.depthAll (toPyA (l.map e)) ≤ k
  | [] => by simp [toPyA, PyData.canLayAll0, PyData.depthAll]
  | b :: l => by
    obtain ⟨h1, h2⟩ := laid_list e k h l
    obtain ⟨h3, h4⟩ := h b
    simp only [List.map_cons, toPyA, PyData.canLayAll0, PyData.depthAll, h1, h3, Bool.and_true, true_and]
    omega
theorem eqv_list {β : Type} [DecidableEq β] (e : β → D) (h : ∀ a b, PyData.eqv (toPy (e a)) (toPy (e b)) = decide (a = b)) : ∀ l l' : List β, PyData.eqvAll (toPyA (l.map e)) (toPyA (l'.map e)) = decide (l = l')
  | [], [] => by simp [toPyA, PyData.eqvAll]
  | [], b :: l => by simp [toPyA, PyData.eqvAll]
  | b :: l, [] => by simp [toPyA, PyData.eqvAll]
  | a :: l, b :: l' => by
    simp only [List.map_cons, toPyA, PyData.eqvAll, h, eqv_list e h l l', List.cons.injEq]
    by_cases h1 : a = b <;> by_cases h2 : l = l' <;> simp [h1, h2]
theorem eq_list {β : Type} [DecidableEq β] (e : β → D) (h : ∀ b, (toPy (e b)).canLay0 = true ∧ (toPy (e b)).depth ≤ 60) (hv : ∀ a b, PyData.eqv (toPy (e a)) (toPy (e b)) = decide (a = b)) (neg : Bool) (l l' : List β) :
    eqD neg (.lst (l.map e)) (.lst (l'.map e)) = .ok (.bl (neg != decide (l = l'))) := by
  obtain ⟨h1, h2⟩ := laid_list e 60 h l
  obtain ⟨h3, h4⟩ := laid_list e 60 h l'
  have s1 : SeqAt.shaped (toPy (.lst (l.map e))) = true := by
    simp only [SeqAt.shaped, toPy_lst, PyData.canLay0, PyData.depth, h1, Bool.true_and, decide_eq_true_eq]
    omega
  have s2 : SeqAt.shaped (toPy (.lst (l'.map e))) = true := by
    simp only [SeqAt.shaped, toPy_lst, PyData.canLay0, PyData.depth, h3, Bool.true_and, decide_eq_true_eq]
    omega
  unfold eqD
  rw [s1, s2, toPy_lst, toPy_lst, PyData.eqv, eqv_list e hv]
  rfl
@[simp] theorem isTD_ap (T : String) (d : D) {n : String} (h : tyN d = some n) : isTD T d = .ok (.bl (isTy T n)) := by simp [isTD, h]
@[simp] theorem ty_non : tyN .non = some "NoneType" := rfl
@[simp] theorem ty_bl (b) : tyN (.bl b) = some "bool" := rfl
@[simp] theorem ty_int (b) : tyN (.int b) = some "int" := rfl
@[simp] theorem ty_str (b) : tyN (.str b) = some "str" := rfl
@[simp] theorem ty_lst (b) : tyN (.lst b) = some "list" := rfl
@[simp] theorem ty_tup (b) : tyN (.tup b) = some "tuple" := rfl
@[simp] theorem ty_dct (b) : tyN (.dct b) = some "dict" := rfl
@[simp] theorem len_lst (l) : lenD (.lst l) = .ok (.int l.length) := rfl
@[simp] theorem len_tup (l) : lenD (.tup l) = .ok (.int l.length) := rfl
@[simp] theorem len_dct (l) : lenD (.dct l) = .ok (.int l.length) := rfl
@[simp] theorem len_str (s) : lenD (.str s) = gd (decide (s.length ≤ 100000)) (.ok (.int s.length)) := rfl
theorem atI_ofNat {α : Type} (l : List α) (n : Nat) : atI l (n : Int) = l[n]? := by
  unfold atI ixN
  rw [if_pos (by omega)]
  by_cases h : n < l.length
  · rw [if_pos (by omega)]; simp
  · rw [if_neg (by omega), List.getElem?_eq_none (by omega)]; rfl
theorem atI_nn {α : Type} (l : List α) {i : Int} (h : 0 ≤ i) : atI l i = l[i.toNat]? := by
  obtain ⟨n, rfl⟩ := Int.eq_ofNat_of_zero_le h
  rw [atI_ofNat]; rfl
theorem ix_lst_nn (l : List D) {i : Int} (h : 0 ≤ i) : ixD (.lst l) (.int i) = ofO l[i.toNat]? := by
  show ofO (atI l i) = _
  rw [atI_nn l h]
@[simp] theorem ix_lst_nat (l : List D) (n : Nat) : ixD (.lst l) (.int (n : Int)) = ofO l[n]? := by
  show ofO (atI l (n : Int)) = _
  rw [atI_ofNat]
@[simp] theorem ix_tup0 (x : D) (l : List D) : ixD (.tup (x :: l)) (.int 0) = .ok x := by
  show ofO (atI (x :: l) ((0 : Nat) : Int)) = _
  rw [atI_ofNat]; rfl
@[simp] theorem ix_tup1 (x y : D) (l : List D) : ixD (.tup (x :: y :: l)) (.int 1) = .ok y := by
  show ofO (atI (x :: y :: l) ((1 : Nat) : Int)) = _
  rw [atI_ofNat]; rfl
@[simp] theorem ix_tup2 (x y z : D) (l : List D) : ixD (.tup (x :: y :: z :: l)) (.int 2) = .ok z := by
  show ofO (atI (x :: y :: z :: l) ((2 : Nat) : Int)) = _
  rw [atI_ofNat]; rfl
@[simp] theorem ix_lst0 (x : D) (l : List D) : ixD (.lst (x :: l)) (.int 0) = .ok x := by
  show ofO (atI (x :: l) ((0 : Nat) : Int)) = _
  rw [atI_ofNat]; rfl
@[simp] theorem isN_non (neg : Bool) : isND neg .non .non = .ok (.bl !neg) := rfl
@[simp] theorem isN_bl (neg b : Bool) : isND neg (.bl b) .non = .ok (.bl neg) := rfl
@[simp] theorem isN_int (neg : Bool) (b) : isND neg (.int b) .non = .ok (.bl neg) := rfl
@[simp] theorem isN_str (neg : Bool) (b) : isND neg (.str b) .non = .ok (.bl neg) := rfl
@[simp] theorem isN_lst (neg : Bool) (b) : isND neg (.lst b) .non = .ok (.bl neg) := rfl
@[simp] theorem isN_tup (neg : Bool) (b) : isND neg (.tup b) .non = .ok (.bl neg) := rfl
@[simp] theorem isN_b (neg a b : Bool) : isND neg (.bl a) (.bl b) = .ok (.bl (neg != decide (a = b))) := rfl
@[simp] theorem int_int (i) : intD (.int i) = .ok (.int i) := rfl
@[simp] theorem int_bl (b : Bool) : intD (.bl b) = .ok (.int (if b = true then 1 else 0)) := rfl
@[simp] theorem neg_int (i) : negD (.int i) = .ok (.int (-i)) := rfl
theorem shaped_int (i : Int) : SeqAt.shaped (.int i) = true := by rfl
@[simp] theorem eq_int (neg : Bool) (i j : Int) : eqD neg (.int i) (.int j) = .ok (.bl (neg != decide (i = j))) := by
  unfold eqD
  rw [toPy_int, toPy_int, shaped_int, shaped_int]
  show O.ok (D.bl (neg != (i == j))) = _
  rw [show (i == j) = decide (i = j) from by rw [Bool.eq_iff_iff]; simp]
@[simp] theorem eq_bl (neg : Bool) (i j : Bool) : eqD neg (.bl i) (.bl j) = .ok (.bl (neg != decide (i = j))) := by
  cases neg <;> cases i <;> cases j <;> rfl
/-! steps -/
theorem seq_nx {g g' : SF} {ρ ρ1 : Rho} (h : g ρ = .ok (.nx ρ1)) : sSeq g g' ρ = g' ρ1 := by rw [sSeq_ap, h]; rfl
theorem seq_to {g g' : SF} {ρ ρ1 : Rho} {r : O Out} (h : g ρ = .ok (.nx ρ1)) (h' : g' ρ1 = r) : sSeq g g' ρ = r := by rw [seq_nx h, h']
theorem seq_rt {g g' : SF} {ρ ρ1 : Rho} {d : D} (h : g ρ = .ok (.rt d ρ1)) : sSeq g g' ρ = .ok (.rt d ρ1) := by rw [sSeq_ap, h]; rfl
theorem runF_rt {n m : Nat} {rs : Sh} {g : SF} {ds : List D} {d : D} {ρ : Rho} (hm : ds.length = m) (hn : m ≤ n) (h : g (startD n ds) = .ok (.rt d ρ)) : runF n m rs g ds = .ok d := by
  unfold runF
  rw [h, hm]
  simp [hn]
/-! loops that only go on -/
theorem for_nx {α : Type} {s : D → Rho → O Rho} {g : SF} (emb : α → Rho) (step : α → D → α) : ∀ (ds : List D) (x : α), (∀ y d, d ∈ ds → ((s d (emb y)).bind g) = .ok (.nx (emb (step y d)))) → sFor.go s g ds (emb x) = .ok (.nx (emb (ds.foldl step x)))
  | [], x, _ => rfl
  | d :: ds, x, h => by
    have h1 := h x d (by simp)
    have ih := for_nx emb step ds (step x d) fun y d' hd => h y d' (by simp [hd])
    unfold sFor.go
    rw [List.foldl_cons, ← ih]
    cases hs : s d (emb x) with
    | bad => rw [hs] at h1; cases h1
    | exc k => rw [hs] at h1; cases h1
    | ok ρ1 =>
      rw [hs] at h1
      simp only [O.bind_ok] at h1 ⊢
      rw [h1]
      rfl
theorem cGo_eq {i : Nat} {t : TF} {f : EF} {ρ : Rho} (p : D → Bool) (v : D → D) : ∀ (ds : List D), (∀ d ∈ ds, t (ρ.set i (some d)) = .ok (p d)) → (∀ d ∈ ds, p d = true → f (ρ.set i (some d)) = .ok (v d)) → cGo i t f ds ρ = .ok ((ds.filter p).map v)
  | [], _, _ => rfl
  | d :: ds, ht, hf => by
    unfold cGo
    rw [ht d (by simp), cGo_eq p v ds (fun d' h => ht d' (by simp [h])) fun d' h => hf d' (by simp [h])]
    cases hp : p d with
    | true => simp [hf d (by simp) hp, hp]
    | false => simp [hp]
/-- the last one taken, or what stood there -/
def lastD {β : Type} (e : β → D) (x0 : Option D) (pre : List β) : Option D := match pre.getLast? with
  | none => x0
  | some b => some (e b)
@[simp] theorem lastD_nil {β : Type} (e : β → D) (x0 : Option D) : lastD e x0 [] = x0 := rfl
@[simp] theorem lastD_snoc {β : Type} (e : β → D) (x0 : Option D) (pre : List β) (b : β) : lastD e x0 (pre ++ [b]) = some (e b) := by simp [lastD]
/-- a loop over l: st tells the state by what is taken -/
theorem for_pre {β : Type} {s : D → Rho → O Rho} {g : SF} (e : β → D) (st : List β → Rho) : ∀ (post pre : List β), (∀ p b q, pre ++ post = p ++ b :: q → ((s (e b) (st p)).bind g) = .ok (.nx (st (p ++ [b])))) → sFor.go s g (post.map e) (st pre) = .ok (.nx (st (pre ++ post)))
  | [], pre, _ => by simp [sFor.go]
  | b :: post, pre, h => by
    have h1 := h pre b post rfl
    have ih := for_pre e st post (pre ++ [b]) fun p b' q e' => h p b' q (by rw [← e']; simp)
    rw [List.map_cons]
    unfold sFor.go
    rw [show pre ++ b :: post = pre ++ [b] ++ post from by simp, ← ih]
    cases hs : s (e b) (st pre) with
    | bad => rw [hs] at h1; cases h1
    | exc k => rw [hs] at h1; cases h1
    | ok ρ1 =>
      rw [hs] at h1
      simp only [O.bind_ok] at h1 ⊢
      rw [h1]
      rfl
theorem for_all {β : Type} {s : D → Rho → O Rho} {g : SF} (e : β → D) (st : List β → Rho) (l : List β) (h : ∀ p b q, l = p ++ b :: q → ((s (e b) (st p)).bind g) = .ok (.nx (st (p ++ [b])))) : sFor.go s g (l.map e) (st []) = .ok (.nx (st l)) :=
  for_pre e st l [] h
/-- a loop that only goes on, by what it keeps -/
theorem for_inv {s : D → Rho → O Rho} {g : SF} {I : Rho → Prop} : ∀ {ds : List D} {ρ : Rho}, (∀ d ∈ ds, ∀ ρ, I ρ → ∃ ρ', ((s d ρ).bind g) = .ok (.nx ρ') ∧ I ρ') → I ρ → ∃ ρ', sFor.go s g ds ρ = .ok (.nx ρ') ∧ I ρ'
  | [], ρ, _, h => ⟨ρ, rfl, h⟩
  | d :: ds, ρ, hs, h => by
    obtain ⟨ρ1, h1, h2⟩ := hs d (by simp) ρ h
    obtain ⟨ρ2, h3, h4⟩ := for_inv (ds := ds) (fun d hd => hs d (List.mem_cons_of_mem _ hd)) h2
    refine ⟨ρ2, ?_, h4⟩
    unfold sFor.go
    cases hx : s d ρ with
    | bad => rw [hx] at h1; cases h1
    | exc k => rw [hx] at h1; cases h1
    | ok ρ0 =>
      rw [hx] at h1
      simp only [O.bind_ok] at h1 ⊢
      rw [h1]
      exact h3
theorem for_idx {s : D → Rho → O Rho} {g : SF} {I : Nat → Rho → Prop} : ∀ {ds : List D} {n : Nat} {ρ : Rho}, (∀ m d, ds[m]? = some d → ∀ ρ, I (n + m) ρ → ∃ ρ', ((s d ρ).bind g) = .ok (.nx ρ') ∧ I (n + m + 1) ρ') → I n ρ → ∃ ρ', sFor.go s g ds ρ = .ok (.nx ρ') ∧ I (n + ds.length) ρ'
  | [], n, ρ, _, h => ⟨ρ, rfl, h⟩
  | d :: ds, n, ρ, hs, h => by
    obtain ⟨ρ1, h1, h2⟩ := hs 0 d rfl ρ h
    obtain ⟨ρ2, h3, h4⟩ := for_idx (ds := ds) (n := n + 1) (I := I) (fun m d hd ρ hI => by
      have := hs (m + 1) d (by simpa using hd) ρ (by rw [show n + (m + 1) = n + 1 + m by omega]; exact hI)
      rw [show n + (m + 1) + 1 = n + 1 + m + 1 by omega] at this
      exact this) h2
    refine ⟨ρ2, ?_, by rw [List.length_cons, show n + (ds.length + 1) = n + 1 + ds.length by omega]; exact h4⟩
    unfold sFor.go
    cases hx : s d ρ with
    | bad => rw [hx] at h1; cases h1
    | exc k => rw [hx] at h1; cases h1
    | ok ρ0 =>
      rw [hx] at h1
      simp only [O.bind_ok] at h1 ⊢
      rw [h1]
      exact h3
theorem cGo_ex {i : Nat} {f : EF} {ρ : Rho} {P : D → Prop} : ∀ {ds : List D}, (∀ d ∈ ds, ∃ x, f (ρ.set i (some d)) = .ok x ∧ P x) → ∃ xs, cGo i tTr f ds ρ = .ok xs ∧ xs.length = ds.length ∧ ∀ x ∈ xs, P x
  | [], _ => ⟨[], rfl, rfl, by simp⟩
  | d :: ds, h => by
    obtain ⟨x, h1, h2⟩ := h d (by simp)
    obtain ⟨xs, h3, h4, h5⟩ := cGo_ex (ds := ds) fun d hd => h d (List.mem_cons_of_mem _ hd)
    refine ⟨x :: xs, ?_, by simp [h4], fun y hy => ?_⟩
    · unfold cGo
      simp [h1, h3]
    · rcases List.mem_cons.mp hy with e | e
      · rw [e]; exact h2
      · exact h5 y e
theorem sFor_eq {fi : AF} {s : D → Rho → O Rho} {g : SF} {ds : List D} {ρ : Rho} {r : O Out} (h : fi ρ = .ok ds) (h2 : sFor.go s g ds ρ = r) : sFor fi s g ρ = r := by rw [sFor_ap, h]; exact h2
theorem runM_nx {n : Nat} {ms : List (Option Sh)} {g : SF} {ds ps : List D} {ρ : Rho} (hm : ds.length = ms.length) (hn : ms.length ≤ n) (h : g (startD n ds) = .ok (.nx ρ)) (hp : parD ρ ms 0 = .ok ps) : runM n ms .fz g ds = .ok (.rt .non ps) := by
  unfold runM
  rw [h, hm]
  simp [hn, hp]
theorem runM_rt {n : Nat} {ms : List (Option Sh)} {rs : Sh} {g : SF} {ds ps : List D} {d : D} {ρ : Rho} (hm : ds.length = ms.length) (hn : ms.length ≤ n) (h : g (startD n ds) = .ok (.rt d ρ)) (hp : parD ρ ms 0 = .ok ps) : runM n ms rs g ds = .ok (.rt d ps) := by
  unfold runM
  rw [h, hm]
  simp [hn, hp]
theorem runM_ex {n : Nat} {ms : List (Option Sh)} {rs : Sh} {g : SF} {ds ps : List D} {k : Value} {ρ : Rho} (hm : ds.length = ms.length) (hn : ms.length ≤ n) (h : g (startD n ds) = .ok (.ex k ρ)) (hp : parD ρ ms 0 = .ok ps) : runM n ms rs g ds = .ok (.ex k ps) := by
  unfold runM
  rw [h, hm]
  simp [hn, hp]
theorem seq_ex {g g' : SF} {ρ ρ1 : Rho} {k : Value} (h : g ρ = .ok (.ex k ρ1)) : sSeq g g' ρ = .ok (.ex k ρ1) := by rw [sSeq_ap, h]; rfl
theorem eLc_eq {fi : AF} {i : Nat} {t : TF} {f : EF} {ρ : Rho} {ds l : List D} (h1 : fi ρ = .ok ds) (h2 : i < ρ.length) (h3 : ds.length ≤ 100000) (h4 : cGo i t f ds ρ = .ok l) : eLc fi i t f ρ = .ok (.lst l) := by
  rw [eLc_ap, h1, O.bind_ok, h4, decide_eq_true h2, decide_eq_true h3]
  rfl
theorem ret_eq {f : EF} {ρ : Rho} {d : D} (h : f ρ = .ok d) : sRet f ρ = .ok (.rt d ρ) := by rw [sRet_ap, h]; rfl
theorem set_eq {i : Nat} {f : EF} {ρ : Rho} {d : D} (h : f ρ = .ok d) (hi : i < ρ.length) : sSet i f ρ = .ok (.nx (ρ.set i (some d))) := by rw [sSet_ap, h, O.bind_ok, decide_eq_true hi]; rfl
theorem cGo_map {β : Type} {i : Nat} {t : TF} {f : EF} {ρ : Rho} (e : β → D) (p : β → Bool) (v : β → D) : ∀ (l : List β), (∀ b ∈ l, t (ρ.set i (some (e b))) = .ok (p b)) → (∀ b ∈ l, p b = true → f (ρ.set i (some (e b))) = .ok (v b)) → cGo i t f (l.map e) ρ = .ok ((l.filter p).map v)
  | [], _, _ => rfl
  | d :: ds, ht, hf => by
    rw [List.map_cons]
    unfold cGo
    rw [ht d (by simp), cGo_map e p v ds (fun d' h => ht d' (by simp [h])) fun d' h => hf d' (by simp [h])]
    cases hp : p d with
    | true => simp [hf d (by simp) hp, hp]
    | false => simp [hp]
theorem rngD_map (n : Nat) : rngD 0 n = (List.range n).map fun (i : Nat) => D.int (i : Int) := by simp [rngD]
end VS
set_option linter.all false
set_option maxRecDepth 100000
/-! HP: heaps as lists, plainly. -/
namespace VS
/-- a strict order whose "not less" carries over -/
structure Lt0 {α : Type} (lt : α → α → Bool) : Prop where
  irr : ∀ a, lt a a = false
  asy : ∀ a b, lt a b = true → lt b a = false
  ntr : ∀ a b c, lt a b = false → lt b c = false → lt a c = false
def HeapL {α : Type} (lt : α → α → Bool) (xs : List α) : Prop := ∀ i x y, 0 < i → xs[i]? = some x → xs[(i - 1) / 2]? = some y → lt x y = false
theorem heap_root {α : Type} {lt : α → α → Bool} (O : Lt0 lt) {xs : List α} (h : HeapL lt xs) {r : α} (hr : xs[0]? = some r) : ∀ (i : Nat) (x : α), xs[i]? = some x → lt x r = false := by
  intro i
  induction i using Nat.strongRecOn with
  | _ i ih =>
    intro x hx
    by_cases hi : i = 0
    · subst hi
      rw [hr] at hx
      cases hx
      exact O.irr _
    · have hlt : (i - 1) / 2 < i := by omega
      have hlen : i < xs.length := (List.getElem?_eq_some_iff.mp hx).1
      have hp : xs[(i - 1) / 2]? = some xs[(i - 1) / 2] := List.getElem?_eq_getElem (by omega)
      exact O.ntr _ _ _ (h i x _ (by omega) hx hp) (ih _ hlt _ hp)
/-- a heap but for the place at, whose children are no less than what stands above it -/
structure UpI {α : Type} (lt : α → α → Bool) (xs : List α) (at_ : Nat) : Prop where
  a : ∀ i x y, 0 < i → i ≠ at_ → xs[i]? = some x → xs[(i - 1) / 2]? = some y → lt x y = false
  b : ∀ i x y, 0 < at_ → 0 < i → (i - 1) / 2 = at_ → xs[i]? = some x → xs[(at_ - 1) / 2]? = some y → lt x y = false
theorem up_end {α : Type} {lt : α → α → Bool} {xs : List α} {k : Nat} (h : UpI lt xs k) (he : ∀ x y, 0 < k → xs[k]? = some x → xs[(k - 1) / 2]? = some y → lt x y = false) : HeapL lt xs := fun i x y hi hx hy => by
  by_cases e : i = k
  · subst e; exact he x y hi hx hy
  · exact h.a i x y hi e hx hy
theorem up_step {α : Type} {lt : α → α → Bool} (O : Lt0 lt) {xs : List α} {k : Nat} {a b : α} (h : UpI lt xs k) (hk : 0 < k) (ha : xs[k]? = some a) (hb : xs[(k - 1) / 2]? = some b) (hl : lt a b = true) : UpI lt ((xs.set ((k - 1) / 2) a).set k b) ((k - 1) / 2) := by
  have kl : k < xs.length := (List.getElem?_eq_some_iff.mp ha).1
  have pk : (k - 1) / 2 < k := by omega
  have pl : (k - 1) / 2 < xs.length := by omega
  have at_ : ∀ i, ((xs.set ((k - 1) / 2) a).set k b)[i]? = if i = k then some b else if i = (k - 1) / 2 then some a else xs[i]? := fun i => by
    by_cases h1 : i = k
    · rw [if_pos h1, h1, List.getElem?_set_self (by simpa using kl)]
    · rw [if_neg h1, List.getElem?_set_ne (Ne.symm h1)]
      by_cases h2 : i = (k - 1) / 2
      · rw [if_pos h2, h2, List.getElem?_set_self pl]
      · rw [if_neg h2, List.getElem?_set_ne (Ne.symm h2)]
  refine ⟨fun i x y hi hne hx hy => ?_, fun i x y hp hi he hx hy => ?_⟩
  · rw [at_] at hx hy
    by_cases h1 : i = k
    · subst h1
      rw [if_pos rfl] at hx
      rw [if_neg (by omega), if_pos rfl] at hy
      cases hx; cases hy
      exact O.asy _ _ hl
    · rw [if_neg h1, if_neg hne] at hx
      by_cases h2 : (i - 1) / 2 = k
      · rw [if_pos h2] at hy
        cases hy
        exact h.b i x b hk hi h2 hx hb
      · rw [if_neg h2] at hy
        by_cases h3 : (i - 1) / 2 = (k - 1) / 2
        · rw [if_pos h3] at hy
          cases hy
          have := h.a i x b hi h1 hx (by rw [h3]; exact hb)
          exact O.ntr _ _ _ this (O.asy _ _ hl)
        · rw [if_neg h3] at hy
          exact h.a i x y hi h1 hx hy
  · rw [at_] at hx hy
    have hpp : ((k - 1) / 2 - 1) / 2 < (k - 1) / 2 := by omega
    rw [if_neg (by omega), if_neg (by omega)] at hy
    have hbp : lt b y = false := h.a ((k - 1) / 2) b y hp (by omega) hb hy
    by_cases h1 : i = k
    · rw [if_pos h1] at hx
      cases hx
      exact hbp
    · rw [if_neg h1, if_neg (by omega)] at hx
      have := h.a i x b hi h1 hx (by rw [he]; exact hb)
      exact O.ntr _ _ _ this hbp
theorem up_start {α : Type} {lt : α → α → Bool} {xs : List α} (h : HeapL lt xs) (v : α) : UpI lt (xs ++ [v]) xs.length := by
  refine ⟨fun i x y hi hne hx hy => ?_, fun i x y hp hi he hx hy => ?_⟩
  · have hl : i < xs.length := by
      have := (List.getElem?_eq_some_iff.mp hx).1
      simp at this
      omega
    rw [List.getElem?_append_left hl] at hx
    rw [List.getElem?_append_left (by omega)] at hy
    exact h i x y hi hx hy
  · have := (List.getElem?_eq_some_iff.mp hx).1
    simp at this
    omega
/-- a heap but below the place k -/
structure DnI {α : Type} (lt : α → α → Bool) (xs : List α) (k : Nat) : Prop where
  a : ∀ i x y, 0 < i → (i - 1) / 2 ≠ k → xs[i]? = some x → xs[(i - 1) / 2]? = some y → lt x y = false
  b : ∀ i x y, 0 < k → 0 < i → (i - 1) / 2 = k → xs[i]? = some x → xs[(k - 1) / 2]? = some y → lt x y = false
theorem dn_end {α : Type} {lt : α → α → Bool} {xs : List α} {k : Nat} (h : DnI lt xs k) (he : ∀ i x y, 0 < i → (i - 1) / 2 = k → xs[i]? = some x → xs[k]? = some y → lt x y = false) : HeapL lt xs := fun i x y hi hx hy => by
  by_cases e : (i - 1) / 2 = k
  · rw [e] at hy; exact he i x y hi e hx hy
  · exact h.a i x y hi e hx hy
theorem dn_step {α : Type} {lt : α → α → Bool} (O : Lt0 lt) {xs : List α} {k c : Nat} {a b : α} (h : DnI lt xs k) (hc : 0 < c) (hck : (c - 1) / 2 = k) (ha : xs[c]? = some a) (hb : xs[k]? = some b) (hl : lt a b = true) (hs : ∀ i x, 0 < i → (i - 1) / 2 = k → xs[i]? = some x → lt x a = false) :
    DnI lt ((xs.set c b).set k a) c := by
  have cl : c < xs.length := (List.getElem?_eq_some_iff.mp ha).1
  have kc : k < c := by omega
  have at_ : ∀ i, ((xs.set c b).set k a)[i]? = if i = k then some a else if i = c then some b else xs[i]? := fun i => by
    by_cases h1 : i = k
    · rw [if_pos h1, h1, List.getElem?_set_self (by simp; omega)]
    · rw [if_neg h1, List.getElem?_set_ne (Ne.symm h1)]
      by_cases h2 : i = c
      · rw [if_pos h2, h2, List.getElem?_set_self cl]
      · rw [if_neg h2, List.getElem?_set_ne (Ne.symm h2)]
  refine ⟨fun i x y hi hne hx hy => ?_, fun i x y hp hi he hx hy => ?_⟩
  · rw [at_] at hx hy
    by_cases h1 : i = k
    · subst h1
      rw [if_pos rfl] at hx
      rw [if_neg (by omega), if_neg (by omega)] at hy
      cases hx
      exact h.b c a y hi hc hck ha hy
    · rw [if_neg h1] at hx
      by_cases h2 : (i - 1) / 2 = k
      · rw [if_pos h2] at hy
        cases hy
        by_cases h3 : i = c
        · rw [if_pos h3] at hx
          cases hx
          exact O.asy _ _ hl
        · rw [if_neg h3] at hx
          exact hs i x hi h2 hx
      · rw [if_neg h2, if_neg hne] at hy
        by_cases h3 : i = c
        · exact absurd (by rw [h3]; exact hck) h2
        · rw [if_neg h3] at hx
          exact h.a i x y hi h2 hx hy
  · rw [at_] at hx hy
    rw [hck, if_pos rfl] at hy
    cases hy
    rw [if_neg (by omega), if_neg (by omega)] at hx
    exact h.a i x a hi (by omega) hx (by rw [he]; exact ha)
theorem heap_take {α : Type} {lt : α → α → Bool} {xs : List α} (h : HeapL lt xs) (n : Nat) : HeapL lt (xs.take n) := fun i x y hi hx hy => by
  have hl : i < n := by
    have := (List.getElem?_eq_some_iff.mp hx).1
    simp at this
    omega
  rw [List.getElem?_take_of_lt hl] at hx
  rw [List.getElem?_take_of_lt (by omega)] at hy
  exact h i x y hi hx hy
theorem dn_start {α : Type} {lt : α → α → Bool} {xs : List α} (h : HeapL lt xs) (v : α) : DnI lt (xs.set 0 v) 0 := by
  refine ⟨fun i x y hi hne hx hy => ?_, fun i x y hp _ _ _ _ => absurd hp (by omega)⟩
  rw [List.getElem?_set_ne (by omega)] at hx
  rw [List.getElem?_set_ne (by omega)] at hy
  exact h i x y hi hx hy
/-- two places changed about -/
theorem swap_perm {α : Type} {xs : List α} {i j : Nat} {a b : α} (hij : i ≠ j) (ha : xs[i]? = some a) (hb : xs[j]? = some b) : ((xs.set i b).set j a).Perm xs := by
  obtain ⟨hi, rfl⟩ := List.getElem?_eq_some_iff.mp ha
  obtain ⟨hj, rfl⟩ := List.getElem?_eq_some_iff.mp hb
  exact List.set_set_perm hi hj
end VS
set_option linter.all false
set_option maxRecDepth 100000
/-! DJ: levels by a pile, plainly. -/
namespace VS
section
variable {α : Type} [DecidableEq α]
/-- the field: what lies beside, heights, drains -/
structure Fd (α : Type) where
  nb : α → List α
  ht : α → Option Int
  dr : α → Bool
/-- told cells: cell, level, next -/
abbrev Es (α : Type) := List (α × Int × α)
def keysE (es : Es α) : List α := es.map (·.1)
inductive Chain (F : Fd α) : Es α → Prop
  | nil : Chain F []
  | drain {es c l} : Chain F es → F.dr c = true → Chain F (es ++ [(c, l, c)])
  | next {es c f lf ff o} : Chain F es → F.dr c = false → (f, lf, ff) ∈ es → c ∈ F.nb f → F.ht c = some o → Chain F (es ++ [(c, max o lf, f)])
structure Told (F : Fd α) (es : Es α) : Prop where
  nd : (keysE es).Nodup
  own : ∀ c l f, (c, l, f) ∈ es → ∃ o, F.ht c = some o ∧ o ≤ l ∧ (F.dr c = true → l = o)
  ng : ∀ c l f d l' f', (c, l, f) ∈ es → (d, l', f') ∈ es → d ∈ F.nb c → ∀ o, F.ht d = some o → l' ≤ max o l
  ch : Chain F es
structure Inv (F : Fd α) (pl : List (Int × α × α)) (es : Es α) : Prop where
  t : Told F es
  pe : ∀ h c f, (h, c, f) ∈ pl → ∃ o, F.ht c = some o ∧ ((F.dr c = true ∧ h = o ∧ f = c) ∨ ∃ l g, (f, l, g) ∈ es ∧ c ∈ F.nb f ∧ h = max o l)
  pd : ∀ c, F.dr c = true → c ∉ keysE es → ∃ o, F.ht c = some o ∧ (o, c, c) ∈ pl
  pn : ∀ c l f, (c, l, f) ∈ es → ∀ d, d ∈ F.nb c → ∀ o, F.ht d = some o → d ∉ keysE es → (max o l, d, c) ∈ pl
  mo : ∀ h c f, (h, c, f) ∈ pl → ∀ d l g, (d, l, g) ∈ es → l ≤ h
/-- all told -/
structure Done (F : Fd α) (es : Es α) : Prop where
  t : Told F es
  dr : ∀ c, F.dr c = true → c ∈ keysE es
  nx : ∀ c l f, (c, l, f) ∈ es → ∀ d, d ∈ F.nb c → F.ht d ≠ none → d ∈ keysE es
theorem Inv.done {F : Fd α} {es : Es α} (h : Inv F [] es) : Done F es := by
  refine ⟨h.t, fun c hc => ?_, fun c l f hm d hd ho => ?_⟩
  · by_cases hk : c ∈ keysE es
    · exact hk
    · obtain ⟨o, _, h2⟩ := h.pd c hc hk
      simp at h2
  · by_cases hk : d ∈ keysE es
    · exact hk
    · cases e : F.ht d with
      | none => exact absurd e ho
      | some o =>
        have := h.pn c l f hm d hd o e hk
        simp at this
theorem Inv.start {F : Fd α} {pl : List (Int × α × α)} (h1 : ∀ h c f, (h, c, f) ∈ pl → F.ht c = some h ∧ F.dr c = true ∧ f = c) (h2 : ∀ c, F.dr c = true → ∃ o, F.ht c = some o ∧ (o, c, c) ∈ pl) : Inv F pl [] := by
  refine ⟨⟨by simp [keysE], by simp, by simp, .nil⟩, fun h c f hm => ?_, fun c hc _ => h2 c hc, by simp, by simp⟩
  obtain ⟨a, b, d⟩ := h1 h c f hm
  exact ⟨h, a, .inl ⟨b, rfl, d⟩⟩
theorem Inv.perm {F : Fd α} {pl pl' : List (Int × α × α)} {es : Es α} (h : Inv F pl es) (p : pl'.Perm pl) : Inv F pl' es :=
  ⟨h.t, fun a c f hm => h.pe a c f (p.mem_iff.mp hm), fun c hc hk => (let ⟨o, h1, h2⟩ := h.pd c hc hk; ⟨o, h1, p.mem_iff.mpr h2⟩), fun c l f hm d hd o ho hk => p.mem_iff.mpr (h.pn c l f hm d hd o ho hk), fun a c f hm => h.mo a c f (p.mem_iff.mp hm)⟩
theorem mem_keysE {es : Es α} {c : α} {l : Int} {f : α} (h : (c, l, f) ∈ es) : c ∈ keysE es := List.mem_map.mpr ⟨_, h, rfl⟩
/-- one that is told already is taken off -/
theorem Inv.skip {F : Fd α} {pl : List (Int × α × α)} {es : Es α} {h : Int} {c f : α} (I : Inv F ((h, c, f) :: pl) es) (hk : c ∈ keysE es) : Inv F pl es := by
  refine ⟨I.t, fun a d g hm => I.pe a d g (by simp [hm]), fun d hd hk' => ?_, fun d l g hm e he o ho hk' => ?_, fun a d g hm => I.mo a d g (by simp [hm])⟩
  · obtain ⟨o, h1, h2⟩ := I.pd d hd hk'
    refine ⟨o, h1, ?_⟩
    rcases List.mem_cons.mp h2 with h2 | h2
    · cases h2; exact absurd hk hk'
    · exact h2
  · rcases List.mem_cons.mp (I.pn d l g hm e he o ho hk') with h2 | h2
    · simp only [Prod.mk.injEq] at h2
      rw [h2.2.1] at hk'
      exact absurd hk hk'
    · exact h2
/-- what is put beside a new one -/
def newO (F : Fd α) (es : Es α) (h : Int) (c d : α) : Option (Int × α × α) := match F.ht d with
  | some o => if d ∈ keysE es then none else some (max o h, d, c)
  | none => none
def news (F : Fd α) (es : Es α) (h : Int) (c : α) : List (Int × α × α) := (F.nb c).filterMap (newO F es h c)
theorem mem_news {F : Fd α} {es : Es α} {h : Int} {c : α} {e : Int × α × α} : e ∈ news F es h c ↔ ∃ o, e.2.1 ∈ F.nb c ∧ F.ht e.2.1 = some o ∧ e.2.1 ∉ keysE es ∧ e = (max o h, e.2.1, c) := by
  unfold news
  rw [List.mem_filterMap]
  constructor
  · rintro ⟨d, hd, he⟩
    unfold newO at he
    cases ho : F.ht d with
    | none => rw [ho] at he; cases he
    | some o =>
      rw [ho] at he
      by_cases hk : d ∈ keysE es
      · simp [hk] at he
      · simp [hk] at he
        subst he
        exact ⟨o, hd, ho, hk, rfl⟩
  · rintro ⟨o, h1, h2, h3, h4⟩
    refine ⟨e.2.1, h1, ?_⟩
    unfold newO
    rw [h2]
    simp only [h3, if_false]
    rw [← h4]
theorem Inv.take {F : Fd α} {pl pl' : List (Int × α × α)} {es : Es α} {h : Int} {c f : α} (I : Inv F ((h, c, f) :: pl) es) (hl : ∀ h' c' f', (h', c', f') ∈ pl → h ≤ h') (hk : c ∉ keysE es) {es' : Es α} (he : es' = es ++ [(c, h, if F.dr c = true then c else f)]) (hp : pl'.Perm (pl ++ news F es' h c)) : Inv F pl' es' := by
  refine Inv.perm ?_ hp
  have ke : keysE es' = keysE es ++ [c] := by rw [he]; simp [keysE]
  have mem : ∀ d l g, (d, l, g) ∈ es' ↔ (d, l, g) ∈ es ∨ (d = c ∧ l = h ∧ g = if F.dr c = true then c else f) := fun d l g => by
    rw [he, List.mem_append, List.mem_singleton]
    simp
  have kmem : ∀ d, d ∉ keysE es' → d ∉ keysE es ∧ d ≠ c := fun d hd => by
    rw [ke] at hd
    simp at hd
    exact hd
  obtain ⟨o, ho, hpe⟩ := I.pe h c f (by simp)
  have hoh : o ≤ h := by
    rcases hpe with ⟨_, e, _⟩ | ⟨l, g, _, _, e⟩ <;> omega
  have hdr : F.dr c = true → h = o := fun hd => by
    obtain ⟨o', h1, h2⟩ := I.pd c hd hk
    rw [ho] at h1
    cases h1
    rcases List.mem_cons.mp h2 with h2 | h2
    · cases h2; rfl
    · have := hl _ _ _ h2
      omega
  have hmo : ∀ d l g, (d, l, g) ∈ es → l ≤ h := fun d l g hm => I.mo h c f (by simp) d l g hm
  have hpl : ∀ h' c' f', (h', c', f') ∈ (h, c, f) :: pl → h ≤ h' := fun h' c' f' hm => by
    rcases List.mem_cons.mp hm with e | e
    · cases e; omega
    · exact hl h' c' f' e
  refine ⟨⟨?_, fun d l g hm => ?_, fun d l g d' l' g' hm hm' hd o' ho' => ?_, ?_⟩, fun h' d g hm => ?_, fun d hd hd' => ?_, fun d l g hm e hem o' ho' hek => ?_, fun h' d g hm d' l' g' hm' => ?_⟩
  · rw [ke, List.nodup_append]
    refine ⟨I.t.nd, by simp, fun x hx y hy => ?_⟩
    rw [List.mem_singleton] at hy
    subst hy
    exact fun e => hk (e ▸ hx)
  · rcases (mem d l g).mp hm with hm | ⟨rfl, rfl, _⟩
    · exact I.t.own d l g hm
    · exact ⟨o, ho, hoh, hdr⟩
  · rcases (mem d l g).mp hm with hm | ⟨rfl, rfl, _⟩ <;> rcases (mem d' l' g').mp hm' with hm' | ⟨rfl, rfl, _⟩
    · exact I.t.ng d l g d' l' g' hm hm' hd o' ho'
    · exact hpl _ _ _ (I.pn d l g hm d' hd o' ho' hk)
    · have := hmo d' l' g' hm'
      omega
    · omega
  · rw [he]
    by_cases hd : F.dr c = true
    · rw [if_pos hd]
      exact .drain I.t.ch hd
    · rw [if_neg hd]
      rcases hpe with ⟨e, _⟩ | ⟨l, g, h1, h2, h3⟩
      · exact absurd e hd
      · rw [h3]
        exact .next I.t.ch (by simpa using hd) h1 h2 ho
  · rcases List.mem_append.mp hm with hm | hm
    · obtain ⟨o', h1, h2⟩ := I.pe h' d g (by simp [hm])
      refine ⟨o', h1, h2.imp id fun ⟨l, g', h3, h4⟩ => ⟨l, g', (mem _ _ _).mpr (.inl h3), h4⟩⟩
    · obtain ⟨o', h1, h2, h3, h4⟩ := mem_news.mp hm
      simp only [Prod.mk.injEq, true_and] at h4
      obtain ⟨rfl, rfl⟩ := h4
      exact ⟨o', h2, .inr ⟨h, _, (mem _ _ _).mpr (.inr ⟨rfl, rfl, rfl⟩), h1, rfl⟩⟩
  · obtain ⟨k1, k2⟩ := kmem d hd'
    obtain ⟨o', h1, h2⟩ := I.pd d hd k1
    refine ⟨o', h1, List.mem_append.mpr (.inl ?_)⟩
    rcases List.mem_cons.mp h2 with h2 | h2
    · simp only [Prod.mk.injEq] at h2
      exact absurd h2.2.1 k2
    · exact h2
  · obtain ⟨k1, k2⟩ := kmem e hek
    rcases (mem d l g).mp hm with hm | ⟨rfl, rfl, _⟩
    · rcases List.mem_cons.mp (I.pn d l g hm e hem o' ho' k1) with h2 | h2
      · simp only [Prod.mk.injEq] at h2
        exact absurd h2.2.1 k2
      · exact List.mem_append.mpr (.inl h2)
    · exact List.mem_append.mpr (.inr (mem_news.mpr ⟨o', hem, ho', hek, rfl⟩))
  · rcases List.mem_append.mp hm with h1 | h1 <;> rcases (mem d' l' g').mp hm' with h2 | ⟨_, e2, _⟩
    · exact I.mo h' d g (by simp [h1]) d' l' g' h2
    · rw [e2]; exact hl _ _ _ h1
    · obtain ⟨o', _, h3, h4, h5⟩ := mem_news.mp h1
      simp only [Prod.mk.injEq, true_and] at h5
      have := hmo d' l' g' h2
      omega
    · obtain ⟨o', _, h3, h4, h5⟩ := mem_news.mp h1
      simp only [Prod.mk.injEq, true_and] at h5
      omega
/-! what is told -/
def lvE (es : Es α) (c : α) : Option Int := (es.find? fun e => decide (e.1 = c)).map (·.2.1)
def onE (es : Es α) (c : α) : Option α := (es.find? fun e => decide (e.1 = c)).map (·.2.2)
theorem find_es {es : Es α} (nd : (keysE es).Nodup) {c : α} {l : Int} {f : α} (h : (c, l, f) ∈ es) : es.find? (fun e => decide (e.1 = c)) = some (c, l, f) := by
  induction es with
  | nil => simp at h
  | cons e es ih =>
    rw [keysE, List.map_cons, List.nodup_cons] at nd
    rcases List.mem_cons.mp h with h | h
    · rw [← h]; simp
    · have : e.1 ≠ c := fun x => nd.1 (by rw [x]; exact mem_keysE h)
      rw [List.find?_cons, decide_eq_false this]
      exact ih nd.2 h
theorem lv_of {es : Es α} (nd : (keysE es).Nodup) {c : α} {l : Int} {f : α} (h : (c, l, f) ∈ es) : lvE es c = some l := by rw [lvE, find_es nd h]; rfl
theorem on_of {es : Es α} (nd : (keysE es).Nodup) {c : α} {l : Int} {f : α} (h : (c, l, f) ∈ es) : onE es c = some f := by rw [onE, find_es nd h]; rfl
theorem lv_some {es : Es α} {c : α} {l : Int} (h : lvE es c = some l) : ∃ f, (c, l, f) ∈ es := by
  unfold lvE at h
  cases e : es.find? fun e => decide (e.1 = c) with
  | none => rw [e] at h; cases h
  | some x =>
    rw [e] at h
    have h1 := List.mem_of_find?_eq_some e
    have h2 := List.find?_some e
    obtain ⟨c', l', f'⟩ := x
    simp at h2 h
    subst h2; subst h
    exact ⟨f', h1⟩
theorem lv_none {es : Es α} {c : α} (h : lvE es c = none) : c ∉ keysE es := by
  unfold lvE at h
  intro hk
  obtain ⟨e, h1, h2⟩ := List.mem_map.mp hk
  simp at h
  exact h e.1 e.2.1 e.2.2 h1 h2
theorem lv_key {es : Es α} {c : α} (h : c ∈ keysE es) : ∃ l, lvE es c = some l := by
  cases e : lvE es c with
  | none => exact absurd h (lv_none e)
  | some l => exact ⟨l, rfl⟩
/-- each one told that is no drain has one told beside it from which its level is -/
theorem Chain.from {F : Fd α} {es : Es α} (h : Chain F es) {c : α} {l : Int} {f : α} (hm : (c, l, f) ∈ es) : (F.dr c = true ∧ f = c) ∨ (F.dr c = false ∧ ∃ lf ff o, (f, lf, ff) ∈ es ∧ c ∈ F.nb f ∧ F.ht c = some o ∧ l = max o lf) := by
  induction h with
  | nil => simp at hm
  | drain h hd ih =>
    rcases List.mem_append.mp hm with hm | hm
    · exact (ih hm).imp id fun ⟨h1, lf, ff, o, h2, h3⟩ => ⟨h1, lf, ff, o, List.mem_append.mpr (.inl h2), h3⟩
    · rw [List.mem_singleton] at hm
      cases hm
      exact .inl ⟨hd, rfl⟩
  | next h hd hf hn ho ih =>
    rcases List.mem_append.mp hm with hm | hm
    · exact (ih hm).imp id fun ⟨h1, lf, ff, o, h2, h3⟩ => ⟨h1, lf, ff, o, List.mem_append.mpr (.inl h2), h3⟩
    · rw [List.mem_singleton] at hm
      cases hm
      exact .inr ⟨hd, _, _, _, List.mem_append.mpr (.inl hf), hn, ho, rfl⟩
/-- what the levels keep -/
structure Lev (F : Fd α) (lv : α → Option Int) : Prop where
  own : ∀ c l, lv c = some l → ∃ o, F.ht c = some o ∧ o ≤ l ∧ (F.dr c = true → l = o)
  dr : ∀ c, F.dr c = true → ∃ l, lv c = some l
  nx : ∀ c l d o, lv c = some l → d ∈ F.nb c → F.ht d = some o → ∃ l', lv d = some l' ∧ l' ≤ max o l
  fr : ∀ c l, lv c = some l → F.dr c = false → ∃ f lf o, lv f = some lf ∧ c ∈ F.nb f ∧ F.ht c = some o ∧ l = max o lf
theorem Done.lev {F : Fd α} {es : Es α} (h : Done F es) : Lev F (lvE es) := by
  refine ⟨fun c l hl => ?_, fun c hc => lv_key (h.dr c hc), fun c l d o hl hd ho => ?_, fun c l hl hd => ?_⟩
  · obtain ⟨f, hf⟩ := lv_some hl
    exact h.t.own c l f hf
  · obtain ⟨f, hf⟩ := lv_some hl
    obtain ⟨l', hl'⟩ := lv_key (h.nx c l f hf d hd (by rw [ho]; simp))
    obtain ⟨f', hf'⟩ := lv_some hl'
    exact ⟨l', hl', h.t.ng c l f d l' f' hf hf' hd o ho⟩
  · obtain ⟨f, hf⟩ := lv_some hl
    rcases h.t.ch.from hf with ⟨e, _⟩ | ⟨_, lf, ff, o, h1, h2, h3, h4⟩
    · rw [hd] at e; cases e
    · exact ⟨f, lf, o, lv_of h.t.nd h1, h2, h3, h4⟩
/-- each level is the greater of the own height and the least level beside -/
theorem Lev.due {F : Fd α} {lv : α → Option Int} (h : Lev F lv) (sym : ∀ c d, F.ht c ≠ none → d ∈ F.nb c → c ∈ F.nb d) {c : α} {o : Int} (ho : F.ht c = some o) (hd : F.dr c = false) (m : Option Int)
    (h1 : m = none → ∀ d ∈ F.nb c, F.ht d ≠ none → lv d = none) (h2 : ∀ x, m = some x → (∃ d ∈ F.nb c, lv d = some x) ∧ ∀ d ∈ F.nb c, ∀ y, lv d = some y → x ≤ y) : lv c = m.map (max o) := by
  have hoc : F.ht c ≠ none := by rw [ho]; simp
  cases hm : m with
  | none =>
    cases hl : lv c with
    | none => rfl
    | some l =>
      obtain ⟨f, lf, o', e1, e2, e3, e4⟩ := h.fr c l hl hd
      obtain ⟨of, hof, _⟩ := h.own f lf e1
      have hfc : f ∈ F.nb c := sym f c (by rw [hof]; simp) e2
      have := h1 hm f hfc (by rw [hof]; simp)
      rw [e1] at this
      cases this
  | some x =>
    obtain ⟨⟨d, hdc, hdx⟩, hmin⟩ := h2 x hm
    have hcd : c ∈ F.nb d := sym c d hoc hdc
    obtain ⟨l, hl, hle⟩ := h.nx d x c o hdx hcd ho
    obtain ⟨f, lf, o', e1, e2, e3, e4⟩ := h.fr c l hl hd
    obtain ⟨of, hof, _⟩ := h.own f lf e1
    have hfc : f ∈ F.nb c := sym f c (by rw [hof]; simp) e2
    have := hmin f hfc lf e1
    rw [ho] at e3
    cases e3
    rw [hl]
    simp only [Option.map_some, Option.some.injEq]
    omega
end
end VS
set_option linter.all false
set_option maxRecDepth 100000
/-! CLO: what one comes to, plainly. -/
namespace VS
section
variable {α : Type} [DecidableEq α]
inductive Rch (nb : α → List α) (ok : α → Bool) (st : α → Prop) : α → Prop
  | st {c} : st c → ok c = true → Rch nb ok st c
  | nx {c d} : Rch nb ok st c → d ∈ nb c → ok d = true → Rch nb ok st d
/-- what is found lies within, what is not waiting is done -/
structure Clo (nb : α → List α) (ok : α → Bool) (st : α → Prop) (fs : List α) (wt : α → Prop) : Prop where
  nd : fs.Nodup
  rc : ∀ c ∈ fs, Rch nb ok st c
  st : ∀ c, st c → ok c = true → c ∈ fs
  dn : ∀ c ∈ fs, ¬ wt c → ∀ d ∈ nb c, ok d = true → d ∈ fs
theorem Clo.all {nb : α → List α} {ok : α → Bool} {st : α → Prop} {fs : List α} (h : Clo nb ok st fs fun _ => False) (c : α) : c ∈ fs ↔ Rch nb ok st c := by
  refine ⟨h.rc c, fun hr => ?_⟩
  induction hr with
  | st hs ho => exact h.st _ hs ho
  | nx _ hn ho ih => exact h.dn _ ih (fun z => z) _ hn ho
/-- the neighbours of c, one after the other -/
def addN (ok : α → Bool) (fs : List α) : List α → List α
  | [] => fs
  | d :: ds => addN ok (if ok d = true ∧ d ∉ fs then fs ++ [d] else fs) ds
theorem addN_sub (ok : α → Bool) : ∀ (ds fs : List α), ∀ c ∈ fs, c ∈ addN ok fs ds
  | [], fs, c, h => h
  | d :: ds, fs, c, h => addN_sub ok ds _ c (by split <;> simp [h])
theorem addN_snoc (ok : α → Bool) : ∀ (ds : List α) (fs : List α) (d : α), addN ok fs (ds ++ [d]) = if ok d = true ∧ d ∉ addN ok fs ds then addN ok fs ds ++ [d] else addN ok fs ds
  | [], fs, d => rfl
  | e :: ds, fs, d => by
    show addN ok _ (ds ++ [d]) = _
    rw [addN_snoc ok ds]
    rfl
theorem addN_app (ok : α → Bool) : ∀ (ds fs : List α), ∃ xs, addN ok fs ds = fs ++ xs ∧ ∀ x ∈ xs, x ∈ ds ∧ ok x = true ∧ x ∉ fs
  | [], fs => ⟨[], by simp [addN], by simp⟩
  | d :: ds, fs => by
    by_cases h : ok d = true ∧ d ∉ fs
    · obtain ⟨xs, h1, h2⟩ := addN_app ok ds (fs ++ [d])
      refine ⟨d :: xs, ?_, fun x hx => ?_⟩
      · show addN ok (if _ then _ else _) ds = _
        rw [if_pos h, h1]; simp
      · rcases List.mem_cons.mp hx with rfl | hx
        · exact ⟨by simp, h.1, h.2⟩
        · obtain ⟨a, b, c⟩ := h2 x hx
          exact ⟨by simp [a], b, fun z => c (by simp [z])⟩
    · obtain ⟨xs, h1, h2⟩ := addN_app ok ds fs
      refine ⟨xs, ?_, fun x hx => ?_⟩
      · show addN ok (if _ then _ else _) ds = _
        rw [if_neg h, h1]
      · obtain ⟨a, b, c⟩ := h2 x hx
        exact ⟨by simp [a], b, c⟩
theorem addN_all (ok : α → Bool) : ∀ (ds fs : List α), ∀ d ∈ ds, ok d = true → d ∈ addN ok fs ds
  | [], fs, d, h, _ => by simp at h
  | e :: ds, fs, d, h, ho => by
    rcases List.mem_cons.mp h with rfl | h
    · refine addN_sub ok ds _ d ?_
      by_cases z : d ∈ fs
      · rw [if_neg (by simp [z])]; exact z
      · rw [if_pos ⟨ho, z⟩]; simp
    · exact addN_all ok ds _ d h ho
theorem addN_nd (ok : α → Bool) : ∀ (ds fs : List α), fs.Nodup → (addN ok fs ds).Nodup
  | [], fs, h => h
  | d :: ds, fs, h => by
    refine addN_nd ok ds _ ?_
    split
    · rename_i z
      rw [List.nodup_append]
      exact ⟨h, by simp, fun a ha b hb e => by rw [List.mem_singleton] at hb; subst hb; exact z.2 (e ▸ ha)⟩
    · exact h
/-- one is taken from those that wait, its neighbours are added -/
theorem Clo.step {nb : α → List α} {ok : α → Bool} {st : α → Prop} {fs : List α} {wt wt' : α → Prop} {c : α} (h : Clo nb ok st fs wt) (hc : c ∈ fs) (hw : ∀ x, wt x → x ≠ c → wt' x) (hn : ∀ x ∈ addN ok fs (nb c), x ∉ fs → wt' x) :
    Clo nb ok st (addN ok fs (nb c)) wt' := by
  obtain ⟨xs, e, hx⟩ := addN_app ok (nb c) fs
  refine ⟨addN_nd ok _ _ h.nd, fun x hm => ?_, fun x hs ho => addN_sub ok _ _ _ (h.st x hs ho), fun x hm hw' d hd ho => ?_⟩
  · rw [e] at hm
    rcases List.mem_append.mp hm with hm | hm
    · exact h.rc x hm
    · obtain ⟨a, b, _⟩ := hx x hm
      exact .nx (h.rc c hc) a b
  · by_cases hxf : x ∈ fs
    · by_cases hxc : x = c
      · subst hxc
        exact addN_all ok _ _ d hd ho
      · exact addN_sub ok _ _ _ (h.dn x hxf (fun z => hw' (hw x z hxc)) d hd ho)
    · exact (hw' (hn x hm hxf)).elim
theorem Clo.start {nb : α → List α} {ok : α → Bool} {st : α → Prop} {fs : List α} {wt : α → Prop} (nd : fs.Nodup) (h1 : ∀ c ∈ fs, st c ∧ ok c = true) (h2 : ∀ c, st c → ok c = true → c ∈ fs) (hw : ∀ c ∈ fs, wt c) : Clo nb ok st fs wt :=
  ⟨nd, fun c hc => .st (h1 c hc).1 (h1 c hc).2, h2, fun c hc z => (z (hw c hc)).elim⟩
theorem Rch.mono {nb : α → List α} {ok ok' : α → Bool} {st st' : α → Prop} (h1 : ∀ c, ok c = true → ok' c = true) (h2 : ∀ c, st c → ok c = true → st' c) {c : α} (h : Rch nb ok st c) : Rch nb ok' st' c := by
  induction h with
  | st hs ho => exact .st (h2 _ hs ho) (h1 _ ho)
  | nx _ hn ho ih => exact .nx ih hn (h1 _ ho)
/-- a list without two alike, all of it within another: no longer -/
theorem nodup_len {l m : List α} (nd : l.Nodup) (h : ∀ x ∈ l, x ∈ m) : l.length ≤ m.length := by
  induction l generalizing m with
  | nil => simp
  | cons a l ih =>
    obtain ⟨n1, n2⟩ := List.nodup_cons.mp nd
    have ha : a ∈ m := h a (by simp)
    have := ih (m := m.erase a) n2 fun x hx => (List.mem_erase_of_ne (fun e : x = a => n1 (e ▸ hx))).mpr (h x (by simp [hx]))
    rw [List.length_erase_of_mem ha] at this
    have : 0 < m.length := List.length_pos_of_mem ha
    simp
    omega
/-- the same things, none twice: the same but for the order -/
theorem perm_of_mem {l m : List α} (nl : l.Nodup) (nm : m.Nodup) (h : ∀ x, x ∈ l ↔ x ∈ m) : l.Perm m := by
  rw [List.perm_iff_count]
  intro a
  rw [List.Nodup.count nl, List.Nodup.count nm]
  simp [h a]
theorem addN_filter (ok q : α → Bool) (h : ∀ x, ok x = true → q x = true) : ∀ (ds fs : List α), addN ok fs (ds.filter q) = addN ok fs ds
  | [], fs => rfl
  | d :: ds, fs => by
    rw [List.filter_cons]
    cases hq : q d with
    | true =>
      show addN ok (if _ then _ else _) (ds.filter q) = addN ok (if _ then _ else _) ds
      exact addN_filter ok q h ds _
    | false =>
      have ho : ok d = false := by
        cases e : ok d with
        | false => rfl
        | true => rw [h d e] at hq; cases hq
      show addN ok fs (ds.filter q) = addN ok (if _ then _ else _) ds
      rw [if_neg (by simp [ho])]
      exact addN_filter ok q h ds fs
theorem Clo.imp {nb : α → List α} {ok : α → Bool} {st : α → Prop} {fs : List α} {wt wt' : α → Prop} (h : Clo nb ok st fs wt) (hw : ∀ x ∈ fs, wt x → wt' x) : Clo nb ok st fs wt' :=
  ⟨h.nd, h.rc, h.st, fun c hc z => h.dn c hc fun y => z (hw c hc y)⟩
end
end VS
set_option linter.all false
set_option maxRecDepth 100000
/-! LVL: levels by passes over all cells, plainly. -/
namespace VS
section
variable {α : Type} [DecidableEq α]
abbrev Tb (α : Type) := List (α × Int)
def lvT (tb : Tb α) (c : α) : Option Int := (tb.find? fun e => decide (e.1 = c)).map (·.2)
def putT (tb : Tb α) (c : α) (l : Int) : Tb α := if (tb.any fun e => decide (e.1 = c)) = true then tb.map (fun e => if e.1 = c then (e.1, l) else e) else tb ++ [(c, l)]
theorem lvT_put (tb : Tb α) (c d : α) (l : Int) : lvT (putT tb c l) d = if d = c then some l else lvT tb d := by
  unfold lvT putT
  split
  · rename_i ha
    induction tb with
    | nil => simp at ha
    | cons e tb ih =>
      rw [List.map_cons, List.find?_cons, List.find?_cons]
      by_cases h1 : e.1 = c
      · simp only [h1, if_true]
        by_cases h2 : c = d
        · subst h2; simp
        · simp only [h2, decide_false]
          have : d ≠ c := fun z => h2 z.symm
          rw [if_neg this]
          by_cases ha' : (tb.any fun e => decide (e.1 = c)) = true
          · rw [ih ha', if_neg this]
          · have e0 : tb.map (fun e => if e.1 = c then (e.1, l) else e) = tb := by
              refine (List.map_congr_left fun x hx => ?_).trans (List.map_id tb)
              rw [if_neg]
              · rfl
              · exact fun z => ha' (List.any_eq_true.mpr ⟨x, hx, by simpa using z⟩)
            rw [e0]
      · simp only [h1, if_false]
        by_cases h2 : e.1 = d
        · have : d ≠ c := fun z => h1 (h2.trans z)
          simp [h2, this]
        · simp only [h2, decide_false]
          exact ih (by simpa [h1] using ha)
  · rename_i ha
    rw [List.find?_append]
    cases hf : tb.find? fun e => decide (e.1 = d) with
    | some e =>
      have h1 := List.find?_some hf
      have h2 := List.mem_of_find?_eq_some hf
      have : d ≠ c := fun z => ha (List.any_eq_true.mpr ⟨e, h2, by rw [← z]; exact h1⟩)
      simp [this]
    | none =>
      by_cases h : d = c
      · subst h; simp
      · have : ¬ c = d := fun z => h z.symm
        simp [h, this]
theorem putT_keys (tb : Tb α) (c : α) (l : Int) : (putT tb c l).map (·.1) = if c ∈ tb.map (·.1) then tb.map (·.1) else tb.map (·.1) ++ [c] := by
  unfold putT
  have e : (tb.any fun e => decide (e.1 = c)) = decide (c ∈ tb.map (·.1)) := by
    rw [Bool.eq_iff_iff, List.any_eq_true, decide_eq_true_eq, List.mem_map]
    constructor
    · rintro ⟨x, h1, h2⟩; exact ⟨x, h1, of_decide_eq_true h2⟩
    · rintro ⟨x, h1, h2⟩; exact ⟨x, h1, decide_eq_true h2⟩
  rw [e]
  by_cases h : c ∈ tb.map (·.1)
  · rw [decide_eq_true h, if_pos rfl, if_pos h, List.map_map]
    refine List.map_congr_left fun x _ => ?_
    show (if x.1 = c then (x.1, l) else x).1 = x.1
    split <;> rfl
  · rw [decide_eq_false h, if_neg (by simp), if_neg h]
    simp
/-- the least level told beside a cell -/
structure Least (nb : List α) (lv : α → Option Int) (m : Option Int) : Prop where
  no : m = none → ∀ d ∈ nb, lv d = none
  mem : ∀ x, m = some x → ∃ d ∈ nb, lv d = some x
  le : ∀ x, m = some x → ∀ d ∈ nb, ∀ y, lv d = some y → x ≤ y
/-- each one told that is no drain has one told ahead of it -/
theorem Chain.at {F : Fd α} {es : Es α} (h : Chain F es) : ∀ (k : Nat) (c : α) (l : Int) (f : α), es[k]? = some (c, l, f) → F.dr c = true ∨ ∃ (i : Nat) (lf : Int) (ff : α) (o : Int), i < k ∧ es[i]? = some (f, lf, ff) ∧ c ∈ F.nb f ∧ F.ht c = some o ∧ l = max o lf := by
  induction h with
  | nil => intro k c l f e; simp at e
  | @drain es c0 l0 h hd ih =>
    intro k c l f e
    by_cases hk : k < es.length
    · rw [List.getElem?_append_left hk] at e
      refine (ih k c l f e).imp id fun ⟨i, lf, ff, o, h1, h2, h3⟩ => ⟨i, lf, ff, o, h1, ?_, h3⟩
      rw [List.getElem?_append_left (by omega)]; exact h2
    · rw [List.getElem?_append_right (by omega)] at e
      have : k - es.length = 0 := by
        have := (List.getElem?_eq_some_iff.mp e).1
        simp at this
        omega
      rw [this] at e
      simp at e
      exact .inl (by rw [← e.1]; exact hd)
  | @next es c0 f0 lf0 ff0 o0 h hd hf hn ho ih =>
    intro k c l f e
    by_cases hk : k < es.length
    · rw [List.getElem?_append_left hk] at e
      refine (ih k c l f e).imp id fun ⟨i, lf, ff, o, h1, h2, h3⟩ => ⟨i, lf, ff, o, h1, ?_, h3⟩
      rw [List.getElem?_append_left (by omega)]; exact h2
    · rw [List.getElem?_append_right (by omega)] at e
      have : k - es.length = 0 := by
        have := (List.getElem?_eq_some_iff.mp e).1
        simp at this
        omega
      rw [this] at e
      simp at e
      obtain ⟨rfl, rfl, rfl⟩ := e
      obtain ⟨i, hi⟩ := List.getElem?_of_mem hf
      have hil := (List.getElem?_eq_some_iff.mp hi).1
      refine .inr ⟨i, lf0, ff0, o0, by omega, ?_, hn, ho, rfl⟩
      rw [List.getElem?_append_left hil]; exact hi
/-- where the passes stand: k of them are behind -/
structure Pass (F : Fd α) (es : Es α) (lv : α → Option Int) (k : Nat) : Prop where
  lo : ∀ c l, lv c = some l → ∃ l0, lvE es c = some l0 ∧ l0 ≤ l
  dr : ∀ c, F.dr c = true → lv c = lvE es c
  st : ∀ i c l f, i < k → es[i]? = some (c, l, f) → lv c = lvE es c
def Settled (es : Es α) (lv : α → Option Int) : Prop := ∀ c, lv c = lvE es c
theorem Pass.all {F : Fd α} {es : Es α} {lv : α → Option Int} {k : Nat} (h : Pass F es lv k) (hk : es.length ≤ k) : Settled es lv := fun c => by
  cases e : lvE es c with
  | some l =>
    obtain ⟨f, hf⟩ := lv_some e
    obtain ⟨i, hi⟩ := List.getElem?_of_mem hf
    rw [h.st i c l f (Nat.lt_of_lt_of_le (List.getElem?_eq_some_iff.mp hi).1 hk) hi, e]
  | none =>
    cases e2 : lv c with
    | none => rfl
    | some l =>
      obtain ⟨l0, h1, _⟩ := h.lo c l e2
      rw [e] at h1; cases h1
/-- what a cell is given -/
def newV (F : Fd α) (lv : α → Option Int) (c : α) (m : Option Int) : Option Int := match F.ht c, m with
  | some o, some x => (match lv c with
    | none => some (max x o)
    | some l => if max x o < l then some (max x o) else none)
  | _, _ => none
structure Field (F : Fd α) (es : Es α) : Prop where
  dn : Done F es
  sym : ∀ c d, F.ht c ≠ none → d ∈ F.nb c → c ∈ F.nb d
/-- a settled cell is given nothing -/
theorem new_none {F : Fd α} {es : Es α} {lv : α → Option Int} {k : Nat} {c : α} {m : Option Int} (W : Field F es) (h : Pass F es lv k) (hm : Least (F.nb c) lv m) (hs : lv c = lvE es c) : newV F lv c m = none := by
  unfold newV
  cases ho : F.ht c with
  | none => rfl
  | some o =>
    cases hx : m with
    | none => rfl
    | some x =>
      obtain ⟨d, hd, hdx⟩ := hm.mem x hx
      obtain ⟨l0, h1, h2⟩ := h.lo d x hdx
      have hcd := W.sym c d (by rw [ho]; simp) hd
      obtain ⟨l, h3, h4⟩ := W.dn.lev.nx d l0 c o h1 hcd ho
      rw [hs, h3]
      show (if max x o < l then some (max x o) else none) = none
      rw [if_neg (by omega)]
/-- one cell of a pass -/
theorem Pass.one {F : Fd α} {es : Es α} {lv lv' : α → Option Int} {k : Nat} {c : α} {m : Option Int} (W : Field F es) (h : Pass F es lv k) (hm : Least (F.nb c) lv m)
    (hv : ∀ d, lv' d = if d = c then (newV F lv c m).or (lv c) else lv d) : Pass F es lv' k ∧ (∀ l f, es[k]? = some (c, l, f) → lv' c = lvE es c) ∧ (∀ d, lv d = lvE es d → lv' d = lvE es d) := by
  have keep : ∀ d, lv d = lvE es d → lv' d = lvE es d := fun d hd => by
    rw [hv]
    by_cases e : d = c
    · subst e
      rw [if_pos rfl, new_none W h hm hd]
      exact hd
    · rw [if_neg e]; exact hd
  have low : ∀ l, lv' c = some l → ∃ l0, lvE es c = some l0 ∧ l0 ≤ l := fun l hl => by
    rw [hv, if_pos rfl] at hl
    cases hn : newV F lv c m with
    | none => rw [hn] at hl; exact h.lo c l hl
    | some v =>
      rw [hn] at hl
      cases hl
      have hn' := hn
      unfold newV at hn
      cases ho : F.ht c with
      | none => rw [ho] at hn; cases hn
      | some o =>
        cases hx : m with
        | none => rw [ho, hx] at hn; cases hn
        | some x =>
          obtain ⟨d, hd, hdx⟩ := hm.mem x hx
          obtain ⟨l0, h1, h2⟩ := h.lo d x hdx
          have hcd := W.sym c d (by rw [ho]; simp) hd
          obtain ⟨l', h3, h4⟩ := W.dn.lev.nx d l0 c o h1 hcd ho
          rw [ho, hx] at hn
          dsimp only at hn
          have : l = max x o := by
            cases hlc : lv c with
            | none => rw [hlc] at hn; exact (Option.some.inj hn).symm
            | some y =>
              rw [hlc] at hn
              dsimp only at hn
              split at hn
              · exact (Option.some.inj hn).symm
              · cases hn
          exact ⟨l', h3, by omega⟩
  refine ⟨⟨fun d l hd => ?_, fun d hd => keep d (h.dr d hd), fun i d l f hi he => keep d (h.st i d l f hi he)⟩, fun l f he => ?_, keep⟩
  · by_cases e : d = c
    · subst e; exact low l hd
    · rw [hv, if_neg e] at hd
      exact h.lo d l hd
  · have hmem := List.mem_of_getElem? he
    have hle := lv_of W.dn.t.nd hmem
    rcases W.dn.t.ch.at k c l f he with hd | ⟨i, lf, ff, o, hi, hei, hn, ho, rfl⟩
    · exact keep c (h.dr c hd)
    · have hf : lv f = some lf := by
        rw [h.st i f lf ff hi hei]
        exact lv_of W.dn.t.nd (List.mem_of_getElem? hei)
      have hof : F.ht f ≠ none := by
        obtain ⟨o', h1, _⟩ := W.dn.lev.own f lf (lv_of W.dn.t.nd (List.mem_of_getElem? hei))
        rw [h1]; simp
      have hfc : f ∈ F.nb c := W.sym f c hof hn
      cases hx : m with
      | none =>
        have := hm.no hx f hfc
        rw [hf] at this; cases this
      | some x =>
        have hxl := hm.le x hx f hfc lf hf
        have hnv : newV F lv c m = (match lv c with
          | none => some (max x o)
          | some l => if max x o < l then some (max x o) else none) := by
          unfold newV
          rw [ho, hx]
        have hv' : ∃ l', lv' c = some l' ∧ l' ≤ max x o := by
          rw [hv, if_pos rfl, hnv]
          cases hlc : lv c with
          | none => exact ⟨_, rfl, by omega⟩
          | some y =>
            dsimp only
            by_cases hlt : max x o < y
            · rw [if_pos hlt]; exact ⟨_, rfl, by omega⟩
            · rw [if_neg hlt]; exact ⟨y, rfl, by omega⟩
        obtain ⟨l', h1, h2⟩ := hv'
        obtain ⟨l0, h3, h4⟩ := low l' h1
        rw [hle] at h3
        cases h3
        rw [h1, hle]
        congr 1
        omega
/-- nothing moved in a whole pass: all is settled -/
theorem Pass.still {F : Fd α} {es : Es α} {lv : α → Option Int} {k : Nat} (W : Field F es) (h : Pass F es lv k) (hc : ∀ c, F.ht c ≠ none → ∃ m, Least (F.nb c) lv m ∧ newV F lv c m = none) : Settled es lv := by
  have up : ∀ (k i : Nat) (c : α) (l : Int) (f : α), i < k → es[i]? = some (c, l, f) → lv c = lvE es c := by
    intro k
    induction k with
    | zero => intro i c l f hi; omega
    | succ k ih =>
      intro i c l f hi he
      by_cases hik : i < k
      · exact ih i c l f hik he
      · have : i = k := by omega
        subst this
        have P : Pass F es lv i := ⟨h.lo, h.dr, ih⟩
        have hle := lv_of W.dn.t.nd (List.mem_of_getElem? he)
        obtain ⟨o, ho, _⟩ := W.dn.lev.own c l hle
        obtain ⟨m, hm, hn⟩ := hc c (by rw [ho]; simp)
        exact (P.one (lv' := lv) W hm fun d => by
          by_cases e : d = c
          · rw [if_pos e, hn, e]; rfl
          · rw [if_neg e]).2.1 l f he
  exact Pass.all (k := es.length) ⟨h.lo, h.dr, up es.length⟩ (Nat.le_refl _)
theorem Pass.more {F : Fd α} {es : Es α} {lv : α → Option Int} {k : Nat} (h : Pass F es lv k) (hk : ∀ c l f, es[k]? = some (c, l, f) → lv c = lvE es c) : Pass F es lv (k + 1) :=
  ⟨h.lo, h.dr, fun i c l f hi he => by
    by_cases e : i = k
    · subst e; exact hk c l f he
    · exact h.st i c l f (by omega) he⟩
end
end VS
set_option Elab.async false
set_option linter.all false
set_option maxRecDepth 100000
set_option maxHeartbeats 2000000
namespace VS
open PySem L2
variable [Exs]
def g_law_size : SF :=
  (sSeq (sIf (tE (e2 (eqD false) (e2 modD (e2 divD (eVar 0) (eC (.int 20))) (eC (.int 8))) (eC (.int 1)))) (sRet (e2 ixD (eLst (aCons (eTup (aCons (eC (.int 1)) (aCons (eC (.int 30)) aNil))) (aCons (eTup (aCons (eC (.int 30)) (aCons (eC (.int 1)) aNil))) (aCons (eTup (aCons (eC (.int 5)) (aCons (eC (.int 5)) aNil))) (aCons (eTup (aCons (eC (.int 2)) (aCons (eC (.int 12)) aNil))) (aCons (eTup (aCons (eC (.int 2)) (aCons (eC (.int 30)) aNil))) (aCons (eTup (aCons (eC (.int 30)) (aCons (eC (.int 2)) aNil))) (aCons (eTup (aCons (eC (.int 6)) (aCons (eC (.int 7)) aNil))) (aCons (eTup (aCons (eC (.int 12)) (aCons (eC (.int 11)) aNil))) aNil))))))))) (e2 modD (e2 divD (eVar 0) (eC (.int 160))) (eC (.int 8))))) sNx)
    (sRet (eTup (aCons (e2 addD (eC (.int 1)) (e2 modD (eVar 0) (eC (.int 4)))) (aCons (e2 addD (eC (.int 1)) (e2 modD (e2 divD (eVar 0) (eC (.int 4))) (eC (.int 5)))) aNil)))))
def F_law_size : List D → O D := runF 1 1 .fz g_law_size

def g_law_cell_at : SF :=
  (sSeq (sIf (tE (e2 ltD (eVar 1) (e1 lenD (eVar 0)))) (sRet (eImm (e2 ixD (eVar 0) (eVar 1)))) sNx)
    (sRet (eC (.int 0))))
def F_law_cell_at : List D → O D := runF 2 2 .fz g_law_cell_at

def g_law_number : SF :=
  (sSeq (sIf (tE (e2 ltD (e2 addD (eVar 1) (eC (.int 3))) (e1 lenD (eVar 0)))) (sRet (eImm (e2 ixD (eVar 0) (e2 addD (eVar 1) (eC (.int 3)))))) sNx)
    (sRet (e2 addD (e2 addD (e2 mulD (eC (.int 7)) (eCall (aCons (eVar 0) (aCons (eC (.int 1)) aNil)) F_law_cell_at)) (e2 mulD (e2 mulD (eCall (aCons (eVar 0) (aCons (eC (.int 2)) aNil)) F_law_cell_at) (eVar 1)) (eVar 1))) (e2 mulD (eC (.int 13)) (eVar 1)))))
def F_law_number : List D → O D := runF 2 2 .fz g_law_number

def g_law_height_by : SF :=
  (sSeq (sIf (tE (e2 (eqD false) (e2 modD (eVar 0) (eC (.int 9))) (eC (.int 8)))) (sRet (eC .non)) sNx)
    (sSeq (sIf (tE (e2 (eqD false) (eVar 1) (eC (.int 0)))) (sRet (e2 modD (e2 divD (eVar 0) (eC (.int 9))) (eC (.int 3)))) sNx)
    (sSeq (sIf (tE (e2 (eqD false) (eVar 1) (eC (.int 1)))) (sRet (e2 modD (e2 divD (eVar 0) (eC (.int 9))) (eC (.int 12)))) sNx)
    (sSeq (sIf (tE (e2 (eqD false) (eVar 1) (eC (.int 2)))) (sRet (e2 modD (e2 divD (eVar 0) (eC (.int 9))) (eC (.int 1000000001)))) sNx)
    (sRet (e2 subD (eC (.int 1000000000)) (e2 modD (e2 divD (eVar 0) (eC (.int 9))) (eC (.int 2)))))))))
def F_law_height_by : List D → O D := runF 2 2 .fz g_law_height_by

def g_law_grid_1 : EF :=
  (eCall (aCons (eVar 0) (aCons (e2 addD (e2 mulD (eVar 4) (e2 ixD (eVar 1) (eC (.int 1)))) (eVar 6)) aNil)) F_law_number)
def g_law_grid_2 : EF :=
  (eCall (aCons (eVar 7) (aCons (eVar 2) aNil)) F_law_height_by)
def g_law_grid_3 : SF :=
  (sSeq (sSet 5 (eLc (iRg1 (e2 ixD (eVar 1) (eC (.int 1)))) 6 tTr g_law_grid_1))
    (sAppO 3 (eLc (iSeq (eVar 5)) 7 tTr g_law_grid_2)))
def g_law_grid : SF :=
  (sSeq (sSet 1 (eCall (aCons (eCall (aCons (eVar 0) (aCons (eC (.int 0)) aNil)) F_law_cell_at) aNil) F_law_size))
    (sSeq (sSet 2 (e2 modD (eCall (aCons (eVar 0) (aCons (eC (.int 1)) aNil)) F_law_cell_at) (eC (.int 4))))
    (sSeq (sSet 3 (eLst aNil))
    (sSeq (sFor (iRg1 (e2 ixD (eVar 1) (eC (.int 0)))) (gN 4) g_law_grid_3)
    (sRetV 3)))))
def F_law_grid : List D → O D := runF 8 1 (.l (.l .fz)) g_law_grid

def g_law_drains_1 : SF :=
  (sSeq (sSet 7 (e2 addD (e2 mulD (eVar 5) (e1 lenD (e2 ixD (eVar 1) (eC (.int 0))))) (eVar 6)))
    (sIf (tAndF (tE (e2 (isND true) (e2 ixD (e2 ixD (eVar 1) (eVar 5)) (eVar 6)) (eC .non))) (tE (e2 (eqD false) (e2 modD (e2 addD (eVar 2) (e2 mulD (eVar 7) (e2 addD (eC (.int 1)) (e2 modD (e2 divD (eVar 2) (eC (.int 12))) (eC (.int 5)))))) (eVar 3)) (eC (.int 0))))) (sApp 4 (eTup (aCons (eVar 5) (aCons (eVar 6) aNil)))) sNx))
def g_law_drains_2 : SF :=
  (sFor (iRg1 (e1 lenD (e2 ixD (eVar 1) (eC (.int 0))))) (gN 6) g_law_drains_1)
def g_law_drains : SF :=
  (sSeq (sSet 2 (eCall (aCons (eVar 0) (aCons (eC (.int 2)) aNil)) F_law_cell_at))
    (sSeq (sSet 3 (e2 ixD (eLst (aCons (eC (.int 2)) (aCons (eC (.int 3)) (aCons (eC (.int 5)) (aCons (eC (.int 9)) (aCons (eC (.int 14)) aNil)))))) (e2 modD (e2 divD (eVar 2) (eC (.int 60))) (eC (.int 5)))))
    (sSeq (sSet 4 (eLst aNil))
    (sSeq (sFor (iRg1 (e1 lenD (eVar 1))) (gN 5) g_law_drains_2)
    (sRetV 4)))))
def F_law_drains : List D → O D := runF 8 2 (.l .fz) g_law_drains

def g_is_whole : SF :=
  (sRet (eB (tAndF (tE (e1 (isTD "int") (eVar 0))) (tE (eB (tNotF (tE (e1 (isTD "bool") (eVar 0)))))))))
def F_is_whole : List D → O D := runF 1 1 .fz g_is_whole

def g_is_height : SF :=
  (sSeq (sIf (tE (e2 (isND false) (eVar 0) (eC .non))) (sRet (eC (.bl true))) sNx)
    (sRet (eB (tAndF (tE (eCall (aCons (eVar 0) aNil) F_is_whole)) (tE (eChain (fun i j => decide (i ≤ j)) (fun i j => decide (i ≤ j)) (eC (.int 0)) (eVar 0) (eC (.int 1000000000))))))))
def F_is_height : List D → O D := runF 1 1 .fz g_is_height

def g_Land_init_1 : SF :=
  (sIf (tOrF (tNotF (tE (e1 (isTD "list") (eVar 2)))) (tOrF (tNotF (tE (eChain (fun i j => decide (i ≤ j)) (fun i j => decide (i ≤ j)) (eC (.int 1)) (e1 lenD (eVar 2)) (eC (.int 30))))) (tE (e2 (eqD true) (e1 lenD (eVar 2)) (e1 lenD (e2 ixD (eVar 1) (eC (.int 0)))))))) (sK (sExc (.ref Exs.NoLand))) sNx)
def g_Land_init_2 : SF :=
  (sIf (tNotF (tE (eCall (aCons (eVar 3) aNil) F_is_height))) (sK (sExc (.ref Exs.NoHeight))) sNx)
def g_Land_init_3 : SF :=
  (sFor (iSeq (eVar 2)) (gN 3) g_Land_init_2)
def g_Land_init_4 : EF :=
  (e1 listD (eVar 2))
def g_Land_init : SF :=
  (sSeq (sIf (tOrF (tNotF (tE (e1 (isTD "list") (eVar 1)))) (tNotF (tE (eChain (fun i j => decide (i ≤ j)) (fun i j => decide (i ≤ j)) (eC (.int 1)) (e1 lenD (eVar 1)) (eC (.int 30)))))) (sK (sExc (.ref Exs.NoLand))) sNx)
    (sSeq (sFor (iSeq (eVar 1)) (gN 2) g_Land_init_1)
    (sSeq (sFor (iSeq (eVar 1)) (gN 2) g_Land_init_3)
    (sLand 0 (eLc (iSeq (eVar 1)) 2 tTr g_Land_init_4) (e1 lenD (eVar 1)) (e1 lenD (e2 ixD (eVar 1) (eC (.int 0))))))))
def F_Land_init : List D → O Rz := runM 4 [some .land, none] .fz g_Land_init

def g_lies_in : SF :=
  (sSeq (sIf (tOrF (tNotF (tE (e1 (isTD "tuple") (eVar 2)))) (tE (e2 (eqD true) (e1 lenD (eVar 2)) (eC (.int 2))))) (sRet (eC (.bl false))) sNx)
    (sSeq (sIf (tOrF (tNotF (tE (eCall (aCons (e2 ixD (eVar 2) (eC (.int 0))) aNil) F_is_whole))) (tNotF (tE (eCall (aCons (e2 ixD (eVar 2) (eC (.int 1))) aNil) F_is_whole)))) (sRet (eC (.bl false))) sNx)
    (sRet (eB (tAndF (tE (eChain (fun i j => decide (i ≤ j)) (fun i j => decide (i < j)) (eC (.int 0)) (e2 ixD (eVar 2) (eC (.int 0))) (eVar 0))) (tE (eChain (fun i j => decide (i ≤ j)) (fun i j => decide (i < j)) (eC (.int 0)) (e2 ixD (eVar 2) (eC (.int 1))) (eVar 1))))))))
def F_lies_in : List D → O D := runF 3 3 .fz g_lies_in

def g_Land_need : SF :=
  (sIf (tNotF (tE (eCall (aCons (e1 rowsD (eVar 0)) (aCons (e1 colsD (eVar 0)) (aCons (eVar 1) aNil))) F_lies_in))) (sExc (.ref Exs.NoCell)) sNx)
def F_Land_need : List D → O D := runF 2 2 .fz g_Land_need

def g_Land_opened : SF :=
  (sSeq (sK (sDrop (eMe .land (eVar 0) (aCons (eVar 1) aNil) F_Land_need)))
    (sSeq (sIf (tE (e2 (isND false) (e2 ixD (e2 ixD (e1 gridD (eVar 0)) (e2 ixD (eVar 1) (eC (.int 0)))) (e2 ixD (eVar 1) (eC (.int 1)))) (eC .non))) (sK (sExc (.ref Exs.NoDrain))) sNx)
    (sOpen 0 (eVar 1) (eC (.bl true)))))
def F_Land_opened : List D → O Rz := runM 2 [some .land, none] .fz g_Land_opened

def g_Pile_init : SF :=
  (sPile0 0)
def F_Pile_init : List D → O Rz := runM 1 [some .pile] .fz g_Pile_init

def g_all_cells_1 : SF :=
  (sApp 2 (eTup (aCons (eVar 3) (aCons (eVar 4) aNil))))
def g_all_cells_2 : SF :=
  (sFor (iRg1 (eVar 1)) (gN 4) g_all_cells_1)
def g_all_cells : SF :=
  (sSeq (sSet 2 (eLst aNil))
    (sSeq (sFor (iRg1 (eVar 0)) (gN 3) g_all_cells_2)
    (sRetV 2)))
def F_all_cells : List D → O D := runF 5 2 (.l .fz) g_all_cells

def g_Land_is_drain : SF :=
  (sSeq (sDrop (eMe .land (eVar 0) (aCons (eVar 1) aNil) F_Land_need))
    (sRet (eImm (eGet2 (e1 openD (eVar 0)) (eVar 1) (eC (.bl false))))))
def F_Land_is_drain : List D → O D := runF 2 2 .fz g_Land_is_drain

def g_Land_drains_1 : TF :=
  (tE (eMe .land (eVar 0) (aCons (eVar 1) aNil) F_Land_is_drain))
def g_Land_drains_2 : EF :=
  (eVar 1)
def g_Land_drains : SF :=
  (sRet (eLc (iSeq (eCall (aCons (e1 rowsD (eVar 0)) (aCons (e1 colsD (eVar 0)) aNil)) F_all_cells)) 1 g_Land_drains_1 g_Land_drains_2))
def F_Land_drains : List D → O D := runF 2 1 (.l .fz) g_Land_drains

def g_Pile_put_1 : TF :=
  (tAndF (tE (e2 gtD (eVar 2) (eC (.int 0)))) (tE (e2 ltA (e2 ixD (e1 rowPD (eVar 0)) (eVar 2)) (e2 ixD (e1 rowPD (eVar 0)) (e2 divD (e2 subD (eVar 2) (eC (.int 1))) (eC (.int 2)))))))
def g_Pile_put_2 : SF :=
  (sSeq (sSet 3 (e2 divD (e2 subD (eVar 2) (eC (.int 1))) (eC (.int 2))))
    (sSeq (sSet 4 (eImm (e2 ixD (e1 rowPD (eVar 0)) (eVar 3))))
    (sSeq (sStore 0 (gRow 0) pRow (eVar 3) (e2 ixD (e1 rowPD (eVar 0)) (eVar 2)))
    (sSeq (sStore 0 (gRow 0) pRow (eVar 2) (eVar 4))
    (sSet 2 (eVar 3))))))
def g_Pile_put : SF :=
  (sSeq (sAppL 0 (gRow 0) pRow (eVar 1))
    (sSeq (sSet 2 (e2 subD (e1 lenD (e1 rowPD (eVar 0))) (eC (.int 1))))
    (sWhile g_Pile_put_1 g_Pile_put_2 100000)))
def F_Pile_put : List D → O Rz := runM 5 [some .pile, none] .fz g_Pile_put

def g_Land_height : SF :=
  (sSeq (sDrop (eMe .land (eVar 0) (aCons (eVar 1) aNil) F_Land_need))
    (sRet (eImm (e2 ixD (e2 ixD (e1 gridD (eVar 0)) (e2 ixD (eVar 1) (eC (.int 0)))) (e2 ixD (eVar 1) (eC (.int 1)))))))
def F_Land_height : List D → O D := runF 2 2 .fz g_Land_height

def g_Pile_many : SF :=
  (sRet (e1 lenD (e1 rowPD (eVar 0))))
def F_Pile_many : List D → O D := runF 1 1 .fz g_Pile_many

def g_Pile_sink_1 : TF :=
  (tE (e2 ltD (e2 addD (e2 mulD (eC (.int 2)) (eVar 1)) (eC (.int 1))) (e1 lenD (e1 rowPD (eVar 0)))))
def g_Pile_sink_2 : SF :=
  (sSeq (sSet 2 (e2 addD (e2 mulD (eC (.int 2)) (eVar 1)) (eC (.int 1))))
    (sSeq (sIf (tAndF (tE (e2 ltD (e2 addD (eVar 2) (eC (.int 1))) (e1 lenD (e1 rowPD (eVar 0))))) (tE (e2 ltA (e2 ixD (e1 rowPD (eVar 0)) (e2 addD (eVar 2) (eC (.int 1)))) (e2 ixD (e1 rowPD (eVar 0)) (eVar 2))))) (sSet 2 (e2 addD (eVar 2) (eC (.int 1)))) sNx)
    (sSeq (sIf (tNotF (tE (e2 ltA (e2 ixD (e1 rowPD (eVar 0)) (eVar 2)) (e2 ixD (e1 rowPD (eVar 0)) (eVar 1))))) sRetN sNx)
    (sSeq (sSet 3 (eImm (e2 ixD (e1 rowPD (eVar 0)) (eVar 2))))
    (sSeq (sStore 0 (gRow 0) pRow (eVar 2) (e2 ixD (e1 rowPD (eVar 0)) (eVar 1)))
    (sSeq (sStore 0 (gRow 0) pRow (eVar 1) (eVar 3))
    (sSet 1 (eVar 2))))))))
def g_Pile_sink : SF :=
  (sSeq (sSet 1 (eC (.int 0)))
    (sWhile g_Pile_sink_1 g_Pile_sink_2 100000))
def F_Pile_sink : List D → O Rz := runM 4 [some .pile] .fz g_Pile_sink

def g_Pile_take : SF :=
  (sSeq (sIf (tE (e2 (eqD false) (e1 lenD (e1 rowPD (eVar 0))) (eC (.int 0)))) (sRet (eC .non)) sNx)
    (sSeq (sSet 1 (eImm (e2 ixD (e1 rowPD (eVar 0)) (eC (.int 0)))))
    (sSeq (sSetX 2 (xPop 0 (gRow 0) pRow))
    (sSeq (sIf (tE (e2 gtD (e1 lenD (e1 rowPD (eVar 0))) (eC (.int 0)))) (sSeq (sStore 0 (gRow 0) pRow (eC (.int 0)) (eVar 2))
    (sDropX (xMe .pile 0 [] aNil F_Pile_sink))) sNx)
    (sRet (eVar 1))))))
def F_Pile_take : List D → O Rz := runM 3 [some .pile] .fz g_Pile_take

def g_beside_1 : TF :=
  (tE (eCall (aCons (eVar 0) (aCons (eVar 1) (aCons (eVar 6) aNil))) F_lies_in))
def g_beside_2 : EF :=
  (eVar 6)
def g_beside : SF :=
  (sSeq (sSet 3 (eImm (e2 ixD (eVar 2) (eC (.int 0)))))
    (sSeq (sSet 4 (eImm (e2 ixD (eVar 2) (eC (.int 1)))))
    (sSeq (sSet 5 (eLst (aCons (eTup (aCons (e2 subD (eVar 3) (eC (.int 1))) (aCons (eVar 4) aNil))) (aCons (eTup (aCons (eVar 3) (aCons (e2 subD (eVar 4) (eC (.int 1))) aNil))) (aCons (eTup (aCons (eVar 3) (aCons (e2 addD (eVar 4) (eC (.int 1))) aNil))) (aCons (eTup (aCons (e2 addD (eVar 3) (eC (.int 1))) (aCons (eVar 4) aNil))) aNil))))))
    (sRet (eLc (iSeq (eVar 5)) 6 g_beside_1 g_beside_2)))))
def F_beside : List D → O D := runF 7 3 (.l .fz) g_beside

def g_spread_1 : SF :=
  (sDropX (xMe .pile 1 [none] (aCons (eTup (aCons (eMe .land (eVar 0) (aCons (eVar 2) aNil) F_Land_height) (aCons (eVar 2) (aCons (eVar 2) aNil)))) aNil) F_Pile_put))
def g_spread_2 : SF :=
  (sSeq (sSet 8 (eMe .land (eVar 0) (aCons (eVar 7) aNil) F_Land_height))
    (sIf (tAndF (tE (e2 (isND true) (eVar 8) (eC .non))) (tE (eIn true (eVar 7) (eVar 3)))) (sDropX (xMe .pile 1 [none] (aCons (eTup (aCons (e2 max2D (eVar 8) (eVar 6)) (aCons (eVar 7) (aCons (eVar 2) aNil)))) aNil) F_Pile_put)) sNx))
def g_spread_3 : TF :=
  (tE (e2 gtD (eMe .pile (eVar 1) aNil F_Pile_many) (eC (.int 0))))
def g_spread_4 : SF :=
  (sSeq (sSetX 5 (xMe .pile 1 [] aNil F_Pile_take))
    (sSeq (sSet 6 (e2 ixD (eVar 5) (eC (.int 0))))
    (sSeq (sSet 2 (e2 ixD (eVar 5) (eC (.int 1))))
    (sSeq (sIf (tE (eIn false (eVar 2) (eVar 3))) sCt sNx)
    (sSeq (sDput 3 (eVar 2) (eVar 6))
    (sSeq (sDput 4 (eVar 2) (e2 ixD (eVar 5) (eC (.int 2))))
    (sSeq (sIf (tE (eMe .land (eVar 0) (aCons (eVar 2) aNil) F_Land_is_drain)) (sDput 4 (eVar 2) (eVar 2)) sNx)
    (sFor (iSeq (eCall (aCons (e1 rowsD (eVar 0)) (aCons (e1 colsD (eVar 0)) (aCons (eVar 2) aNil))) F_beside)) (gN 7) g_spread_2))))))))
def g_spread : SF :=
  (sSeq (sSet 1 (eMk aNil F_Pile_init))
    (sSeq (sFor (iSeq (eMe .land (eVar 0) aNil F_Land_drains)) (gN 2) g_spread_1)
    (sSeq (sSet 3 eDct0)
    (sSeq (sSet 4 eDct0)
    (sSeq (sWhile g_spread_3 g_spread_4 100000)
    (sRet (eTup (aCons (eVar 3) (aCons (eVar 4) aNil)))))))))
def F_spread : List D → O D := runF 9 1 .fz g_spread

def g_depths_1 : SF :=
  (sIf (tE (eIn false (eVar 3) (eVar 1))) (sDput 2 (eVar 3) (e2 subD (e2 ixD (eVar 1) (eVar 3)) (eMe .land (eVar 0) (aCons (eVar 3) aNil) F_Land_height))) sNx)
def g_depths : SF :=
  (sSeq (sSet 1 (e2 ixD (eCall (aCons (eVar 0) aNil) F_spread) (eC (.int 0))))
    (sSeq (sSet 2 eDct0)
    (sSeq (sFor (iSeq (eCall (aCons (e1 rowsD (eVar 0)) (aCons (e1 colsD (eVar 0)) aNil)) F_all_cells)) (gN 3) g_depths_1)
    (sRetV 2))))
def F_depths : List D → O D := runF 4 1 .d g_depths

def g_pools_1 : SF :=
  (sIf (tAndF (tE (e2 gtD (eGet2 (eVar 1) (eVar 8) (eC (.int 0))) (eC (.int 0)))) (tE (eIn true (eVar 8) (eVar 3)))) (sSeq (sDput 3 (eVar 8) (eC (.bl true)))
    (sSeq (sDput 6 (eVar 8) (eC (.bl true)))
    (sApp 5 (eVar 8)))) sNx)
def g_pools_2 : TF :=
  (tE (e2 gtD (e1 lenD (eVar 5)) (eC (.int 0))))
def g_pools_3 : SF :=
  (sSeq (sSetX 7 (xPop 5 (gVar 5) pVar))
    (sFor (iSeq (eCall (aCons (e1 rowsD (eVar 0)) (aCons (e1 colsD (eVar 0)) (aCons (eVar 7) aNil))) F_beside)) (gN 8) g_pools_1))
def g_pools_4 : SF :=
  (sIf (tAndF (tE (e2 gtD (eGet2 (eVar 1) (eVar 4) (eC (.int 0))) (eC (.int 0)))) (tE (eIn true (eVar 4) (eVar 3)))) (sSeq (sDput 3 (eVar 4) (eC (.bl true)))
    (sSeq (sSet 5 (eLst (aCons (eVar 4) aNil)))
    (sSeq (sSet 6 (eDct1 (eVar 4) (eC (.bl true))))
    (sSeq (sWhile g_pools_2 g_pools_3 100000)
    (sAppO 2 (e1 sortD (e1 listDct (eVar 6)))))))) sNx)
def g_pools : SF :=
  (sSeq (sSet 1 (eCall (aCons (eVar 0) aNil) F_depths))
    (sSeq (sSet 2 (eLst aNil))
    (sSeq (sSet 3 eDct0)
    (sSeq (sFor (iSeq (eCall (aCons (e1 rowsD (eVar 0)) (aCons (e1 colsD (eVar 0)) aNil)) F_all_cells)) (gN 4) g_pools_4)
    (sRetV 2)))))
def F_pools : List D → O D := runF 9 1 (.l (.l .fz)) g_pools

def g_volume_1 : EF :=
  (e2 ixF (eVar 1) (eVar 2))
def g_volume : SF :=
  (sSeq (sSet 1 (eCall (aCons (eVar 0) aNil) F_depths))
    (sLock 1 (sRet (e1 sumD (eLc (iFd (eVar 1)) 2 tTr g_volume_1)))))
def F_volume : List D → O D := runF 3 1 .fz g_volume

def g_law_asked : SF :=
  (sSeq (sDrop (eCall (aCons (eVar 0) aNil) F_depths))
    (sSeq (sDrop (eCall (aCons (eVar 0) aNil) F_pools))
    (sRet (eCall (aCons (eVar 0) aNil) F_volume))))
def F_law_asked : List D → O D := runF 1 1 .fz g_law_asked

def g_Land_shut : SF :=
  (sSeq (sK (sDrop (eMe .land (eVar 0) (aCons (eVar 1) aNil) F_Land_need)))
    (sSeq (sIfK (tNotF (tE (eMe .land (eVar 0) (aCons (eVar 1) aNil) F_Land_is_drain))) (sK (sExc (.ref Exs.NoDrain))) sNx)
    (sOpen 0 (eVar 1) (eC (.bl false)))))
def F_Land_shut : List D → O Rz := runM 2 [some .land, none] .fz g_Land_shut

def g_Land_raised : SF :=
  (sSeq (sK (sDrop (eMe .land (eVar 0) (aCons (eVar 1) aNil) F_Land_need)))
    (sSeq (sIf (tNotF (tE (eCall (aCons (eVar 2) aNil) F_is_height))) (sK (sExc (.ref Exs.NoHeight))) sNx)
    (sSeq (sStore 0 (gGrid 0 (e2 ixD (eVar 1) (eC (.int 0)))) (pGrid 0 (e2 ixD (eVar 1) (eC (.int 0)))) (e2 ixD (eVar 1) (eC (.int 1))) (eVar 2))
    (sIf (tE (e2 (isND false) (eVar 2) (eC .non))) (sOpen 0 (eVar 1) (eC (.bl false))) sNx))))
def F_Land_raised : List D → O Rz := runM 3 [some .land, none, none] .fz g_Land_raised

def g_law_land_1 : EF :=
  (e1 listD (eVar 3))
def g_law_land_2 : SF :=
  (sDropX (xMe .land 4 [none] (aCons (eVar 5) aNil) F_Land_opened))
def g_law_land : SF :=
  (sSeq (sSet 2 (eLc (iSeq (eVar 0)) 3 tTr g_law_land_1))
    (sSeq (sStore 2 (gSub 2 (eC (.int 0))) (pSub 2 (eC (.int 0))) (eC (.int 0)) (eC (.int 7)))
    (sSeq (sSet 4 (eMk (aCons (eVar 2) aNil) F_Land_init))
    (sSeq (sDropX (xMe .land 4 [none] (aCons (eTup (aCons (eC (.int 0)) (aCons (eC (.int 0)) aNil))) aNil) F_Land_opened))
    (sSeq (sDrop (eCall (aCons (eVar 4) aNil) F_law_asked))
    (sSeq (sDropX (xMe .land 4 [none] (aCons (eTup (aCons (eC (.int 0)) (aCons (eC (.int 0)) aNil))) aNil) F_Land_shut))
    (sSeq (sDrop (eCall (aCons (eVar 4) aNil) F_law_asked))
    (sSeq (sDropX (xMe .land 4 [none, none] (aCons (eTup (aCons (eC (.int 0)) (aCons (eC (.int 0)) aNil))) (aCons (e2 ixD (e2 ixD (eVar 0) (eC (.int 0))) (eC (.int 0))) aNil)) F_Land_raised))
    (sSeq (sDrop (eCall (aCons (eVar 4) aNil) F_law_asked))
    (sSeq (sFor (iSeq (eVar 1)) (gN 5) g_law_land_2)
    (sRetV 4)))))))))))
def F_law_land : List D → O D := runF 6 2 .land g_law_land

def g_law_beside_1 : TF :=
  (tE (e2 (isND true) (e2 ixD (e2 ixD (eVar 0) (e2 ixD (eVar 3) (eC (.int 0)))) (e2 ixD (eVar 3) (eC (.int 1)))) (eC .non)))
def g_law_beside_2 : EF :=
  (eImm (eVar 3))
def g_law_beside : SF :=
  (sSeq (sSet 2 (eLst aNil))
    (sSeq (sIf (tE (e2 gtD (e2 ixD (eVar 1) (eC (.int 0))) (eC (.int 0)))) (sApp 2 (eTup (aCons (e2 subD (e2 ixD (eVar 1) (eC (.int 0))) (eC (.int 1))) (aCons (eImm (e2 ixD (eVar 1) (eC (.int 1)))) aNil)))) sNx)
    (sSeq (sIf (tE (e2 gtD (e2 ixD (eVar 1) (eC (.int 1))) (eC (.int 0)))) (sApp 2 (eTup (aCons (eImm (e2 ixD (eVar 1) (eC (.int 0)))) (aCons (e2 subD (e2 ixD (eVar 1) (eC (.int 1))) (eC (.int 1))) aNil)))) sNx)
    (sSeq (sIf (tE (e2 ltD (e2 addD (e2 ixD (eVar 1) (eC (.int 1))) (eC (.int 1))) (e1 lenD (e2 ixD (eVar 0) (eC (.int 0)))))) (sApp 2 (eTup (aCons (eImm (e2 ixD (eVar 1) (eC (.int 0)))) (aCons (e2 addD (e2 ixD (eVar 1) (eC (.int 1))) (eC (.int 1))) aNil)))) sNx)
    (sSeq (sIf (tE (e2 ltD (e2 addD (e2 ixD (eVar 1) (eC (.int 0))) (eC (.int 1))) (e1 lenD (eVar 0)))) (sApp 2 (eTup (aCons (e2 addD (e2 ixD (eVar 1) (eC (.int 0))) (eC (.int 1))) (aCons (eImm (e2 ixD (eVar 1) (eC (.int 1)))) aNil)))) sNx)
    (sRet (eLc (iSeq (eVar 2)) 3 g_law_beside_1 g_law_beside_2)))))))
def F_law_beside : List D → O D := runF 4 2 (.l .fz) g_law_beside

def g_law_least_beside_1 : SF :=
  (sIf (tAndF (tE (eIn false (eVar 4) (eVar 2))) (tOrF (tE (e2 (isND false) (eVar 3) (eC .non))) (tE (e2 ltD (e2 ixD (eVar 2) (eVar 4)) (eVar 3))))) (sSet 3 (eImm (e2 ixD (eVar 2) (eVar 4)))) sNx)
def g_law_least_beside : SF :=
  (sSeq (sSet 3 (eC .non))
    (sSeq (sFor (iSeq (eCall (aCons (eVar 0) (aCons (eVar 1) aNil)) F_law_beside)) (gN 4) g_law_least_beside_1)
    (sRet (eVar 3))))
def F_law_least_beside : List D → O D := runF 5 3 .fz g_law_least_beside

def g_law_levels_1 : SF :=
  (sDput 2 (eVar 3) (e2 ixD (e2 ixD (eVar 0) (e2 ixD (eVar 3) (eC (.int 0)))) (e2 ixD (eVar 3) (eC (.int 1)))))
def g_law_levels_2 : SF :=
  (sSeq (sSet 7 (eCall (aCons (eVar 0) (aCons (eTup (aCons (eVar 5) (aCons (eVar 6) aNil))) (aCons (eVar 2) aNil))) F_law_least_beside))
    (sIf (tAndF (tE (e2 (isND true) (e2 ixD (e2 ixD (eVar 0) (eVar 5)) (eVar 6)) (eC .non))) (tE (e2 (isND true) (eVar 7) (eC .non)))) (sSeq (sSet 7 (e2 max2D (eVar 7) (e2 ixD (e2 ixD (eVar 0) (eVar 5)) (eVar 6))))
    (sIf (tOrF (tE (eIn true (eTup (aCons (eVar 5) (aCons (eVar 6) aNil))) (eVar 2))) (tE (e2 ltD (eVar 7) (e2 ixD (eVar 2) (eTup (aCons (eVar 5) (aCons (eVar 6) aNil))))))) (sSeq (sDput 2 (eTup (aCons (eVar 5) (aCons (eVar 6) aNil))) (eVar 7))
    (sSet 4 (eC (.bl true)))) sNx)) sNx))
def g_law_levels_3 : SF :=
  (sFor (iRg1 (e1 lenD (e2 ixD (eVar 0) (eC (.int 0))))) (gN 6) g_law_levels_2)
def g_law_levels_4 : TF :=
  (tE (eVar 4))
def g_law_levels_5 : SF :=
  (sSeq (sSet 4 (eC (.bl false)))
    (sFor (iRg1 (e1 lenD (eVar 0))) (gN 5) g_law_levels_3))
def g_law_levels : SF :=
  (sSeq (sSet 2 eDct0)
    (sSeq (sFor (iSeq (eVar 1)) (gN 3) g_law_levels_1)
    (sSeq (sSet 4 (eC (.bl true)))
    (sSeq (sWhile g_law_levels_4 g_law_levels_5 100000)
    (sRetV 2)))))
def F_law_levels : List D → O D := runF 8 2 .d g_law_levels

def g_law_whole : SF :=
  (sRet (eB (tAndF (tE (e1 (isTD "int") (eVar 0))) (tE (eB (tNotF (tE (e1 (isTD "bool") (eVar 0)))))))))
def F_law_whole : List D → O D := runF 1 1 .fz g_law_whole

def g_law_same_depths_1 : SF :=
  (sIf (tOrF (tE (eIn true (eVar 2) (eVar 0))) (tOrF (tNotF (tE (eCall (aCons (e2 ixD (eVar 0) (eVar 2)) aNil) F_law_whole))) (tE (e2 (eqD true) (e2 ixD (eVar 0) (eVar 2)) (e2 ixF (eVar 1) (eVar 2)))))) (sRet (eC (.bl false))) sNx)
def g_law_same_depths : SF :=
  (sSeq (sIf (tOrF (tNotF (tE (e1 (isTD "dict") (eVar 0)))) (tE (e2 (eqD true) (e1 lenD (eVar 0)) (e1 lenF (eVar 1))))) (sRet (eC (.bl false))) sNx)
    (sSeq (sFor (iFd (eVar 1)) (gN 2) g_law_same_depths_1)
    (sRet (eC (.bl true)))))
def F_law_same_depths : List D → O D := runF 3 2 .fz g_law_same_depths

def g_law_pool_1 : SF :=
  (sIf (tAndF (tE (e2 (inL true) (eVar 5) (eVar 3))) (tE (e2 gtD (eGetF (eVar 1) (eVar 5) (eC (.int 0))) (eC (.int 0))))) (sApp 3 (eVar 5)) sNx)
def g_law_pool_2 : SF :=
  (sIf (tE (e2 ltD (eVar 4) (e1 lenD (eVar 3)))) (sFor (iSeq (eCall (aCons (eVar 0) (aCons (e2 ixD (eVar 3) (eVar 4)) aNil)) F_law_beside)) (gN 5) g_law_pool_1) sNx)
def g_law_pool : SF :=
  (sSeq (sSet 3 (eLst (aCons (eImm (eVar 2)) aNil)))
    (sSeq (sFor (iSeq (e1 lrgD (e2 mulD (e1 lenD (eVar 0)) (e1 lenD (e2 ixD (eVar 0) (eC (.int 0))))))) (gN 4) g_law_pool_2)
    (sRet (e1 sortD (eVar 3)))))
def F_law_pool : List D → O D := runF 6 3 (.l .fz) g_law_pool

def g_law_pools_1 : SF :=
  (sDput 3 (eVar 5) (eC (.bl true)))
def g_law_pools_2 : SF :=
  (sIf (tAndF (tE (e2 gtD (e2 ixF (eVar 1) (eVar 4)) (eC (.int 0)))) (tE (eIn true (eVar 4) (eVar 3)))) (sSeq (sApp 2 (eCall (aCons (eVar 0) (aCons (eVar 1) (aCons (eVar 4) aNil))) F_law_pool))
    (sFor (iLs (e2 ixD (eVar 2) (e1 negD (eC (.int 1))))) (gN 5) g_law_pools_1)) sNx)
def g_law_pools : SF :=
  (sSeq (sSet 2 (eLst aNil))
    (sSeq (sSet 3 eDct0)
    (sSeq (sFor (iSeq (e1 sortD (e1 listF (eVar 1)))) (gN 4) g_law_pools_2)
    (sRetV 2))))
def F_law_pools : List D → O D := runF 6 2 (.l .fz) g_law_pools

def g_law_same_cells_1 : SF :=
  (sSeq (sIf (tOrF (tNotF (tE (e1 (isTD "tuple") (eVar 2)))) (tOrF (tE (e2 (eqD true) (e1 lenD (eVar 2)) (eC (.int 2)))) (tOrF (tNotF (tE (eCall (aCons (e2 ixD (eVar 2) (eC (.int 0))) aNil) F_law_whole))) (tNotF (tE (eCall (aCons (e2 ixD (eVar 2) (eC (.int 1))) aNil) F_law_whole)))))) (sRet (eC (.bl false))) sNx)
    (sIf (tOrF (tE (e2 (eqD true) (e2 ixD (eVar 2) (eC (.int 0))) (e2 ixD (eVar 3) (eC (.int 0))))) (tE (e2 (eqD true) (e2 ixD (eVar 2) (eC (.int 1))) (e2 ixD (eVar 3) (eC (.int 1)))))) (sRet (eC (.bl false))) sNx))
def g_law_same_cells : SF :=
  (sSeq (sIf (tOrF (tNotF (tE (e1 (isTD "list") (eVar 0)))) (tE (e2 (eqD true) (e1 lenD (eVar 0)) (e1 lenD (eVar 1))))) (sRet (eC (.bl false))) sNx)
    (sSeq (sFor (iZp (eVar 0) (eVar 1)) (gP 2 3) g_law_same_cells_1)
    (sRet (eC (.bl true)))))
def F_law_same_cells : List D → O D := runF 4 2 .fz g_law_same_cells

def g_Land_heights_1 : EF :=
  (e1 listD (eVar 1))
def g_Land_heights : SF :=
  (sRet (eLc (iSeq (e1 gridD (eVar 0))) 1 tTr g_Land_heights_1))
def F_Land_heights : List D → O D := runF 2 1 (.l (.l .fz)) g_Land_heights

def g_law_1 : SF :=
  (sDput 5 (eVar 6) (e2 subD (e2 ixF (eVar 4) (eVar 6)) (e2 ixD (e2 ixD (eVar 1) (e2 ixD (eVar 6) (eC (.int 0)))) (e2 ixD (eVar 6) (eC (.int 1))))))
def g_law_2 : SF :=
  (sSeq (sSet 8 (eCall (aCons (eVar 3) aNil) F_depths))
    (sSeq (sIf (tNotF (tE (eCall (aCons (eVar 8) (aCons (eVar 5) aNil)) F_law_same_depths))) (sRet (eC (.bl false))) sNx)
    (sClearD 8)))
def g_law_3 : EF :=
  (e2 ixF (eVar 5) (eVar 6))
def g_law_4 : TF :=
  (tNotF (tE (eCall (aCons (eVar 11) (aCons (eVar 12) aNil)) F_law_same_cells)))
def g_law : SF :=
  (sSeq (sSet 1 (eCall (aCons (eVar 0) aNil) F_law_grid))
    (sSeq (sSet 2 (eCall (aCons (eVar 0) (aCons (eVar 1) aNil)) F_law_drains))
    (sSeq (sSet 3 (eCall (aCons (eVar 1) (aCons (eVar 2) aNil)) F_law_land))
    (sSeq (sSet 4 (eCall (aCons (eVar 1) (aCons (eVar 2) aNil)) F_law_levels))
    (sSeq (sSet 5 eDct0)
    (sLock 4 (sSeq (sFor (iFd (eVar 4)) (gN 6) g_law_1)
    (sLock 5 (sSeq (sFor (iRg1 (eC (.int 2))) (gN 7) g_law_2)
    (sSeq (sSet 9 (eCall (aCons (eVar 3) aNil) F_volume))
    (sSeq (sIf (tOrF (tNotF (tE (eCall (aCons (eVar 9) aNil) F_law_whole))) (tE (e2 (eqD true) (eVar 9) (e1 sumD (eLc (iFd (eVar 5)) 6 tTr g_law_3))))) (sRet (eC (.bl false))) sNx)
    (sSeq (sSet 8 (eCall (aCons (eVar 3) aNil) F_pools))
    (sSeq (sSet 10 (eCall (aCons (eVar 1) (aCons (eVar 5) aNil)) F_law_pools))
    (sSeq (sIf (tOrF (tNotF (tE (e1 (isTD "list") (eVar 8)))) (tE (e2 (eqD true) (e1 lenD (eVar 8)) (e1 lenD (eVar 10))))) (sRet (eC (.bl false))) sNx)
    (sSeq (sZipClr 8 11 12 (eVar 10) g_law_4 (eC (.bl false)))
    (sSeq (sIf (tE (e2 (eqD true) (eCall (aCons (eVar 3) aNil) F_pools) (eVar 10))) (sRet (eC (.bl false))) sNx)
    (sRet (eB (tAndF (tE (e2 (eqD false) (eMe .land (eVar 3) aNil F_Land_heights) (eVar 1))) (tE (e2 (eqD false) (eMe .land (eVar 3) aNil F_Land_drains) (eVar 2))))))))))))))))))))))
def F_law : List D → O D := runF 13 1 .fz g_law

end VS
set_option Elab.async false
set_option linter.all false
set_option maxRecDepth 100000
set_option maxHeartbeats 2000000
namespace Pg
open PySem L2 VS
variable [Exs]
def top (i : Nat) : Stmt := PySem.Challenge.pw_basin_k10_pools_and_depths.main.body.getD i (.Pass ⟨0, 0, 0, 0⟩)
abbrev s_law_size : Stmt := top 28
theorem sc_law_size : FnScope ["_law_cell"] ["_law_cell"] (defScope s_law_size) := ⟨rfl, rfl, rfl, by decide +kernel, rfl, by decide +kernel, by decide +kernel⟩
theorem d_law_size {P : Program} {w : World} {K : PySem.W.Frag} {mg : Str → Option Value} {base : Heap} {c : Ct} (hK : K = c.K) (bn : Bn mg) (fx : Fact K mg "_law_size" s_law_size ["_law_cell"]) (lk : LandK K c.CL) (pk : PileK K c.CP) :
    Dc P w K mg base 1 "_law_size" (spP c .fz F_law_size) := by
  obtain ⟨f, fd, F, hm, hb⟩ := fx.ex
  have nd := sc_law_size.nd
  refine ⟨f, fd, _, fn_pure (M := mo [.v 1]) (M' := mo [.v 1]) F sc_law_size hK (fun i hi => by (rcases i with _ | _) <;> first | rfl | exact absurd hi (by simp)) (fun cdv A outer s H E z => ?_), hb, hm, F.kp⟩
  exact (vss_cons (vs_if (vt_eq z (ve_mod (ve_div (ve_var 0) ve_int) ve_int) ve_int) (vss_one (vs_ret (VE.toO (ve_ix z (VO.toE _ (vo_lst (va_cons (ve_tup (va_cons ve_int (va_cons ve_int va_nil))) (va_cons (ve_tup (va_cons ve_int (va_cons ve_int va_nil))) (va_cons (ve_tup (va_cons ve_int (va_cons ve_int va_nil))) (va_cons (ve_tup (va_cons ve_int (va_cons ve_int va_nil))) (va_cons (ve_tup (va_cons ve_int (va_cons ve_int va_nil))) (va_cons (ve_tup (va_cons ve_int (va_cons ve_int va_nil))) (va_cons (ve_tup (va_cons ve_int (va_cons ve_int va_nil))) (va_cons (ve_tup (va_cons ve_int (va_cons ve_int va_nil))) va_nil)))))))))) (ve_mod (ve_div (ve_var 0) ve_int) ve_int))))) vss_nil)
      (vss_one (vs_ret (VE.toO (ve_tup (va_cons (ve_add ve_int (ve_mod (ve_var 0) ve_int)) (va_cons (ve_add ve_int (ve_mod (ve_div (ve_var 0) ve_int) ve_int)) va_nil)))))))

abbrev s_law_cell_at : Stmt := top 25
theorem sc_law_cell_at : FnScope ["_law_script", "_law_k"] ["_law_script", "_law_k"] (defScope s_law_cell_at) := ⟨rfl, rfl, rfl, by decide +kernel, rfl, by decide +kernel, by decide +kernel⟩
theorem d_law_cell_at {P : Program} {w : World} {K : PySem.W.Frag} {mg : Str → Option Value} {base : Heap} {c : Ct} (hK : K = c.K) (bn : Bn mg) (fx : Fact K mg "_law_cell_at" s_law_cell_at ["_law_script", "_law_k"]) (lk : LandK K c.CL) (pk : PileK K c.CP) :
    Dc P w K mg base 1 "_law_cell_at" (spP c .fz F_law_cell_at) := by
  obtain ⟨f, fd, F, hm, hb⟩ := fx.ex
  have nd := sc_law_cell_at.nd
  refine ⟨f, fd, _, fn_pure (M := mo [.v 1, .v 1]) (M' := mo [.v 1, .v 1]) F sc_law_cell_at hK (fun i hi => by (rcases i with _ | (_ | _)) <;> first | rfl | exact absurd hi (by simp)) (fun cdv A outer s H E z => ?_), hb, hm, F.kp⟩
  exact (vss_cons (vs_if (vt_lt (ve_var 1) (ve_len z (ve_var 0) (by rfl) bn.len)) (vss_one (vs_ret (VE.toO (ve_imm (ve_ix z (ve_var 0) (ve_var 1)))))) vss_nil)
      (vss_one (vs_ret (VE.toO ve_int))))

abbrev s_law_number : Stmt := top 30
theorem sc_law_number : FnScope ["_law_script", "_law_k"] ["_law_script", "_law_k"] (defScope s_law_number) := ⟨rfl, rfl, rfl, by decide +kernel, rfl, by decide +kernel, by decide +kernel⟩
theorem d_law_number {P : Program} {w : World} {K : PySem.W.Frag} {mg : Str → Option Value} {base : Heap} {c : Ct} (hK : K = c.K) (bn : Bn mg) (fx : Fact K mg "_law_number" s_law_number ["_law_script", "_law_k"]) (lk : LandK K c.CL) (pk : PileK K c.CP) (d_law_cell_at : Dc P w K mg base 1 "_law_cell_at" (spP c .fz F_law_cell_at)) :
    Dc P w K mg base 2 "_law_number" (spP c .fz F_law_number) := by
  obtain ⟨f, fd, F, hm, hb⟩ := fx.ex
  have nd := sc_law_number.nd
  refine ⟨f, fd, _, fn_pure (M := mo [.v 1, .v 1]) (M' := mo [.v 1, .v 1]) F sc_law_number hK (fun i hi => by (rcases i with _ | (_ | _)) <;> first | rfl | exact absurd hi (by simp)) (fun cdv A outer s H E z => ?_), hb, hm, F.kp⟩
  exact (vss_cons (vs_if (vt_lt (ve_add (ve_var 1) ve_int) (ve_len z (ve_var 0) (by rfl) bn.len)) (vss_one (vs_ret (VE.toO (ve_imm (ve_ix z (ve_var 0) (ve_add (ve_var 1) ve_int)))))) vss_nil)
      (vss_one (vs_ret (VE.toO (ve_add (ve_add (ve_mul ve_int (VO.toE .fz (vo_callD z d_law_cell_at (by decide) (va_arg (ve_var 0) (va_arg ve_int va_nil))))) (ve_mul (ve_mul (VO.toE .fz (vo_callD z d_law_cell_at (by decide) (va_arg (ve_var 0) (va_arg ve_int va_nil)))) (ve_var 1)) (ve_var 1))) (ve_mul ve_int (ve_var 1)))))))

abbrev s_law_height_by : Stmt := top 29
theorem sc_law_height_by : FnScope ["_law_number_here", "_law_kind"] ["_law_number_here", "_law_kind"] (defScope s_law_height_by) := ⟨rfl, rfl, rfl, by decide +kernel, rfl, by decide +kernel, by decide +kernel⟩
theorem d_law_height_by {P : Program} {w : World} {K : PySem.W.Frag} {mg : Str → Option Value} {base : Heap} {c : Ct} (hK : K = c.K) (bn : Bn mg) (fx : Fact K mg "_law_height_by" s_law_height_by ["_law_number_here", "_law_kind"]) (lk : LandK K c.CL) (pk : PileK K c.CP) :
    Dc P w K mg base 1 "_law_height_by" (spP c .fz F_law_height_by) := by
  obtain ⟨f, fd, F, hm, hb⟩ := fx.ex
  have nd := sc_law_height_by.nd
  refine ⟨f, fd, _, fn_pure (M := mo [.v 1, .v 1]) (M' := mo [.v 1, .v 1]) F sc_law_height_by hK (fun i hi => by (rcases i with _ | (_ | _)) <;> first | rfl | exact absurd hi (by simp)) (fun cdv A outer s H E z => ?_), hb, hm, F.kp⟩
  exact (vss_cons (vs_if (vt_eq z (ve_mod (ve_var 0) ve_int) ve_int) (vss_one (vs_ret (VE.toO ve_non))) vss_nil)
      (vss_cons (vs_if (vt_eq z (ve_var 1) ve_int) (vss_one (vs_ret (VE.toO (ve_mod (ve_div (ve_var 0) ve_int) ve_int)))) vss_nil)
      (vss_cons (vs_if (vt_eq z (ve_var 1) ve_int) (vss_one (vs_ret (VE.toO (ve_mod (ve_div (ve_var 0) ve_int) ve_int)))) vss_nil)
      (vss_cons (vs_if (vt_eq z (ve_var 1) ve_int) (vss_one (vs_ret (VE.toO (ve_mod (ve_div (ve_var 0) ve_int) ve_int)))) vss_nil)
      (vss_one (vs_ret (VE.toO (ve_sub ve_int (ve_mod (ve_div (ve_var 0) ve_int) ve_int)))))))))

abbrev s_law_grid : Stmt := top 31
theorem sc_law_grid : FnScope ["_law_script", "_law_size_here", "_law_kind", "_law_rows", "_law_row", "_law_numbers", "_law_column", "_law_number_here"] ["_law_script"] (defScope s_law_grid) := ⟨rfl, rfl, rfl, by decide +kernel, rfl, by decide +kernel, by decide +kernel⟩
theorem d_law_grid {P : Program} {w : World} {K : PySem.W.Frag} {mg : Str → Option Value} {base : Heap} {c : Ct} (hK : K = c.K) (bn : Bn mg) (fx : Fact K mg "_law_grid" s_law_grid ["_law_script"]) (lk : LandK K c.CL) (pk : PileK K c.CP) (d_law_size : Dc P w K mg base 1 "_law_size" (spP c .fz F_law_size)) (d_law_cell_at : Dc P w K mg base 1 "_law_cell_at" (spP c .fz F_law_cell_at)) (d_law_number : Dc P w K mg base 2 "_law_number" (spP c .fz F_law_number)) (d_law_height_by : Dc P w K mg base 1 "_law_height_by" (spP c .fz F_law_height_by)) :
    Dc P w K mg base 3 "_law_grid" (spP c (.l (.l .fz)) F_law_grid) := by
  obtain ⟨f, fd, F, hm, hb⟩ := fx.ex
  have nd := sc_law_grid.nd
  refine ⟨f, fd, _, fn_pure (M := mo [.v 1, .v 0, .v 0, .o (.l (.l .fz)), .v 0, .v 0, .v 0, .v 0]) (M' := mo [.v 1, .v 0, .v 0, .o (.l (.l .fz)), .v 0, .v 0, .v 0, .v 0]) F sc_law_grid hK (fun i hi => by (rcases i with _ | _) <;> first | rfl | exact absurd hi (by simp)) (fun cdv A outer s H E z => ?_), hb, hm, F.kp⟩
  exact (vss_cons (vs_set 1 0 (VO.toE .fz (vo_callD z d_law_size (by decide) (va_arg (VO.toE .fz (vo_callD z d_law_cell_at (by decide) (va_arg (ve_var 0) (va_arg ve_int va_nil)))) va_nil))) rfl (by decide) nd)
      (vss_cons (vs_set 2 0 (ve_mod (VO.toE .fz (vo_callD z d_law_cell_at (by decide) (va_arg (ve_var 0) (va_arg ve_int va_nil)))) ve_int) rfl (by decide) nd)
      (vss_cons (vs_setO 3 vo_lst0 rfl nd)
      (vss_cons (vs_for z (vi_range1 (ve_ix z (ve_var 1) ve_int) (by rfl) bn.range) (by decide) (vg_name (al := 0) 4 rfl (by decide) (by decide) nd) (vss_cons (vs_setLcV 5 rfl 6 z nd (vi_range1 (ve_ix z (ve_var 1) ve_int) (by rfl) bn.range) (blkOk_by (own := [("_law_column", 6)]) (N := ["_law_script", "_law_size_here", "_law_kind", "_law_rows", "_law_row", "_law_numbers", "_law_column", "_law_number_here"]) (sc := defScope s_law_grid) (by decide +kernel)) (fun _ _ _ _ _ => pg_name (i := 6) nd rfl (by first | exact Or.inl rfl | exact Or.inr rfl)) (fun _ _ _ _ _ => vts_nil) (fun _ _ _ _ _ => (VE.toO (VO.toE .fz (vo_callD z.blk d_law_number (by decide) (va_arg (ve_var 0) (va_arg (ve_add (ve_mul (ve_var 4) (ve_ix z.blk (ve_var 1) ve_int)) (ve_var 6)) va_nil)))))))
      (vss_one (vs_appO 3 (vo_lc 7 z nd (vi_seq z (ve_var 5)) (blkOk_by (own := [("_law_number_here", 7)]) (N := ["_law_script", "_law_size_here", "_law_kind", "_law_rows", "_law_row", "_law_numbers", "_law_column", "_law_number_here"]) (sc := defScope s_law_grid) (by decide +kernel)) (fun _ _ _ _ _ => pg_name (i := 7) nd rfl (by first | exact Or.inl rfl | exact Or.inr rfl)) (fun _ _ _ _ _ => vts_nil) (fun _ _ _ _ _ => (VE.toO (VO.toE .fz (vo_callD z.blk d_law_height_by (by decide) (va_arg (ve_var 7) (va_arg (ve_var 2) va_nil))))))) rfl))))
      (vss_one (vs_retV 3 rfl))))))

abbrev s_law_drains : Stmt := top 32
theorem sc_law_drains : FnScope ["_law_script", "_law_rows", "_law_cell", "_law_every", "_law_found", "_law_row", "_law_column", "_law_at"] ["_law_script", "_law_rows"] (defScope s_law_drains) := ⟨rfl, rfl, rfl, by decide +kernel, rfl, by decide +kernel, by decide +kernel⟩
theorem d_law_drains {P : Program} {w : World} {K : PySem.W.Frag} {mg : Str → Option Value} {base : Heap} {c : Ct} (hK : K = c.K) (bn : Bn mg) (fx : Fact K mg "_law_drains" s_law_drains ["_law_script", "_law_rows"]) (lk : LandK K c.CL) (pk : PileK K c.CP) (d_law_cell_at : Dc P w K mg base 1 "_law_cell_at" (spP c .fz F_law_cell_at)) :
    Dc P w K mg base 2 "_law_drains" (spP c (.l .fz) F_law_drains) := by
  obtain ⟨f, fd, F, hm, hb⟩ := fx.ex
  have nd := sc_law_drains.nd
  refine ⟨f, fd, _, fn_pure (M := mo [.v 1, .v 1, .v 0, .v 0, .o (.l .fz), .v 0, .v 0, .v 0]) (M' := mo [.v 1, .v 1, .v 0, .v 0, .o (.l .fz), .v 0, .v 0, .v 0]) F sc_law_drains hK (fun i hi => by (rcases i with _ | (_ | _)) <;> first | rfl | exact absurd hi (by simp)) (fun cdv A outer s H E z => ?_), hb, hm, F.kp⟩
  exact (vss_cons (vs_set 2 0 (VO.toE .fz (vo_callD z d_law_cell_at (by decide) (va_arg (ve_var 0) (va_arg ve_int va_nil)))) rfl (by decide) nd)
      (vss_cons (vs_set 3 0 (ve_ix z (VO.toE _ (vo_lst (va_cons ve_int (va_cons ve_int (va_cons ve_int (va_cons ve_int (va_cons ve_int va_nil))))))) (ve_mod (ve_div (ve_var 2) ve_int) ve_int)) rfl (by decide) nd)
      (vss_cons (vs_setO 4 vo_lst0 rfl nd)
      (vss_cons (vs_for z (vi_range1 (ve_len z (ve_var 1) (by rfl) bn.len) (by rfl) bn.range) (by decide) (vg_name (al := 0) 5 rfl (by decide) (by decide) nd) (vss_one (vs_for z (vi_range1 (ve_len z (ve_ix z (ve_var 1) ve_int) (by rfl) bn.len) (by rfl) bn.range) (by decide) (vg_name (al := 0) 6 rfl (by decide) (by decide) nd) (vss_cons (vs_set 7 0 (ve_add (ve_mul (ve_var 5) (ve_len z (ve_ix z (ve_var 1) ve_int) (by rfl) bn.len)) (ve_var 6)) rfl (by decide) nd)
      (vss_one (vs_if (VW.vt (vw_and (vt_isnt (ve_ix z (ve_ix z (ve_var 1) (ve_var 5)) (ve_var 6)) ve_non) (vw_and1 (vt_eq z (ve_mod (ve_add (ve_var 2) (ve_mul (ve_var 7) (ve_add ve_int (ve_mod (ve_div (ve_var 2) ve_int) ve_int)))) (ve_var 3)) ve_int)))) (vss_one (vs_app 4 (ve_tup (va_cons (ve_var 5) (va_cons (ve_var 6) va_nil))) rfl)) vss_nil))))))
      (vss_one (vs_retV 4 rfl))))))

abbrev s_is_whole : Stmt := top 2
theorem sc_is_whole : FnScope ["thing"] ["thing"] (defScope s_is_whole) := ⟨rfl, rfl, rfl, by decide +kernel, rfl, by decide +kernel, by decide +kernel⟩
theorem d_is_whole {P : Program} {w : World} {K : PySem.W.Frag} {mg : Str → Option Value} {base : Heap} {c : Ct} (hK : K = c.K) (bn : Bn mg) (fx : Fact K mg "is_whole" s_is_whole ["thing"]) (lk : LandK K c.CL) (pk : PileK K c.CP) :
    Dc P w K mg base 1 "is_whole" (spP c .fz F_is_whole) := by
  obtain ⟨f, fd, F, hm, hb⟩ := fx.ex
  have nd := sc_is_whole.nd
  refine ⟨f, fd, _, fn_pure (M := mo [.v 1]) (M' := mo [.v 1]) F sc_is_whole hK (fun i hi => by (rcases i with _ | _) <;> first | rfl | exact absurd hi (by simp)) (fun cdv A outer s H E z => ?_), hb, hm, F.kp⟩
  exact (vss_one (vs_ret (VE.toO (ve_and (ve_isT (T := "int") z (ve_var 0) (by rfl) bn.isinstance (by rfl) bn.int (by decide +kernel) (by decide) (by decide) (by decide +kernel)) (ve_one (ve_not (ve_isT (T := "bool") z (ve_var 0) (by rfl) bn.isinstance (by rfl) bn.bool (by decide +kernel) (by decide) (by decide) (by decide +kernel))))))))

abbrev s_is_height : Stmt := top 14
theorem sc_is_height : FnScope ["thing"] ["thing"] (defScope s_is_height) := ⟨rfl, rfl, rfl, by decide +kernel, rfl, by decide +kernel, by decide +kernel⟩
theorem d_is_height {P : Program} {w : World} {K : PySem.W.Frag} {mg : Str → Option Value} {base : Heap} {c : Ct} (hK : K = c.K) (bn : Bn mg) (fx : Fact K mg "is_height" s_is_height ["thing"]) (lk : LandK K c.CL) (pk : PileK K c.CP) (d_is_whole : Dc P w K mg base 1 "is_whole" (spP c .fz F_is_whole)) {t_MOST_HEIGHT : Tok} (c_MOST_HEIGHT : mg "MOST_HEIGHT" = some (.int 1000000000 t_MOST_HEIGHT)) :
    Dc P w K mg base 2 "is_height" (spP c .fz F_is_height) := by
  obtain ⟨f, fd, F, hm, hb⟩ := fx.ex
  have nd := sc_is_height.nd
  refine ⟨f, fd, _, fn_pure (M := mo [.v 1]) (M' := mo [.v 1]) F sc_is_height hK (fun i hi => by (rcases i with _ | _) <;> first | rfl | exact absurd hi (by simp)) (fun cdv A outer s H E z => ?_), hb, hm, F.kp⟩
  exact (vss_cons (vs_if (vt_is (ve_var 0) ve_non) (vss_one (vs_ret (VE.toO ve_bl))) vss_nil)
      (vss_one (vs_ret (VE.toO (ve_and (VO.toE .fz (vo_callD z d_is_whole (by decide) (va_arg (ve_var 0) va_nil))) (ve_one (ve_leLe ve_int (ve_var 0) (ve_glob (by rfl) c_MOST_HEIGHT))))))))

abbrev s_Land_init : Stmt := inClass (top 15) 0
theorem sc_Land_init : FnScope ["self", "heights", "row", "height"] ["self", "heights"] (defScope s_Land_init) := ⟨rfl, rfl, rfl, by decide +kernel, rfl, by decide +kernel, by decide +kernel⟩
theorem d_Land_init {P : Program} {w : World} {K : PySem.W.Frag} {mg : Str → Option Value} {base : Heap} {c : Ct} (hK : K = c.K) (bn : Bn mg) (fx : FactI K mg "Land" c.CL "Land.__init__" s_Land_init ["self", "heights"]) (lk : LandK K c.CL) (pk : PileK K c.CP) (d_is_height : Dc P w K mg base 2 "is_height" (spP c .fz F_is_height)) {t_MOST_SIDE : Tok} (c_MOST_SIDE : mg "MOST_SIDE" = some (.int 30 t_MOST_SIDE)) (x_NoLand : ExK K mg "NoLand" Exs.NoLand) (x_NoHeight : ExK K mg "NoHeight" Exs.NoHeight) :
    Di P w K mg base 3 "Land" c.CL (spM c [some .land, none] .fz F_Land_init) := by
  obtain ⟨f, fd, F, mk, hm, hb⟩ := fx.ex
  have nd := sc_Land_init.nd
  refine ⟨f, fd, _, fn_mut (ms := [some .land, none]) (M := mo [.p .land, .v 1, .v 1, .v 1]) (M' := mo [.p .land, .v 1, .v 1, .v 1]) F sc_Land_init hK rfl (fun i hi => by (rcases i with _ | (_ | _)) <;> first | rfl | exact absurd hi (by simp)) (fun cdv A outer s H E z => ?_), hb, mk, hm⟩
  exact (vss_cons (vs_if (VW.vt (vw_or (vt_not (vt_val (ve_isT (T := "list") z (ve_var 1) (by rfl) bn.isinstance (by rfl) bn.list (by decide +kernel) (by decide) (by decide) (by decide +kernel)))) (vw_or1 (vt_not (vt_leLe ve_int (ve_len z (ve_var 1) (by rfl) bn.len) (ve_glob (by rfl) c_MOST_SIDE)))))) (vss_one (vs_raiseK z x_NoLand (by rfl))) vss_nil)
      (vss_cons (vs_for z (vi_seq z (ve_var 1)) (by decide) (vg_name (al := 1) 2 rfl (by decide) (by decide) nd) (vss_one (vs_if (VW.vt (vw_or (vt_not (vt_val (ve_isT (T := "list") z (ve_var 2) (by rfl) bn.isinstance (by rfl) bn.list (by decide +kernel) (by decide) (by decide) (by decide +kernel)))) (vw_or (vt_not (vt_leLe ve_int (ve_len z (ve_var 2) (by rfl) bn.len) (ve_glob (by rfl) c_MOST_SIDE))) (vw_or1 (vt_ne z (ve_len z (ve_var 2) (by rfl) bn.len) (ve_len z (ve_ix z (ve_var 1) ve_int) (by rfl) bn.len)))))) (vss_one (vs_raiseK z x_NoLand (by rfl))) vss_nil)))
      (vss_cons (vs_for z (vi_seq z (ve_var 1)) (by decide) (vg_name (al := 1) 2 rfl (by decide) (by decide) nd) (vss_one (vs_for z (vi_seq z (ve_var 2)) (by decide) (vg_name (al := 1) 3 rfl (by decide) (by decide) nd) (vss_one (vs_if (vt_not (vt_val (VO.toE .fz (vo_callD z d_is_height (by decide) (va_arg (ve_var 3) va_nil))))) (vss_one (vs_raiseK z x_NoHeight (by rfl))) vss_nil)))))
      (vss_land 0 lk rfl (vo_lc 2 z nd (vi_seq z (ve_var 1)) (blkOk_by (own := [("row", 2)]) (N := ["self", "heights", "row", "height"]) (sc := defScope s_Land_init) (by decide +kernel)) (fun _ _ _ _ _ => pg_name (i := 2) nd rfl (by first | exact Or.inl rfl | exact Or.inr rfl)) (fun _ _ _ _ _ => vts_nil) (fun _ _ _ _ _ => (vo_list z.blk (ve_var 2) (by rfl) bn.list))) (ve_len z (ve_var 1) (by rfl) bn.len) (ve_len z (ve_ix z (ve_var 1) ve_int) (by rfl) bn.len)))))

abbrev s_lies_in : Stmt := top 3
theorem sc_lies_in : FnScope ["rows", "columns", "cell"] ["rows", "columns", "cell"] (defScope s_lies_in) := ⟨rfl, rfl, rfl, by decide +kernel, rfl, by decide +kernel, by decide +kernel⟩
theorem d_lies_in {P : Program} {w : World} {K : PySem.W.Frag} {mg : Str → Option Value} {base : Heap} {c : Ct} (hK : K = c.K) (bn : Bn mg) (fx : Fact K mg "lies_in" s_lies_in ["rows", "columns", "cell"]) (lk : LandK K c.CL) (pk : PileK K c.CP) (d_is_whole : Dc P w K mg base 1 "is_whole" (spP c .fz F_is_whole)) :
    Dc P w K mg base 2 "lies_in" (spP c .fz F_lies_in) := by
  obtain ⟨f, fd, F, hm, hb⟩ := fx.ex
  have nd := sc_lies_in.nd
  refine ⟨f, fd, _, fn_pure (M := mo [.v 1, .v 1, .v 1]) (M' := mo [.v 1, .v 1, .v 1]) F sc_lies_in hK (fun i hi => by (rcases i with _ | (_ | (_ | _))) <;> first | rfl | exact absurd hi (by simp)) (fun cdv A outer s H E z => ?_), hb, hm, F.kp⟩
  exact (vss_cons (vs_if (VW.vt (vw_or (vt_not (vt_val (ve_isT (T := "tuple") z (ve_var 2) (by rfl) bn.isinstance (by rfl) bn.tuple (by decide +kernel) (by decide) (by decide) (by decide +kernel)))) (vw_or1 (vt_ne z (ve_len z (ve_var 2) (by rfl) bn.len) ve_int)))) (vss_one (vs_ret (VE.toO ve_bl))) vss_nil)
      (vss_cons (vs_if (VW.vt (vw_or (vt_not (vt_val (VO.toE .fz (vo_callD z d_is_whole (by decide) (va_arg (ve_ix z (ve_var 2) ve_int) va_nil))))) (vw_or1 (vt_not (vt_val (VO.toE .fz (vo_callD z d_is_whole (by decide) (va_arg (ve_ix z (ve_var 2) ve_int) va_nil)))))))) (vss_one (vs_ret (VE.toO ve_bl))) vss_nil)
      (vss_one (vs_ret (VE.toO (ve_and (ve_leLt ve_int (ve_ix z (ve_var 2) ve_int) (ve_var 0)) (ve_one (ve_leLt ve_int (ve_ix z (ve_var 2) ve_int) (ve_var 1)))))))))

abbrev s_Land_need : Stmt := inClass (top 15) 1
theorem sc_Land_need : FnScope ["self", "cell"] ["self", "cell"] (defScope s_Land_need) := ⟨rfl, rfl, rfl, by decide +kernel, rfl, by decide +kernel, by decide +kernel⟩
theorem d_Land_need {P : Program} {w : World} {K : PySem.W.Frag} {mg : Str → Option Value} {base : Heap} {c : Ct} (hK : K = c.K) (bn : Bn mg) (fx : FactM K c.CL "need" "Land.need" s_Land_need ["self", "cell"]) (lk : LandK K c.CL) (pk : PileK K c.CP) (d_lies_in : Dc P w K mg base 2 "lies_in" (spP c .fz F_lies_in)) (x_NoCell : ExK K mg "NoCell" Exs.NoCell) :
    Dm P w K mg base 3 c.CL "need" (spP c .fz F_Land_need) := by
  obtain ⟨f, fd, F, mt, hb⟩ := fx.ex
  have nd := sc_Land_need.nd
  refine ⟨f, fd, _, fn_pure (M := mo [.v 1, .v 1]) (M' := mo [.v 1, .v 1]) F sc_Land_need hK (fun i hi => by (rcases i with _ | (_ | _)) <;> first | rfl | exact absurd hi (by simp)) (fun cdv A outer s H E z => ?_), hb, mt⟩
  exact (vss_one (vs_if (vt_not (vt_val (VO.toE .fz (vo_callD z d_lies_in (by decide) (va_arg (ve_rows lk (ve_var 0)) (va_arg (ve_cols lk (ve_var 0)) (va_arg (ve_var 1) va_nil))))))) (vss_one (vs_raise z x_NoCell (by rfl))) vss_nil))

abbrev s_Land_opened : Stmt := inClass (top 15) 4
theorem sc_Land_opened : FnScope ["self", "cell"] ["self", "cell"] (defScope s_Land_opened) := ⟨rfl, rfl, rfl, by decide +kernel, rfl, by decide +kernel, by decide +kernel⟩
theorem d_Land_opened {P : Program} {w : World} {K : PySem.W.Frag} {mg : Str → Option Value} {base : Heap} {c : Ct} (hK : K = c.K) (bn : Bn mg) (fx : FactM K c.CL "opened" "Land.opened" s_Land_opened ["self", "cell"]) (lk : LandK K c.CL) (pk : PileK K c.CP) (d_Land_need : Dm P w K mg base 3 c.CL "need" (spP c .fz F_Land_need)) (x_NoDrain : ExK K mg "NoDrain" Exs.NoDrain) :
    Dm P w K mg base 4 c.CL "opened" (spM c [some .land, none] .fz F_Land_opened) := by
  obtain ⟨f, fd, F, mt, hb⟩ := fx.ex
  have nd := sc_Land_opened.nd
  refine ⟨f, fd, _, fn_mut (ms := [some .land, none]) (M := mo [.p .land, .v 1]) (M' := mo [.p .land, .v 1]) F sc_Land_opened hK rfl (fun i hi => by (rcases i with _ | (_ | _)) <;> first | rfl | exact absurd hi (by simp)) (fun cdv A outer s H E z => ?_), hb, mt⟩
  exact (vss_cons (vs_exprK (VO.toE .fz (vo_me (kd := .land) z lk.cl d_Land_need (by decide) (by decide) (ve_var 0) (va_arg (ve_var 1) va_nil))))
      (vss_cons (vs_if (vt_is (ve_ix z (ve_ix z (ve_grid lk (ve_var 0)) (ve_ix z (ve_var 1) ve_int)) (ve_ix z (ve_var 1) ve_int)) ve_non) (vss_one (vs_raiseK z x_NoDrain (by rfl))) vss_nil)
      (vss_one (vs_open 0 z lk (Or.inr rfl) (ve_var 1) ve_bl))))

abbrev s_Pile_init : Stmt := inClass (top 17) 0
theorem sc_Pile_init : FnScope ["self"] ["self"] (defScope s_Pile_init) := ⟨rfl, rfl, rfl, by decide +kernel, rfl, by decide +kernel, by decide +kernel⟩
theorem d_Pile_init {P : Program} {w : World} {K : PySem.W.Frag} {mg : Str → Option Value} {base : Heap} {c : Ct} (hK : K = c.K) (bn : Bn mg) (fx : FactI K mg "Pile" c.CP "Pile.__init__" s_Pile_init ["self"]) (lk : LandK K c.CL) (pk : PileK K c.CP) :
    Di P w K mg base 1 "Pile" c.CP (spM c [some .pile] .fz F_Pile_init) := by
  obtain ⟨f, fd, F, mk, hm, hb⟩ := fx.ex
  have nd := sc_Pile_init.nd
  refine ⟨f, fd, _, fn_mut (ms := [some .pile]) (M := mo [.p .pile]) (M' := mo [.p .pile]) F sc_Pile_init hK rfl (fun i hi => by (rcases i with _ | _) <;> first | rfl | exact absurd hi (by simp)) (fun cdv A outer s H E z => ?_), hb, mk, hm⟩
  exact (vss_one (vs_pile0 0 pk rfl))

abbrev s_all_cells : Stmt := top 5
theorem sc_all_cells : FnScope ["rows", "columns", "found", "row", "column"] ["rows", "columns"] (defScope s_all_cells) := ⟨rfl, rfl, rfl, by decide +kernel, rfl, by decide +kernel, by decide +kernel⟩
theorem d_all_cells {P : Program} {w : World} {K : PySem.W.Frag} {mg : Str → Option Value} {base : Heap} {c : Ct} (hK : K = c.K) (bn : Bn mg) (fx : Fact K mg "all_cells" s_all_cells ["rows", "columns"]) (lk : LandK K c.CL) (pk : PileK K c.CP) :
    Dc P w K mg base 1 "all_cells" (spP c (.l .fz) F_all_cells) := by
  obtain ⟨f, fd, F, hm, hb⟩ := fx.ex
  have nd := sc_all_cells.nd
  refine ⟨f, fd, _, fn_pure (M := mo [.v 1, .v 1, .o (.l .fz), .v 0, .v 0]) (M' := mo [.v 1, .v 1, .o (.l .fz), .v 0, .v 0]) F sc_all_cells hK (fun i hi => by (rcases i with _ | (_ | _)) <;> first | rfl | exact absurd hi (by simp)) (fun cdv A outer s H E z => ?_), hb, hm, F.kp⟩
  exact (vss_cons (vs_setO 2 vo_lst0 rfl nd)
      (vss_cons (vs_for z (vi_range1 (ve_var 0) (by rfl) bn.range) (by decide) (vg_name (al := 0) 3 rfl (by decide) (by decide) nd) (vss_one (vs_for z (vi_range1 (ve_var 1) (by rfl) bn.range) (by decide) (vg_name (al := 0) 4 rfl (by decide) (by decide) nd) (vss_one (vs_app 2 (ve_tup (va_cons (ve_var 3) (va_cons (ve_var 4) va_nil))) rfl)))))
      (vss_one (vs_retV 2 rfl))))

abbrev s_Land_is_drain : Stmt := inClass (top 15) 6
theorem sc_Land_is_drain : FnScope ["self", "cell"] ["self", "cell"] (defScope s_Land_is_drain) := ⟨rfl, rfl, rfl, by decide +kernel, rfl, by decide +kernel, by decide +kernel⟩
theorem d_Land_is_drain {P : Program} {w : World} {K : PySem.W.Frag} {mg : Str → Option Value} {base : Heap} {c : Ct} (hK : K = c.K) (bn : Bn mg) (fx : FactM K c.CL "is_drain" "Land.is_drain" s_Land_is_drain ["self", "cell"]) (lk : LandK K c.CL) (pk : PileK K c.CP) (d_Land_need : Dm P w K mg base 3 c.CL "need" (spP c .fz F_Land_need)) :
    Dm P w K mg base 4 c.CL "is_drain" (spP c .fz F_Land_is_drain) := by
  obtain ⟨f, fd, F, mt, hb⟩ := fx.ex
  have nd := sc_Land_is_drain.nd
  refine ⟨f, fd, _, fn_pure (M := mo [.v 1, .v 1]) (M' := mo [.v 1, .v 1]) F sc_Land_is_drain hK (fun i hi => by (rcases i with _ | (_ | _)) <;> first | rfl | exact absurd hi (by simp)) (fun cdv A outer s H E z => ?_), hb, mt⟩
  exact (vss_cons (vs_expr (VO.toE .fz (vo_me (kd := .land) z lk.cl d_Land_need (by decide) (by decide) (ve_var 0) (va_arg (ve_var 1) va_nil))))
      (vss_one (vs_ret (VE.toO (ve_imm (ve_dget2 z (ve_open lk (ve_var 0)) (ve_var 1) ve_bl))))))

abbrev s_Land_drains : Stmt := inClass (top 15) 7
theorem sc_Land_drains : FnScope ["self", "cell"] ["self"] (defScope s_Land_drains) := ⟨rfl, rfl, rfl, by decide +kernel, rfl, by decide +kernel, by decide +kernel⟩
theorem d_Land_drains {P : Program} {w : World} {K : PySem.W.Frag} {mg : Str → Option Value} {base : Heap} {c : Ct} (hK : K = c.K) (bn : Bn mg) (fx : FactM K c.CL "drains" "Land.drains" s_Land_drains ["self"]) (lk : LandK K c.CL) (pk : PileK K c.CP) (d_all_cells : Dc P w K mg base 1 "all_cells" (spP c (.l .fz) F_all_cells)) (d_Land_is_drain : Dm P w K mg base 4 c.CL "is_drain" (spP c .fz F_Land_is_drain)) :
    Dm P w K mg base 5 c.CL "drains" (spP c (.l .fz) F_Land_drains) := by
  obtain ⟨f, fd, F, mt, hb⟩ := fx.ex
  have nd := sc_Land_drains.nd
  refine ⟨f, fd, _, fn_pure (M := mo [.v 1, .v 0]) (M' := mo [.v 1, .v 0]) F sc_Land_drains hK (fun i hi => by (rcases i with _ | _) <;> first | rfl | exact absurd hi (by simp)) (fun cdv A outer s H E z => ?_), hb, mt⟩
  exact (vss_one (vs_ret (vo_lc 1 z nd (vi_seq z (VO.toE _ (vo_callD z d_all_cells (by decide) (va_arg (ve_rows lk (ve_var 0)) (va_arg (ve_cols lk (ve_var 0)) va_nil))))) (blkOk_by (own := [("cell", 1)]) (N := ["self", "cell"]) (sc := defScope s_Land_drains) (by decide +kernel)) (fun _ _ _ _ _ => pg_name (i := 1) nd rfl (by first | exact Or.inl rfl | exact Or.inr rfl)) (fun _ _ _ _ _ => (vts_one (vt_val (VO.toE .fz (vo_me (kd := .land) z.blk lk.cl d_Land_is_drain (by decide) (by decide) (ve_var 0) (va_arg (ve_var 1) va_nil)))))) (fun _ _ _ _ _ => (VE.toO (ve_var 1))))))

abbrev s_Pile_put : Stmt := inClass (top 17) 1
theorem sc_Pile_put : FnScope ["self", "value", "at", "above", "kept"] ["self", "value"] (defScope s_Pile_put) := ⟨rfl, rfl, rfl, by decide +kernel, rfl, by decide +kernel, by decide +kernel⟩
theorem d_Pile_put {P : Program} {w : World} {K : PySem.W.Frag} {mg : Str → Option Value} {base : Heap} {c : Ct} (hK : K = c.K) (bn : Bn mg) (fx : FactM K c.CP "put" "Pile.put" s_Pile_put ["self", "value"]) (lk : LandK K c.CL) (pk : PileK K c.CP) :
    Dm P w K mg base 1 c.CP "put" (spM c [some .pile, none] .fz F_Pile_put) := by
  obtain ⟨f, fd, F, mt, hb⟩ := fx.ex
  have nd := sc_Pile_put.nd
  refine ⟨f, fd, _, fn_mut (ms := [some .pile, none]) (M := mo [.p .pile, .v 1, .v 0, .v 0, .v 0]) (M' := mo [.p .pile, .v 1, .v 0, .v 0, .v 0]) F sc_Pile_put hK rfl (fun i hi => by (rcases i with _ | (_ | _)) <;> first | rfl | exact absurd hi (by simp)) (fun cdv A outer s H E z => ?_), hb, mt⟩
  exact (vss_cons (vs_appL (vl_row 0 pk (Or.inr rfl)) (ve_var 1))
      (vss_cons (vs_set 2 0 (ve_sub (ve_len z (ve_row pk (ve_var 0)) (by rfl) bn.len) ve_int) rfl (by decide) nd)
      (vss_one (vs_while 100000 z (VW.vt (vw_and (vt_gt (ve_var 2) ve_int) (vw_and1 (vt_ltA z (ve_ix z (ve_row pk (ve_var 0)) (ve_var 2)) (ve_ix z (ve_row pk (ve_var 0)) (ve_div (ve_sub (ve_var 2) ve_int) ve_int)))))) (vss_cons (vs_set 3 0 (ve_div (ve_sub (ve_var 2) ve_int) ve_int) rfl (by decide) nd)
      (vss_cons (vs_set 4 0 (ve_imm (ve_ix z (ve_row pk (ve_var 0)) (ve_var 3))) rfl (by decide) nd)
      (vss_cons (vs_store (vl_row 0 pk (Or.inr rfl)) (ve_var 3) (ve_ix z (ve_row pk (ve_var 0)) (ve_var 2)))
      (vss_cons (vs_store (vl_row 0 pk (Or.inr rfl)) (ve_var 2) (ve_var 4))
      (vss_one (vs_set 2 0 (ve_var 3) rfl (by decide) nd))))))))))

abbrev s_Land_height : Stmt := inClass (top 15) 2
theorem sc_Land_height : FnScope ["self", "cell"] ["self", "cell"] (defScope s_Land_height) := ⟨rfl, rfl, rfl, by decide +kernel, rfl, by decide +kernel, by decide +kernel⟩
theorem d_Land_height {P : Program} {w : World} {K : PySem.W.Frag} {mg : Str → Option Value} {base : Heap} {c : Ct} (hK : K = c.K) (bn : Bn mg) (fx : FactM K c.CL "height" "Land.height" s_Land_height ["self", "cell"]) (lk : LandK K c.CL) (pk : PileK K c.CP) (d_Land_need : Dm P w K mg base 3 c.CL "need" (spP c .fz F_Land_need)) :
    Dm P w K mg base 4 c.CL "height" (spP c .fz F_Land_height) := by
  obtain ⟨f, fd, F, mt, hb⟩ := fx.ex
  have nd := sc_Land_height.nd
  refine ⟨f, fd, _, fn_pure (M := mo [.v 1, .v 1]) (M' := mo [.v 1, .v 1]) F sc_Land_height hK (fun i hi => by (rcases i with _ | (_ | _)) <;> first | rfl | exact absurd hi (by simp)) (fun cdv A outer s H E z => ?_), hb, mt⟩
  exact (vss_cons (vs_expr (VO.toE .fz (vo_me (kd := .land) z lk.cl d_Land_need (by decide) (by decide) (ve_var 0) (va_arg (ve_var 1) va_nil))))
      (vss_one (vs_ret (VE.toO (ve_imm (ve_ix z (ve_ix z (ve_grid lk (ve_var 0)) (ve_ix z (ve_var 1) ve_int)) (ve_ix z (ve_var 1) ve_int)))))))

abbrev s_Pile_many : Stmt := inClass (top 17) 5
theorem sc_Pile_many : FnScope ["self"] ["self"] (defScope s_Pile_many) := ⟨rfl, rfl, rfl, by decide +kernel, rfl, by decide +kernel, by decide +kernel⟩
theorem d_Pile_many {P : Program} {w : World} {K : PySem.W.Frag} {mg : Str → Option Value} {base : Heap} {c : Ct} (hK : K = c.K) (bn : Bn mg) (fx : FactM K c.CP "many" "Pile.many" s_Pile_many ["self"]) (lk : LandK K c.CL) (pk : PileK K c.CP) :
    Dm P w K mg base 1 c.CP "many" (spP c .fz F_Pile_many) := by
  obtain ⟨f, fd, F, mt, hb⟩ := fx.ex
  have nd := sc_Pile_many.nd
  refine ⟨f, fd, _, fn_pure (M := mo [.v 1]) (M' := mo [.v 1]) F sc_Pile_many hK (fun i hi => by (rcases i with _ | _) <;> first | rfl | exact absurd hi (by simp)) (fun cdv A outer s H E z => ?_), hb, mt⟩
  exact (vss_one (vs_ret (VE.toO (ve_len z (ve_row pk (ve_var 0)) (by rfl) bn.len))))

abbrev s_Pile_sink : Stmt := inClass (top 17) 4
theorem sc_Pile_sink : FnScope ["self", "at", "below", "kept"] ["self"] (defScope s_Pile_sink) := ⟨rfl, rfl, rfl, by decide +kernel, rfl, by decide +kernel, by decide +kernel⟩
theorem d_Pile_sink {P : Program} {w : World} {K : PySem.W.Frag} {mg : Str → Option Value} {base : Heap} {c : Ct} (hK : K = c.K) (bn : Bn mg) (fx : FactM K c.CP "sink" "Pile.sink" s_Pile_sink ["self"]) (lk : LandK K c.CL) (pk : PileK K c.CP) :
    Dm P w K mg base 1 c.CP "sink" (spM c [some .pile] .fz F_Pile_sink) := by
  obtain ⟨f, fd, F, mt, hb⟩ := fx.ex
  have nd := sc_Pile_sink.nd
  refine ⟨f, fd, _, fn_mut (ms := [some .pile]) (M := mo [.p .pile, .v 0, .v 0, .v 0]) (M' := mo [.p .pile, .v 0, .v 0, .v 0]) F sc_Pile_sink hK rfl (fun i hi => by (rcases i with _ | _) <;> first | rfl | exact absurd hi (by simp)) (fun cdv A outer s H E z => ?_), hb, mt⟩
  exact (vss_cons (vs_set 1 0 ve_int rfl (by decide) nd)
      (vss_one (vs_while 100000 z (vt_lt (ve_add (ve_mul ve_int (ve_var 1)) ve_int) (ve_len z (ve_row pk (ve_var 0)) (by rfl) bn.len)) (vss_cons (vs_set 2 0 (ve_add (ve_mul ve_int (ve_var 1)) ve_int) rfl (by decide) nd)
      (vss_cons (vs_if (VW.vt (vw_and (vt_lt (ve_add (ve_var 2) ve_int) (ve_len z (ve_row pk (ve_var 0)) (by rfl) bn.len)) (vw_and1 (vt_ltA z (ve_ix z (ve_row pk (ve_var 0)) (ve_add (ve_var 2) ve_int)) (ve_ix z (ve_row pk (ve_var 0)) (ve_var 2)))))) (vss_one (vs_set 2 0 (ve_add (ve_var 2) ve_int) rfl (by decide) nd)) vss_nil)
      (vss_cons (vs_if (vt_not (vt_ltA z (ve_ix z (ve_row pk (ve_var 0)) (ve_var 2)) (ve_ix z (ve_row pk (ve_var 0)) (ve_var 1)))) (vss_one vs_retN) vss_nil)
      (vss_cons (vs_set 3 0 (ve_imm (ve_ix z (ve_row pk (ve_var 0)) (ve_var 2))) rfl (by decide) nd)
      (vss_cons (vs_store (vl_row 0 pk (Or.inr rfl)) (ve_var 2) (ve_ix z (ve_row pk (ve_var 0)) (ve_var 1)))
      (vss_cons (vs_store (vl_row 0 pk (Or.inr rfl)) (ve_var 1) (ve_var 3))
      (vss_one (vs_set 1 0 (ve_var 2) rfl (by decide) nd)))))))))))

abbrev s_Pile_take : Stmt := inClass (top 17) 3
theorem sc_Pile_take : FnScope ["self", "found", "last"] ["self"] (defScope s_Pile_take) := ⟨rfl, rfl, rfl, by decide +kernel, rfl, by decide +kernel, by decide +kernel⟩
theorem d_Pile_take {P : Program} {w : World} {K : PySem.W.Frag} {mg : Str → Option Value} {base : Heap} {c : Ct} (hK : K = c.K) (bn : Bn mg) (fx : FactM K c.CP "take" "Pile.take" s_Pile_take ["self"]) (lk : LandK K c.CL) (pk : PileK K c.CP) (d_Pile_sink : Dm P w K mg base 1 c.CP "sink" (spM c [some .pile] .fz F_Pile_sink)) :
    Dm P w K mg base 2 c.CP "take" (spM c [some .pile] .fz F_Pile_take) := by
  obtain ⟨f, fd, F, mt, hb⟩ := fx.ex
  have nd := sc_Pile_take.nd
  refine ⟨f, fd, _, fn_mut (ms := [some .pile]) (M := mo [.p .pile, .v 0, .v 0]) (M' := mo [.p .pile, .v 0, .v 0]) F sc_Pile_take hK rfl (fun i hi => by (rcases i with _ | _) <;> first | rfl | exact absurd hi (by simp)) (fun cdv A outer s H E z => ?_), hb, mt⟩
  exact (vss_cons (vs_if (vt_eq z (ve_len z (ve_row pk (ve_var 0)) (by rfl) bn.len) ve_int) (vss_one (vs_ret (VE.toO ve_non))) vss_nil)
      (vss_cons (vs_set 1 0 (ve_imm (ve_ix z (ve_row pk (ve_var 0)) ve_int)) rfl (by decide) nd)
      (vss_cons (vs_setX 2 (vx_pop (vl_row 0 pk (Or.inr rfl))) rfl nd)
      (vss_cons (vs_if (vt_gt (ve_len z (ve_row pk (ve_var 0)) (by rfl) bn.len) ve_int) (vss_cons (vs_store (vl_row 0 pk (Or.inr rfl)) ve_int (ve_var 2))
      (vss_one (vs_exprX (vx_me0 (kd := .pile) (md := Mo.p) 0 z pk.cl d_Pile_sink (by decide) runM_noExc (Or.inr rfl) (by decide) rfl)))) vss_nil)
      (vss_one (vs_ret (VE.toO (ve_var 1))))))))

abbrev s_beside : Stmt := top 4
theorem sc_beside : FnScope ["rows", "columns", "cell", "row", "column", "around", "one"] ["rows", "columns", "cell"] (defScope s_beside) := ⟨rfl, rfl, rfl, by decide +kernel, rfl, by decide +kernel, by decide +kernel⟩
theorem d_beside {P : Program} {w : World} {K : PySem.W.Frag} {mg : Str → Option Value} {base : Heap} {c : Ct} (hK : K = c.K) (bn : Bn mg) (fx : Fact K mg "beside" s_beside ["rows", "columns", "cell"]) (lk : LandK K c.CL) (pk : PileK K c.CP) (d_lies_in : Dc P w K mg base 2 "lies_in" (spP c .fz F_lies_in)) :
    Dc P w K mg base 3 "beside" (spP c (.l .fz) F_beside) := by
  obtain ⟨f, fd, F, hm, hb⟩ := fx.ex
  have nd := sc_beside.nd
  refine ⟨f, fd, _, fn_pure (M := mo [.v 1, .v 1, .v 1, .v 0, .v 0, .v 0, .v 0]) (M' := mo [.v 1, .v 1, .v 1, .v 0, .v 0, .v 0, .v 0]) F sc_beside hK (fun i hi => by (rcases i with _ | (_ | (_ | _))) <;> first | rfl | exact absurd hi (by simp)) (fun cdv A outer s H E z => ?_), hb, hm, F.kp⟩
  exact (vss_cons (vs_set 3 0 (ve_imm (ve_ix z (ve_var 2) ve_int)) rfl (by decide) nd)
      (vss_cons (vs_set 4 0 (ve_imm (ve_ix z (ve_var 2) ve_int)) rfl (by decide) nd)
      (vss_cons (vs_set 5 0 (VO.toE _ (vo_lst (va_cons (ve_tup (va_cons (ve_sub (ve_var 3) ve_int) (va_cons (ve_var 4) va_nil))) (va_cons (ve_tup (va_cons (ve_var 3) (va_cons (ve_sub (ve_var 4) ve_int) va_nil))) (va_cons (ve_tup (va_cons (ve_var 3) (va_cons (ve_add (ve_var 4) ve_int) va_nil))) (va_cons (ve_tup (va_cons (ve_add (ve_var 3) ve_int) (va_cons (ve_var 4) va_nil))) va_nil)))))) rfl (by decide) nd)
      (vss_one (vs_ret (vo_lc 6 z nd (vi_seq z (ve_var 5)) (blkOk_by (own := [("one", 6)]) (N := ["rows", "columns", "cell", "row", "column", "around", "one"]) (sc := defScope s_beside) (by decide +kernel)) (fun _ _ _ _ _ => pg_name (i := 6) nd rfl (by first | exact Or.inl rfl | exact Or.inr rfl)) (fun _ _ _ _ _ => (vts_one (vt_val (VO.toE .fz (vo_callD z.blk d_lies_in (by decide) (va_arg (ve_var 0) (va_arg (ve_var 1) (va_arg (ve_var 6) va_nil)))))))) (fun _ _ _ _ _ => (VE.toO (ve_var 6)))))))))

abbrev s_spread : Stmt := top 19
theorem sc_spread : FnScope ["land", "pile", "cell", "level", "onward", "best", "high", "one", "own"] ["land"] (defScope s_spread) := ⟨rfl, rfl, rfl, by decide +kernel, rfl, by decide +kernel, by decide +kernel⟩
theorem d_spread {P : Program} {w : World} {K : PySem.W.Frag} {mg : Str → Option Value} {base : Heap} {c : Ct} (hK : K = c.K) (bn : Bn mg) (fx : Fact K mg "spread" s_spread ["land"]) (lk : LandK K c.CL) (pk : PileK K c.CP) (d_Pile_init : Di P w K mg base 1 "Pile" c.CP (spM c [some .pile] .fz F_Pile_init)) (d_Land_drains : Dm P w K mg base 5 c.CL "drains" (spP c (.l .fz) F_Land_drains)) (d_Pile_put : Dm P w K mg base 1 c.CP "put" (spM c [some .pile, none] .fz F_Pile_put)) (d_Land_height : Dm P w K mg base 4 c.CL "height" (spP c .fz F_Land_height)) (d_Pile_many : Dm P w K mg base 1 c.CP "many" (spP c .fz F_Pile_many)) (d_Pile_take : Dm P w K mg base 2 c.CP "take" (spM c [some .pile] .fz F_Pile_take)) (d_Land_is_drain : Dm P w K mg base 4 c.CL "is_drain" (spP c .fz F_Land_is_drain)) (d_beside : Dc P w K mg base 3 "beside" (spP c (.l .fz) F_beside)) :
    Dc P w K mg base 6 "spread" (spP c .fz F_spread) := by
  obtain ⟨f, fd, F, hm, hb⟩ := fx.ex
  have nd := sc_spread.nd
  refine ⟨f, fd, _, fn_pure (M := mo [.v 1, .o .pile, .v 0, .o .d, .o .d, .v 0, .v 0, .v 0, .v 0]) (M' := mo [.v 1, .o .pile, .v 0, .o .d, .o .d, .v 0, .v 0, .v 0, .v 0]) F sc_spread hK (fun i hi => by (rcases i with _ | _) <;> first | rfl | exact absurd hi (by simp)) (fun cdv A outer s H E z => ?_), hb, hm, F.kp⟩
  exact (vss_cons (vs_setO 1 (vo_mk0 (kd := .pile) z d_Pile_init (by decide) runM_noExc) rfl nd)
      (vss_cons (vs_for z (vi_seq z (VO.toE _ (vo_me0 (kd := .land) z lk.cl d_Land_drains (by decide) (by decide) (ve_var 0)))) (by decide) (vg_name (al := 0) 2 rfl (by decide) (by decide) nd) (vss_one (vs_exprX (vx_me (kd := .pile) (md := Mo.o) (js := [none]) 1 z pk.cl d_Pile_put (by decide) runM_noExc (Or.inl rfl) (by decide) rfl (vam_rd (ve_tup (va_cons (VO.toE .fz (vo_me (kd := .land) z lk.cl d_Land_height (by decide) (by decide) (ve_var 0) (va_arg (ve_var 2) va_nil))) (va_cons (ve_var 2) (va_cons (ve_var 2) va_nil)))) (by decide) vam_nil)))))
      (vss_cons (vs_setO 3 vo_dct0 rfl nd)
      (vss_cons (vs_setO 4 vo_dct0 rfl nd)
      (vss_cons (vs_while 100000 z (vt_gt (VO.toE .fz (vo_me0 (kd := .pile) z pk.cl d_Pile_many (by decide) (by decide) (ve_var 1))) ve_int) (vss_cons (vs_setX 5 (vx_me0 (kd := .pile) (md := Mo.o) 1 z pk.cl d_Pile_take (by decide) runM_noExc (Or.inl rfl) (by decide) rfl) rfl nd)
      (vss_cons (vs_set 6 0 (ve_ix z (ve_var 5) ve_int) rfl (by decide) nd)
      (vss_cons (vs_set 2 0 (ve_ix z (ve_var 5) ve_int) rfl (by decide) nd)
      (vss_cons (vs_if (vt_din z (ve_var 2) (ve_var 3)) (vss_one vs_ct) vss_nil)
      (vss_cons (vs_dput 3 z (Or.inl rfl) (ve_var 2) (ve_var 6))
      (vss_cons (vs_dput 4 z (Or.inl rfl) (ve_var 2) (ve_ix z (ve_var 5) ve_int))
      (vss_cons (vs_if (vt_val (VO.toE .fz (vo_me (kd := .land) z lk.cl d_Land_is_drain (by decide) (by decide) (ve_var 0) (va_arg (ve_var 2) va_nil)))) (vss_one (vs_dput 4 z (Or.inl rfl) (ve_var 2) (ve_var 2))) vss_nil)
      (vss_one (vs_for z (vi_seq z (VO.toE _ (vo_callD z d_beside (by decide) (va_arg (ve_rows lk (ve_var 0)) (va_arg (ve_cols lk (ve_var 0)) (va_arg (ve_var 2) va_nil)))))) (by decide) (vg_name (al := 0) 7 rfl (by decide) (by decide) nd) (vss_cons (vs_set 8 0 (VO.toE .fz (vo_me (kd := .land) z lk.cl d_Land_height (by decide) (by decide) (ve_var 0) (va_arg (ve_var 7) va_nil))) rfl (by decide) nd)
      (vss_one (vs_if (VW.vt (vw_and (vt_isnt (ve_var 8) ve_non) (vw_and1 (vt_dnotin z (ve_var 7) (ve_var 3))))) (vss_one (vs_exprX (vx_me (kd := .pile) (md := Mo.o) (js := [none]) 1 z pk.cl d_Pile_put (by decide) runM_noExc (Or.inl rfl) (by decide) rfl (vam_rd (ve_tup (va_cons (ve_max2 z (ve_var 8) (ve_var 6) (by rfl) bn.max) (va_cons (ve_var 7) (va_cons (ve_var 2) va_nil)))) (by decide) vam_nil)))) vss_nil)))))))))))))
      (vss_freeze 3 rfl
      (vss_freeze 4 rfl
      (vss_one (vs_ret (VE.toO (ve_tup (va_cons (ve_var 3) (va_cons (ve_var 4) va_nil)))))))))))))

abbrev s_depths : Stmt := top 21
theorem sc_depths : FnScope ["land", "level", "found", "cell"] ["land"] (defScope s_depths) := ⟨rfl, rfl, rfl, by decide +kernel, rfl, by decide +kernel, by decide +kernel⟩
theorem d_depths {P : Program} {w : World} {K : PySem.W.Frag} {mg : Str → Option Value} {base : Heap} {c : Ct} (hK : K = c.K) (bn : Bn mg) (fx : Fact K mg "depths" s_depths ["land"]) (lk : LandK K c.CL) (pk : PileK K c.CP) (d_spread : Dc P w K mg base 6 "spread" (spP c .fz F_spread)) (d_all_cells : Dc P w K mg base 1 "all_cells" (spP c (.l .fz) F_all_cells)) (d_Land_height : Dm P w K mg base 4 c.CL "height" (spP c .fz F_Land_height)) :
    Dc P w K mg base 7 "depths" (spP c .d F_depths) := by
  obtain ⟨f, fd, F, hm, hb⟩ := fx.ex
  have nd := sc_depths.nd
  refine ⟨f, fd, _, fn_pure (M := mo [.v 1, .v 0, .o .d, .v 0]) (M' := mo [.v 1, .v 0, .o .d, .v 0]) F sc_depths hK (fun i hi => by (rcases i with _ | _) <;> first | rfl | exact absurd hi (by simp)) (fun cdv A outer s H E z => ?_), hb, hm, F.kp⟩
  exact (vss_cons (vs_set 1 0 (ve_ix z (VO.toE .fz (vo_callD z d_spread (by decide) (va_arg (ve_var 0) va_nil))) ve_int) rfl (by decide) nd)
      (vss_cons (vs_setO 2 vo_dct0 rfl nd)
      (vss_cons (vs_for z (vi_seq z (VO.toE _ (vo_callD z d_all_cells (by decide) (va_arg (ve_rows lk (ve_var 0)) (va_arg (ve_cols lk (ve_var 0)) va_nil))))) (by decide) (vg_name (al := 0) 3 rfl (by decide) (by decide) nd) (vss_one (vs_if (vt_din z (ve_var 3) (ve_var 1)) (vss_one (vs_dput 2 z (Or.inl rfl) (ve_var 3) (ve_sub (ve_ix z (ve_var 1) (ve_var 3)) (VO.toE .fz (vo_me (kd := .land) z lk.cl d_Land_height (by decide) (by decide) (ve_var 0) (va_arg (ve_var 3) va_nil)))))) vss_nil)))
      (vss_one (vs_retV 2 rfl)))))

abbrev s_pools : Stmt := top 23
theorem sc_pools : FnScope ["land", "deep", "found", "seen", "cell", "waiting", "own", "here", "one"] ["land"] (defScope s_pools) := ⟨rfl, rfl, rfl, by decide +kernel, rfl, by decide +kernel, by decide +kernel⟩
theorem d_pools {P : Program} {w : World} {K : PySem.W.Frag} {mg : Str → Option Value} {base : Heap} {c : Ct} (hK : K = c.K) (bn : Bn mg) (fx : Fact K mg "pools" s_pools ["land"]) (lk : LandK K c.CL) (pk : PileK K c.CP) (d_depths : Dc P w K mg base 7 "depths" (spP c .d F_depths)) (d_all_cells : Dc P w K mg base 1 "all_cells" (spP c (.l .fz) F_all_cells)) (d_beside : Dc P w K mg base 3 "beside" (spP c (.l .fz) F_beside)) :
    Dc P w K mg base 8 "pools" (spP c (.l (.l .fz)) F_pools) := by
  obtain ⟨f, fd, F, hm, hb⟩ := fx.ex
  have nd := sc_pools.nd
  refine ⟨f, fd, _, fn_pure (M := mo [.v 1, .o .d, .o (.l (.l .fz)), .o .d, .v 0, .o (.l .fz), .o .d, .v 0, .v 0]) (M' := mo [.v 1, .o .d, .o (.l (.l .fz)), .o .d, .v 0, .o (.l .fz), .o .d, .v 0, .v 0]) F sc_pools hK (fun i hi => by (rcases i with _ | _) <;> first | rfl | exact absurd hi (by simp)) (fun cdv A outer s H E z => ?_), hb, hm, F.kp⟩
  exact (vss_cons (vs_setO 1 (vo_callD z d_depths (by decide) (va_arg (ve_var 0) va_nil)) rfl nd)
      (vss_cons (vs_setO 2 vo_lst0 rfl nd)
      (vss_cons (vs_setO 3 vo_dct0 rfl nd)
      (vss_cons (vs_for z (vi_seq z (VO.toE _ (vo_callD z d_all_cells (by decide) (va_arg (ve_rows lk (ve_var 0)) (va_arg (ve_cols lk (ve_var 0)) va_nil))))) (by decide) (vg_name (al := 0) 4 rfl (by decide) (by decide) nd) (vss_one (vs_if (VW.vt (vw_and (vt_gt (ve_dget2 z (ve_var 1) (ve_var 4) ve_int) ve_int) (vw_and1 (vt_dnotin z (ve_var 4) (ve_var 3))))) (vss_cons (vs_dput 3 z (Or.inl rfl) (ve_var 4) ve_bl)
      (vss_cons (vs_setO 5 (vo_lst (va_cons (ve_var 4) va_nil)) rfl nd)
      (vss_cons (vs_setO 6 (vo_dct1 z (ve_var 4) ve_bl) rfl nd)
      (vss_cons (vs_while 100000 z (vt_gt (ve_len z (ve_var 5) (by rfl) bn.len) ve_int) (vss_cons (vs_setX 7 (vx_pop (vl_var 5 (Or.inl rfl))) rfl nd)
      (vss_one (vs_for z (vi_seq z (VO.toE _ (vo_callD z d_beside (by decide) (va_arg (ve_rows lk (ve_var 0)) (va_arg (ve_cols lk (ve_var 0)) (va_arg (ve_var 7) va_nil)))))) (by decide) (vg_name (al := 0) 8 rfl (by decide) (by decide) nd) (vss_one (vs_if (VW.vt (vw_and (vt_gt (ve_dget2 z (ve_var 1) (ve_var 8) ve_int) ve_int) (vw_and1 (vt_dnotin z (ve_var 8) (ve_var 3))))) (vss_cons (vs_dput 3 z (Or.inl rfl) (ve_var 8) ve_bl)
      (vss_cons (vs_dput 6 z (Or.inl rfl) (ve_var 8) ve_bl)
      (vss_one (vs_app 5 (ve_var 8) rfl)))) vss_nil))))))
      (vss_one (vs_appO 2 (vo_sorted z (VO.toE _ (vo_listD z (ve_var 6) (by rfl) bn.list)) (by rfl) bn.sorted) rfl)))))) vss_nil)))
      (vss_one (vs_retV 2 rfl))))))

abbrev s_volume : Stmt := top 22
theorem sc_volume : FnScope ["land", "deep", "cell"] ["land"] (defScope s_volume) := ⟨rfl, rfl, rfl, by decide +kernel, rfl, by decide +kernel, by decide +kernel⟩
theorem d_volume {P : Program} {w : World} {K : PySem.W.Frag} {mg : Str → Option Value} {base : Heap} {c : Ct} (hK : K = c.K) (bn : Bn mg) (fx : Fact K mg "volume" s_volume ["land"]) (lk : LandK K c.CL) (pk : PileK K c.CP) (d_depths : Dc P w K mg base 7 "depths" (spP c .d F_depths)) :
    Dc P w K mg base 8 "volume" (spP c .fz F_volume) := by
  obtain ⟨f, fd, F, hm, hb⟩ := fx.ex
  have nd := sc_volume.nd
  refine ⟨f, fd, _, fn_pure (M := mo [.v 1, .o .d, .v 0]) (M' := mo [.v 1, .o .d, .v 0]) F sc_volume hK (fun i hi => by (rcases i with _ | _) <;> first | rfl | exact absurd hi (by simp)) (fun cdv A outer s H E z => ?_), hb, hm, F.kp⟩
  exact (vss_cons (vs_setO 1 (vo_callD z d_depths (by decide) (va_arg (ve_var 0) va_nil)) rfl nd)
      (vss_lock 1 rfl
      (vss_one (vs_ret (VE.toO (ve_sum z (VO.toE _ (vo_lc 2 z nd (vi_fd z (ve_var 1)) (blkOk_by (own := [("cell", 2)]) (N := ["land", "deep", "cell"]) (sc := defScope s_volume) (by decide +kernel)) (fun _ _ _ _ _ => pg_name (i := 2) nd rfl (by first | exact Or.inl rfl | exact Or.inr rfl)) (fun _ _ _ _ _ => vts_nil) (fun _ _ _ _ _ => (VE.toO (ve_ixF z.blk (ve_var 1) (ve_var 2)))))) (by rfl) bn.sum))))))

abbrev s_law_asked : Stmt := top 33
theorem sc_law_asked : FnScope ["_law_land_here"] ["_law_land_here"] (defScope s_law_asked) := ⟨rfl, rfl, rfl, by decide +kernel, rfl, by decide +kernel, by decide +kernel⟩
theorem d_law_asked {P : Program} {w : World} {K : PySem.W.Frag} {mg : Str → Option Value} {base : Heap} {c : Ct} (hK : K = c.K) (bn : Bn mg) (fx : Fact K mg "_law_asked" s_law_asked ["_law_land_here"]) (lk : LandK K c.CL) (pk : PileK K c.CP) (d_depths : Dc P w K mg base 7 "depths" (spP c .d F_depths)) (d_pools : Dc P w K mg base 8 "pools" (spP c (.l (.l .fz)) F_pools)) (d_volume : Dc P w K mg base 8 "volume" (spP c .fz F_volume)) :
    Dc P w K mg base 9 "_law_asked" (spP c .fz F_law_asked) := by
  obtain ⟨f, fd, F, hm, hb⟩ := fx.ex
  have nd := sc_law_asked.nd
  refine ⟨f, fd, _, fn_pure (M := mo [.v 1]) (M' := mo [.v 1]) F sc_law_asked hK (fun i hi => by (rcases i with _ | _) <;> first | rfl | exact absurd hi (by simp)) (fun cdv A outer s H E z => ?_), hb, hm, F.kp⟩
  exact (vss_cons (vs_freshClearD (vo_callD z d_depths (by decide) (va_arg (ve_var 0) va_nil)))
      (vss_cons (vs_freshClear (vo_callD z d_pools (by decide) (va_arg (ve_var 0) va_nil)))
      (vss_one (vs_ret (VE.toO (VO.toE .fz (vo_callD z d_volume (by decide) (va_arg (ve_var 0) va_nil))))))))

abbrev s_Land_shut : Stmt := inClass (top 15) 5
theorem sc_Land_shut : FnScope ["self", "cell"] ["self", "cell"] (defScope s_Land_shut) := ⟨rfl, rfl, rfl, by decide +kernel, rfl, by decide +kernel, by decide +kernel⟩
theorem d_Land_shut {P : Program} {w : World} {K : PySem.W.Frag} {mg : Str → Option Value} {base : Heap} {c : Ct} (hK : K = c.K) (bn : Bn mg) (fx : FactM K c.CL "shut" "Land.shut" s_Land_shut ["self", "cell"]) (lk : LandK K c.CL) (pk : PileK K c.CP) (d_Land_need : Dm P w K mg base 3 c.CL "need" (spP c .fz F_Land_need)) (d_Land_is_drain : Dm P w K mg base 4 c.CL "is_drain" (spP c .fz F_Land_is_drain)) (x_NoDrain : ExK K mg "NoDrain" Exs.NoDrain) :
    Dm P w K mg base 5 c.CL "shut" (spM c [some .land, none] .fz F_Land_shut) := by
  obtain ⟨f, fd, F, mt, hb⟩ := fx.ex
  have nd := sc_Land_shut.nd
  refine ⟨f, fd, _, fn_mut (ms := [some .land, none]) (M := mo [.p .land, .v 1]) (M' := mo [.p .land, .v 1]) F sc_Land_shut hK rfl (fun i hi => by (rcases i with _ | (_ | _)) <;> first | rfl | exact absurd hi (by simp)) (fun cdv A outer s H E z => ?_), hb, mt⟩
  exact (vss_cons (vs_exprK (VO.toE .fz (vo_me (kd := .land) z lk.cl d_Land_need (by decide) (by decide) (ve_var 0) (va_arg (ve_var 1) va_nil))))
      (vss_cons (vs_ifK (vt_not (vt_val (VO.toE .fz (vo_me (kd := .land) z lk.cl d_Land_is_drain (by decide) (by decide) (ve_var 0) (va_arg (ve_var 1) va_nil))))) (vss_one (vs_raiseK z x_NoDrain (by rfl))) vss_nil)
      (vss_one (vs_open 0 z lk (Or.inr rfl) (ve_var 1) ve_bl))))

abbrev s_Land_raised : Stmt := inClass (top 15) 3
theorem sc_Land_raised : FnScope ["self", "cell", "height"] ["self", "cell", "height"] (defScope s_Land_raised) := ⟨rfl, rfl, rfl, by decide +kernel, rfl, by decide +kernel, by decide +kernel⟩
theorem d_Land_raised {P : Program} {w : World} {K : PySem.W.Frag} {mg : Str → Option Value} {base : Heap} {c : Ct} (hK : K = c.K) (bn : Bn mg) (fx : FactM K c.CL "raised" "Land.raised" s_Land_raised ["self", "cell", "height"]) (lk : LandK K c.CL) (pk : PileK K c.CP) (d_Land_need : Dm P w K mg base 3 c.CL "need" (spP c .fz F_Land_need)) (d_is_height : Dc P w K mg base 2 "is_height" (spP c .fz F_is_height)) (x_NoHeight : ExK K mg "NoHeight" Exs.NoHeight) :
    Dm P w K mg base 4 c.CL "raised" (spM c [some .land, none, none] .fz F_Land_raised) := by
  obtain ⟨f, fd, F, mt, hb⟩ := fx.ex
  have nd := sc_Land_raised.nd
  refine ⟨f, fd, _, fn_mut (ms := [some .land, none, none]) (M := mo [.p .land, .v 1, .v 1]) (M' := mo [.p .land, .v 1, .v 1]) F sc_Land_raised hK rfl (fun i hi => by (rcases i with _ | (_ | (_ | _))) <;> first | rfl | exact absurd hi (by simp)) (fun cdv A outer s H E z => ?_), hb, mt⟩
  exact (vss_cons (vs_exprK (VO.toE .fz (vo_me (kd := .land) z lk.cl d_Land_need (by decide) (by decide) (ve_var 0) (va_arg (ve_var 1) va_nil))))
      (vss_cons (vs_if (vt_not (vt_val (VO.toE .fz (vo_callD z d_is_height (by decide) (va_arg (ve_var 2) va_nil))))) (vss_one (vs_raiseK z x_NoHeight (by rfl))) vss_nil)
      (vss_cons (vs_store (vl_grid 0 lk (Or.inr rfl) (ve_ix z (ve_var 1) ve_int)) (ve_ix z (ve_var 1) ve_int) (ve_var 2))
      (vss_one (vs_if (vt_is (ve_var 2) ve_non) (vss_one (vs_open 0 z lk (Or.inr rfl) (ve_var 1) ve_bl)) vss_nil)))))

abbrev s_law_land : Stmt := top 34
theorem sc_law_land : FnScope ["_law_rows", "_law_drains_here", "_law_first", "_law_row", "_law_land_here", "_law_cell"] ["_law_rows", "_law_drains_here"] (defScope s_law_land) := ⟨rfl, rfl, rfl, by decide +kernel, rfl, by decide +kernel, by decide +kernel⟩
theorem d_law_land {P : Program} {w : World} {K : PySem.W.Frag} {mg : Str → Option Value} {base : Heap} {c : Ct} (hK : K = c.K) (bn : Bn mg) (fx : Fact K mg "_law_land" s_law_land ["_law_rows", "_law_drains_here"]) (lk : LandK K c.CL) (pk : PileK K c.CP) (d_Land_init : Di P w K mg base 3 "Land" c.CL (spM c [some .land, none] .fz F_Land_init)) (d_Land_opened : Dm P w K mg base 4 c.CL "opened" (spM c [some .land, none] .fz F_Land_opened)) (d_law_asked : Dc P w K mg base 9 "_law_asked" (spP c .fz F_law_asked)) (d_Land_shut : Dm P w K mg base 5 c.CL "shut" (spM c [some .land, none] .fz F_Land_shut)) (d_Land_raised : Dm P w K mg base 4 c.CL "raised" (spM c [some .land, none, none] .fz F_Land_raised)) :
    Dc P w K mg base 10 "_law_land" (spP c .land F_law_land) := by
  obtain ⟨f, fd, F, hm, hb⟩ := fx.ex
  have nd := sc_law_land.nd
  refine ⟨f, fd, _, fn_pure (M := mo [.v 1, .v 1, .o (.l (.l .fz)), .v 0, .o .land, .v 1]) (M' := mo [.v 1, .v 1, .o (.l (.l .fz)), .v 0, .o .land, .v 1]) F sc_law_land hK (fun i hi => by (rcases i with _ | (_ | _)) <;> first | rfl | exact absurd hi (by simp)) (fun cdv A outer s H E z => ?_), hb, hm, F.kp⟩
  exact (vss_cons (vs_setLcO 2 rfl 3 z nd (vi_seq z (ve_var 0)) (blkOk_by (own := [("_law_row", 3)]) (N := ["_law_rows", "_law_drains_here", "_law_first", "_law_row", "_law_land_here", "_law_cell"]) (sc := defScope s_law_land) (by decide +kernel)) (fun _ _ _ _ _ => pg_name (i := 3) nd rfl (by first | exact Or.inl rfl | exact Or.inr rfl)) (fun _ _ _ _ _ => vts_nil) (fun _ _ _ _ _ => (vo_list z.blk (ve_var 3) (by rfl) bn.list)))
      (vss_cons (vs_store (vl_sub 2 (Or.inl rfl) ve_int) ve_int ve_int)
      (vss_cons (vs_setO 4 (vo_mk (kd := .land) z d_Land_init (by decide) runM_noExc (va_arg (ve_var 2) va_nil) (hlen := fun _ _ h => aLen1 h)) rfl nd)
      (vss_cons (vs_exprX (vx_me (kd := .land) (md := Mo.o) (js := [none]) 4 z lk.cl d_Land_opened (by decide) runM_noExc (Or.inl rfl) (by decide) rfl (vam_rd (ve_tup (va_cons ve_int (va_cons ve_int va_nil))) (by decide) vam_nil)))
      (vss_cons (vs_expr (VO.toE .fz (vo_callD z d_law_asked (by decide) (va_arg (ve_var 4) va_nil))))
      (vss_cons (vs_exprX (vx_me (kd := .land) (md := Mo.o) (js := [none]) 4 z lk.cl d_Land_shut (by decide) runM_noExc (Or.inl rfl) (by decide) rfl (vam_rd (ve_tup (va_cons ve_int (va_cons ve_int va_nil))) (by decide) vam_nil)))
      (vss_cons (vs_expr (VO.toE .fz (vo_callD z d_law_asked (by decide) (va_arg (ve_var 4) va_nil))))
      (vss_cons (vs_exprX (vx_me (kd := .land) (md := Mo.o) (js := [none, none]) 4 z lk.cl d_Land_raised (by decide) runM_noExc (Or.inl rfl) (by decide) rfl (vam_rd (ve_tup (va_cons ve_int (va_cons ve_int va_nil))) (by decide) (vam_rd (ve_ix z (ve_ix z (ve_var 0) ve_int) ve_int) (by decide) vam_nil))))
      (vss_cons (vs_expr (VO.toE .fz (vo_callD z d_law_asked (by decide) (va_arg (ve_var 4) va_nil))))
      (vss_cons (vs_for z (vi_seq z (ve_var 1)) (by decide) (vg_name (al := 1) 5 rfl (by decide) (by decide) nd) (vss_one (vs_exprX (vx_me (kd := .land) (md := Mo.o) (js := [none]) 4 z lk.cl d_Land_opened (by decide) runM_noExc (Or.inl rfl) (by decide) rfl (vam_rd (ve_var 5) (by decide) vam_nil)))))
      (vss_one (vs_retV 4 rfl))))))))))))

abbrev s_law_beside : Stmt := top 35
theorem sc_law_beside : FnScope ["_law_rows", "_law_cell", "_law_found", "_law_one"] ["_law_rows", "_law_cell"] (defScope s_law_beside) := ⟨rfl, rfl, rfl, by decide +kernel, rfl, by decide +kernel, by decide +kernel⟩
theorem d_law_beside {P : Program} {w : World} {K : PySem.W.Frag} {mg : Str → Option Value} {base : Heap} {c : Ct} (hK : K = c.K) (bn : Bn mg) (fx : Fact K mg "_law_beside" s_law_beside ["_law_rows", "_law_cell"]) (lk : LandK K c.CL) (pk : PileK K c.CP) :
    Dc P w K mg base 1 "_law_beside" (spP c (.l .fz) F_law_beside) := by
  obtain ⟨f, fd, F, hm, hb⟩ := fx.ex
  have nd := sc_law_beside.nd
  refine ⟨f, fd, _, fn_pure (M := mo [.v 1, .v 1, .o (.l .fz), .v 0]) (M' := mo [.v 1, .v 1, .o (.l .fz), .v 0]) F sc_law_beside hK (fun i hi => by (rcases i with _ | (_ | _)) <;> first | rfl | exact absurd hi (by simp)) (fun cdv A outer s H E z => ?_), hb, hm, F.kp⟩
  exact (vss_cons (vs_setO 2 vo_lst0 rfl nd)
      (vss_cons (vs_if (vt_gt (ve_ix z (ve_var 1) ve_int) ve_int) (vss_one (vs_app 2 (ve_tup (va_cons (ve_sub (ve_ix z (ve_var 1) ve_int) ve_int) (va_cons (ve_imm (ve_ix z (ve_var 1) ve_int)) va_nil))) rfl)) vss_nil)
      (vss_cons (vs_if (vt_gt (ve_ix z (ve_var 1) ve_int) ve_int) (vss_one (vs_app 2 (ve_tup (va_cons (ve_imm (ve_ix z (ve_var 1) ve_int)) (va_cons (ve_sub (ve_ix z (ve_var 1) ve_int) ve_int) va_nil))) rfl)) vss_nil)
      (vss_cons (vs_if (vt_lt (ve_add (ve_ix z (ve_var 1) ve_int) ve_int) (ve_len z (ve_ix z (ve_var 0) ve_int) (by rfl) bn.len)) (vss_one (vs_app 2 (ve_tup (va_cons (ve_imm (ve_ix z (ve_var 1) ve_int)) (va_cons (ve_add (ve_ix z (ve_var 1) ve_int) ve_int) va_nil))) rfl)) vss_nil)
      (vss_cons (vs_if (vt_lt (ve_add (ve_ix z (ve_var 1) ve_int) ve_int) (ve_len z (ve_var 0) (by rfl) bn.len)) (vss_one (vs_app 2 (ve_tup (va_cons (ve_add (ve_ix z (ve_var 1) ve_int) ve_int) (va_cons (ve_imm (ve_ix z (ve_var 1) ve_int)) va_nil))) rfl)) vss_nil)
      (vss_one (vs_ret (vo_lc 3 z nd (vi_seq z (ve_var 2)) (blkOk_by (own := [("_law_one", 3)]) (N := ["_law_rows", "_law_cell", "_law_found", "_law_one"]) (sc := defScope s_law_beside) (by decide +kernel)) (fun _ _ _ _ _ => pg_name (i := 3) nd rfl (by first | exact Or.inl rfl | exact Or.inr rfl)) (fun _ _ _ _ _ => (vts_one (vt_isnt (ve_ix z.blk (ve_ix z.blk (ve_var 0) (ve_ix z.blk (ve_var 3) ve_int)) (ve_ix z.blk (ve_var 3) ve_int)) ve_non))) (fun _ _ _ _ _ => (VE.toO (ve_imm (ve_var 3))))))))))))

abbrev s_law_least_beside : Stmt := top 36
theorem sc_law_least_beside : FnScope ["_law_rows", "_law_cell", "_law_level", "_law_least", "_law_one"] ["_law_rows", "_law_cell", "_law_level"] (defScope s_law_least_beside) := ⟨rfl, rfl, rfl, by decide +kernel, rfl, by decide +kernel, by decide +kernel⟩
theorem d_law_least_beside {P : Program} {w : World} {K : PySem.W.Frag} {mg : Str → Option Value} {base : Heap} {c : Ct} (hK : K = c.K) (bn : Bn mg) (fx : Fact K mg "_law_least_beside" s_law_least_beside ["_law_rows", "_law_cell", "_law_level"]) (lk : LandK K c.CL) (pk : PileK K c.CP) (d_law_beside : Dc P w K mg base 1 "_law_beside" (spP c (.l .fz) F_law_beside)) :
    Dc P w K mg base 2 "_law_least_beside" (spP c .fz F_law_least_beside) := by
  obtain ⟨f, fd, F, hm, hb⟩ := fx.ex
  have nd := sc_law_least_beside.nd
  refine ⟨f, fd, _, fn_pure (M := mo [.v 1, .v 1, .v 1, .v 0, .v 0]) (M' := mo [.v 1, .v 1, .v 1, .v 0, .v 0]) F sc_law_least_beside hK (fun i hi => by (rcases i with _ | (_ | (_ | _))) <;> first | rfl | exact absurd hi (by simp)) (fun cdv A outer s H E z => ?_), hb, hm, F.kp⟩
  exact (vss_cons (vs_set 3 0 ve_non rfl (by decide) nd)
      (vss_cons (vs_for z (vi_seq z (VO.toE _ (vo_callD z d_law_beside (by decide) (va_arg (ve_var 0) (va_arg (ve_var 1) va_nil))))) (by decide) (vg_name (al := 0) 4 rfl (by decide) (by decide) nd) (vss_one (vs_if (VW.vt (vw_and (vt_din z (ve_var 4) (ve_var 2)) (vw_and1 (VW.vt (vw_or (vt_is (ve_var 3) ve_non) (vw_or1 (vt_lt (ve_ix z (ve_var 2) (ve_var 4)) (ve_var 3)))))))) (vss_one (vs_set 3 0 (ve_imm (ve_ix z (ve_var 2) (ve_var 4))) rfl (by decide) nd)) vss_nil)))
      (vss_one (vs_ret (VE.toO (ve_var 3))))))

abbrev s_law_levels : Stmt := top 37
theorem sc_law_levels : FnScope ["_law_rows", "_law_drains_here", "_law_level", "_law_cell", "_law_moved", "_law_row", "_law_column", "_law_least"] ["_law_rows", "_law_drains_here"] (defScope s_law_levels) := ⟨rfl, rfl, rfl, by decide +kernel, rfl, by decide +kernel, by decide +kernel⟩
theorem d_law_levels {P : Program} {w : World} {K : PySem.W.Frag} {mg : Str → Option Value} {base : Heap} {c : Ct} (hK : K = c.K) (bn : Bn mg) (fx : Fact K mg "_law_levels" s_law_levels ["_law_rows", "_law_drains_here"]) (lk : LandK K c.CL) (pk : PileK K c.CP) (d_law_least_beside : Dc P w K mg base 2 "_law_least_beside" (spP c .fz F_law_least_beside)) :
    Dc P w K mg base 3 "_law_levels" (spP c .d F_law_levels) := by
  obtain ⟨f, fd, F, hm, hb⟩ := fx.ex
  have nd := sc_law_levels.nd
  refine ⟨f, fd, _, fn_pure (M := mo [.v 1, .v 1, .o .d, .v 1, .v 0, .v 0, .v 0, .v 0]) (M' := mo [.v 1, .v 1, .o .d, .v 1, .v 0, .v 0, .v 0, .v 0]) F sc_law_levels hK (fun i hi => by (rcases i with _ | (_ | _)) <;> first | rfl | exact absurd hi (by simp)) (fun cdv A outer s H E z => ?_), hb, hm, F.kp⟩
  exact (vss_cons (vs_setO 2 vo_dct0 rfl nd)
      (vss_cons (vs_for z (vi_seq z (ve_var 1)) (by decide) (vg_name (al := 1) 3 rfl (by decide) (by decide) nd) (vss_one (vs_dput 2 z (Or.inl rfl) (ve_var 3) (ve_ix z (ve_ix z (ve_var 0) (ve_ix z (ve_var 3) ve_int)) (ve_ix z (ve_var 3) ve_int)))))
      (vss_cons (vs_set 4 0 ve_bl rfl (by decide) nd)
      (vss_cons (vs_while 100000 z (vt_val (ve_var 4)) (vss_cons (vs_set 4 0 ve_bl rfl (by decide) nd)
      (vss_one (vs_for z (vi_range1 (ve_len z (ve_var 0) (by rfl) bn.len) (by rfl) bn.range) (by decide) (vg_name (al := 0) 5 rfl (by decide) (by decide) nd) (vss_one (vs_for z (vi_range1 (ve_len z (ve_ix z (ve_var 0) ve_int) (by rfl) bn.len) (by rfl) bn.range) (by decide) (vg_name (al := 0) 6 rfl (by decide) (by decide) nd) (vss_cons (vs_set 7 0 (VO.toE .fz (vo_callD z d_law_least_beside (by decide) (va_arg (ve_var 0) (va_arg (ve_tup (va_cons (ve_var 5) (va_cons (ve_var 6) va_nil))) (va_arg (ve_var 2) va_nil))))) rfl (by decide) nd)
      (vss_one (vs_if (VW.vt (vw_and (vt_isnt (ve_ix z (ve_ix z (ve_var 0) (ve_var 5)) (ve_var 6)) ve_non) (vw_and1 (vt_isnt (ve_var 7) ve_non)))) (vss_cons (vs_set 7 0 (ve_max2 z (ve_var 7) (ve_ix z (ve_ix z (ve_var 0) (ve_var 5)) (ve_var 6)) (by rfl) bn.max) rfl (by decide) nd)
      (vss_one (vs_if (VW.vt (vw_or (vt_dnotin z (ve_tup (va_cons (ve_var 5) (va_cons (ve_var 6) va_nil))) (ve_var 2)) (vw_or1 (vt_lt (ve_var 7) (ve_ix z (ve_var 2) (ve_tup (va_cons (ve_var 5) (va_cons (ve_var 6) va_nil)))))))) (vss_cons (vs_dput 2 z (Or.inl rfl) (ve_tup (va_cons (ve_var 5) (va_cons (ve_var 6) va_nil))) (ve_var 7))
      (vss_one (vs_set 4 0 ve_bl rfl (by decide) nd))) vss_nil))) vss_nil)))))))))
      (vss_one (vs_retV 2 rfl))))))

abbrev s_law_whole : Stmt := top 26
theorem sc_law_whole : FnScope ["_law_found"] ["_law_found"] (defScope s_law_whole) := ⟨rfl, rfl, rfl, by decide +kernel, rfl, by decide +kernel, by decide +kernel⟩
theorem d_law_whole {P : Program} {w : World} {K : PySem.W.Frag} {mg : Str → Option Value} {base : Heap} {c : Ct} (hK : K = c.K) (bn : Bn mg) (fx : Fact K mg "_law_whole" s_law_whole ["_law_found"]) (lk : LandK K c.CL) (pk : PileK K c.CP) :
    Dc P w K mg base 1 "_law_whole" (spP c .fz F_law_whole) := by
  obtain ⟨f, fd, F, hm, hb⟩ := fx.ex
  have nd := sc_law_whole.nd
  refine ⟨f, fd, _, fn_pure (M := mo [.v 1]) (M' := mo [.v 1]) F sc_law_whole hK (fun i hi => by (rcases i with _ | _) <;> first | rfl | exact absurd hi (by simp)) (fun cdv A outer s H E z => ?_), hb, hm, F.kp⟩
  exact (vss_one (vs_ret (VE.toO (ve_and (ve_isT (T := "int") z (ve_var 0) (by rfl) bn.isinstance (by rfl) bn.int (by decide +kernel) (by decide) (by decide) (by decide +kernel)) (ve_one (ve_not (ve_isT (T := "bool") z (ve_var 0) (by rfl) bn.isinstance (by rfl) bn.bool (by decide +kernel) (by decide) (by decide) (by decide +kernel))))))))

abbrev s_law_same_depths : Stmt := top 40
theorem sc_law_same_depths : FnScope ["_law_found", "_law_deep", "_law_cell"] ["_law_found", "_law_deep"] (defScope s_law_same_depths) := ⟨rfl, rfl, rfl, by decide +kernel, rfl, by decide +kernel, by decide +kernel⟩
theorem d_law_same_depths {P : Program} {w : World} {K : PySem.W.Frag} {mg : Str → Option Value} {base : Heap} {c : Ct} (hK : K = c.K) (bn : Bn mg) (fx : Fact K mg "_law_same_depths" s_law_same_depths ["_law_found", "_law_deep"]) (lk : LandK K c.CL) (pk : PileK K c.CP) (d_law_whole : Dc P w K mg base 1 "_law_whole" (spP c .fz F_law_whole)) :
    Dc P w K mg base 2 "_law_same_depths" (spP c .fz F_law_same_depths) := by
  obtain ⟨f, fd, F, hm, hb⟩ := fx.ex
  have nd := sc_law_same_depths.nd
  refine ⟨f, fd, _, fn_pure (M := mo [.v 1, .v 1, .v 0]) (M' := mo [.v 1, .v 1, .v 0]) F sc_law_same_depths hK (fun i hi => by (rcases i with _ | (_ | _)) <;> first | rfl | exact absurd hi (by simp)) (fun cdv A outer s H E z => ?_), hb, hm, F.kp⟩
  exact (vss_cons (vs_if (VW.vt (vw_or (vt_not (vt_val (ve_isT (T := "dict") z (ve_var 0) (by rfl) bn.isinstance (by rfl) bn.dict (by decide +kernel) (by decide) (by decide) (by decide +kernel)))) (vw_or1 (vt_ne z (ve_len z (ve_var 0) (by rfl) bn.len) (ve_lenF z (ve_var 1) (by rfl) bn.len))))) (vss_one (vs_ret (VE.toO ve_bl))) vss_nil)
      (vss_cons (vs_for z (vi_fd z (ve_var 1)) (by decide) (vg_name (al := 0) 2 rfl (by decide) (by decide) nd) (vss_one (vs_if (VW.vt (vw_or (vt_dnotin z (ve_var 2) (ve_var 0)) (vw_or (vt_not (vt_val (VO.toE .fz (vo_callD z d_law_whole (by decide) (va_arg (ve_ix z (ve_var 0) (ve_var 2)) va_nil))))) (vw_or1 (vt_ne z (ve_ix z (ve_var 0) (ve_var 2)) (ve_ixF z (ve_var 1) (ve_var 2))))))) (vss_one (vs_ret (VE.toO ve_bl))) vss_nil)))
      (vss_one (vs_ret (VE.toO ve_bl)))))

abbrev s_law_pool : Stmt := top 38
theorem sc_law_pool : FnScope ["_law_rows", "_law_deep", "_law_cell", "_law_found", "_law_k", "_law_one"] ["_law_rows", "_law_deep", "_law_cell"] (defScope s_law_pool) := ⟨rfl, rfl, rfl, by decide +kernel, rfl, by decide +kernel, by decide +kernel⟩
theorem d_law_pool {P : Program} {w : World} {K : PySem.W.Frag} {mg : Str → Option Value} {base : Heap} {c : Ct} (hK : K = c.K) (bn : Bn mg) (fx : Fact K mg "_law_pool" s_law_pool ["_law_rows", "_law_deep", "_law_cell"]) (lk : LandK K c.CL) (pk : PileK K c.CP) (d_law_beside : Dc P w K mg base 1 "_law_beside" (spP c (.l .fz) F_law_beside)) :
    Dc P w K mg base 2 "_law_pool" (spP c (.l .fz) F_law_pool) := by
  obtain ⟨f, fd, F, hm, hb⟩ := fx.ex
  have nd := sc_law_pool.nd
  refine ⟨f, fd, _, fn_pure (M := mo [.v 1, .v 1, .v 1, .o (.l .fz), .v 0, .v 0]) (M' := mo [.v 1, .v 1, .v 1, .o (.l .fz), .v 0, .v 0]) F sc_law_pool hK (fun i hi => by (rcases i with _ | (_ | (_ | _))) <;> first | rfl | exact absurd hi (by simp)) (fun cdv A outer s H E z => ?_), hb, hm, F.kp⟩
  exact (vss_cons (vs_setO 3 (vo_lst (va_cons (ve_imm (ve_var 2)) va_nil)) rfl nd)
      (vss_cons (vs_for z (vi_seq z (VO.toE _ (vo_listRg z (ve_mul (ve_len z (ve_var 0) (by rfl) bn.len) (ve_len z (ve_ix z (ve_var 0) ve_int) (by rfl) bn.len)) (by rfl) bn.list (by rfl) bn.range))) (by decide) (vg_name (al := 0) 4 rfl (by decide) (by decide) nd) (vss_one (vs_if (vt_lt (ve_var 4) (ve_len z (ve_var 3) (by rfl) bn.len)) (vss_one (vs_for z (vi_seq z (VO.toE _ (vo_callD z d_law_beside (by decide) (va_arg (ve_var 0) (va_arg (ve_ix z (ve_var 3) (ve_var 4)) va_nil))))) (by decide) (vg_name (al := 0) 5 rfl (by decide) (by decide) nd) (vss_one (vs_if (VW.vt (vw_and (vt_lnotin z (ve_var 5) (ve_var 3)) (vw_and1 (vt_gt (ve_getF z (ve_var 1) (ve_var 5) ve_int) ve_int)))) (vss_one (vs_app 3 (ve_var 5) rfl)) vss_nil)))) vss_nil)))
      (vss_one (vs_ret (vo_sorted z (ve_var 3) (by rfl) bn.sorted)))))

abbrev s_law_pools : Stmt := top 39
theorem sc_law_pools : FnScope ["_law_rows", "_law_deep", "_law_due", "_law_seen", "_law_cell", "_law_one"] ["_law_rows", "_law_deep"] (defScope s_law_pools) := ⟨rfl, rfl, rfl, by decide +kernel, rfl, by decide +kernel, by decide +kernel⟩
theorem d_law_pools {P : Program} {w : World} {K : PySem.W.Frag} {mg : Str → Option Value} {base : Heap} {c : Ct} (hK : K = c.K) (bn : Bn mg) (fx : Fact K mg "_law_pools" s_law_pools ["_law_rows", "_law_deep"]) (lk : LandK K c.CL) (pk : PileK K c.CP) (d_law_pool : Dc P w K mg base 2 "_law_pool" (spP c (.l .fz) F_law_pool)) :
    Dc P w K mg base 3 "_law_pools" (spP c (.l .fz) F_law_pools) := by
  obtain ⟨f, fd, F, hm, hb⟩ := fx.ex
  have nd := sc_law_pools.nd
  refine ⟨f, fd, _, fn_pure (M := mo [.v 1, .v 1, .o (.l .fz), .o .d, .v 0, .v 0]) (M' := mo [.v 1, .v 1, .o (.l .fz), .o .d, .v 0, .v 0]) F sc_law_pools hK (fun i hi => by (rcases i with _ | (_ | _)) <;> first | rfl | exact absurd hi (by simp)) (fun cdv A outer s H E z => ?_), hb, hm, F.kp⟩
  exact (vss_cons (vs_setO 2 vo_lst0 rfl nd)
      (vss_cons (vs_setO 3 vo_dct0 rfl nd)
      (vss_cons (vs_for z (vi_seq z (VO.toE _ (vo_sorted z (VO.toE _ (vo_listF z (ve_var 1) (by rfl) bn.list)) (by rfl) bn.sorted))) (by decide) (vg_name (al := 0) 4 rfl (by decide) (by decide) nd) (vss_one (vs_if (VW.vt (vw_and (vt_gt (ve_ixF z (ve_var 1) (ve_var 4)) ve_int) (vw_and1 (vt_dnotin z (ve_var 4) (ve_var 3))))) (vss_cons (vs_app 2 (VO.toE _ (vo_callD z d_law_pool (by decide) (va_arg (ve_var 0) (va_arg (ve_var 1) (va_arg (ve_var 4) va_nil))))) rfl)
      (vss_one (vs_forR z (vir_ixO 2 z rfl (ve_neg ve_int)) (by decide) (vg_name (al := 0) 5 rfl (by decide) (by decide) nd) (vss_one (vs_dput 3 z (Or.inl rfl) (ve_var 5) ve_bl))))) vss_nil)))
      (vss_one (vs_retV 2 rfl)))))

abbrev s_law_same_cells : Stmt := top 27
theorem sc_law_same_cells : FnScope ["_law_found", "_law_due", "_law_one", "_law_cell"] ["_law_found", "_law_due"] (defScope s_law_same_cells) := ⟨rfl, rfl, rfl, by decide +kernel, rfl, by decide +kernel, by decide +kernel⟩
theorem d_law_same_cells {P : Program} {w : World} {K : PySem.W.Frag} {mg : Str → Option Value} {base : Heap} {c : Ct} (hK : K = c.K) (bn : Bn mg) (fx : Fact K mg "_law_same_cells" s_law_same_cells ["_law_found", "_law_due"]) (lk : LandK K c.CL) (pk : PileK K c.CP) (d_law_whole : Dc P w K mg base 1 "_law_whole" (spP c .fz F_law_whole)) :
    Dc P w K mg base 2 "_law_same_cells" (spP c .fz F_law_same_cells) := by
  obtain ⟨f, fd, F, hm, hb⟩ := fx.ex
  have nd := sc_law_same_cells.nd
  refine ⟨f, fd, _, fn_pure (M := mo [.v 1, .v 1, .v 1, .v 1]) (M' := mo [.v 1, .v 1, .v 1, .v 1]) F sc_law_same_cells hK (fun i hi => by (rcases i with _ | (_ | _)) <;> first | rfl | exact absurd hi (by simp)) (fun cdv A outer s H E z => ?_), hb, hm, F.kp⟩
  exact (vss_cons (vs_if (VW.vt (vw_or (vt_not (vt_val (ve_isT (T := "list") z (ve_var 0) (by rfl) bn.isinstance (by rfl) bn.list (by decide +kernel) (by decide) (by decide) (by decide +kernel)))) (vw_or1 (vt_ne z (ve_len z (ve_var 0) (by rfl) bn.len) (ve_len z (ve_var 1) (by rfl) bn.len))))) (vss_one (vs_ret (VE.toO ve_bl))) vss_nil)
      (vss_cons (vs_for z (vi_zip z (ve_var 0) (ve_var 1) (by rfl) bn.zip) (by decide) (vg_pair (al := 1) 2 3 z rfl rfl (by decide) (by decide) (by decide) (by decide) nd) (vss_cons (vs_if (VW.vt (vw_or (vt_not (vt_val (ve_isT (T := "tuple") z (ve_var 2) (by rfl) bn.isinstance (by rfl) bn.tuple (by decide +kernel) (by decide) (by decide) (by decide +kernel)))) (vw_or (vt_ne z (ve_len z (ve_var 2) (by rfl) bn.len) ve_int) (vw_or (vt_not (vt_val (VO.toE .fz (vo_callD z d_law_whole (by decide) (va_arg (ve_ix z (ve_var 2) ve_int) va_nil))))) (vw_or1 (vt_not (vt_val (VO.toE .fz (vo_callD z d_law_whole (by decide) (va_arg (ve_ix z (ve_var 2) ve_int) va_nil)))))))))) (vss_one (vs_ret (VE.toO ve_bl))) vss_nil)
      (vss_one (vs_if (VW.vt (vw_or (vt_ne z (ve_ix z (ve_var 2) ve_int) (ve_ix z (ve_var 3) ve_int)) (vw_or1 (vt_ne z (ve_ix z (ve_var 2) ve_int) (ve_ix z (ve_var 3) ve_int))))) (vss_one (vs_ret (VE.toO ve_bl))) vss_nil))))
      (vss_one (vs_ret (VE.toO ve_bl)))))

abbrev s_Land_heights : Stmt := inClass (top 15) 8
theorem sc_Land_heights : FnScope ["self", "row"] ["self"] (defScope s_Land_heights) := ⟨rfl, rfl, rfl, by decide +kernel, rfl, by decide +kernel, by decide +kernel⟩
theorem d_Land_heights {P : Program} {w : World} {K : PySem.W.Frag} {mg : Str → Option Value} {base : Heap} {c : Ct} (hK : K = c.K) (bn : Bn mg) (fx : FactM K c.CL "heights" "Land.heights" s_Land_heights ["self"]) (lk : LandK K c.CL) (pk : PileK K c.CP) :
    Dm P w K mg base 1 c.CL "heights" (spP c (.l (.l .fz)) F_Land_heights) := by
  obtain ⟨f, fd, F, mt, hb⟩ := fx.ex
  have nd := sc_Land_heights.nd
  refine ⟨f, fd, _, fn_pure (M := mo [.v 1, .v 0]) (M' := mo [.v 1, .v 0]) F sc_Land_heights hK (fun i hi => by (rcases i with _ | _) <;> first | rfl | exact absurd hi (by simp)) (fun cdv A outer s H E z => ?_), hb, mt⟩
  exact (vss_one (vs_ret (vo_lc 1 z nd (vi_seq z (ve_grid lk (ve_var 0))) (blkOk_by (own := [("row", 1)]) (N := ["self", "row"]) (sc := defScope s_Land_heights) (by decide +kernel)) (fun _ _ _ _ _ => pg_name (i := 1) nd rfl (by first | exact Or.inl rfl | exact Or.inr rfl)) (fun _ _ _ _ _ => vts_nil) (fun _ _ _ _ _ => (vo_list z.blk (ve_var 1) (by rfl) bn.list)))))

abbrev s_law : Stmt := top 41
theorem sc_law : FnScope ["_law_script", "_law_rows", "_law_drains_here", "_law_land_here", "_law_level", "_law_deep", "_law_cell", "_law_turn", "_law_found", "_law_whole_here", "_law_due", "_law_one", "_law_other"] ["_law_script"] (defScope s_law) := ⟨rfl, rfl, rfl, by decide +kernel, rfl, by decide +kernel, by decide +kernel⟩
theorem d_law {P : Program} {w : World} {K : PySem.W.Frag} {mg : Str → Option Value} {base : Heap} {c : Ct} {fa : Addr} {fd : FuncData} (hK : K = c.K) (bn : Bn mg) (F : Fun K "law" "law" s_law fa fd) (lk : LandK K c.CL) (pk : PileK K c.CP) (d_law_grid : Dc P w K mg base 3 "_law_grid" (spP c (.l (.l .fz)) F_law_grid)) (d_law_drains : Dc P w K mg base 2 "_law_drains" (spP c (.l .fz) F_law_drains)) (d_law_land : Dc P w K mg base 10 "_law_land" (spP c .land F_law_land)) (d_law_levels : Dc P w K mg base 3 "_law_levels" (spP c .d F_law_levels)) (d_depths : Dc P w K mg base 7 "depths" (spP c .d F_depths)) (d_law_same_depths : Dc P w K mg base 2 "_law_same_depths" (spP c .fz F_law_same_depths)) (d_volume : Dc P w K mg base 8 "volume" (spP c .fz F_volume)) (d_law_whole : Dc P w K mg base 1 "_law_whole" (spP c .fz F_law_whole)) (d_pools : Dc P w K mg base 8 "pools" (spP c (.l (.l .fz)) F_pools)) (d_law_pools : Dc P w K mg base 3 "_law_pools" (spP c (.l .fz) F_law_pools)) (d_law_same_cells : Dc P w K mg base 2 "_law_same_cells" (spP c .fz F_law_same_cells)) (d_Land_heights : Dm P w K mg base 1 c.CL "heights" (spP c (.l (.l .fz)) F_Land_heights)) (d_Land_drains : Dm P w K mg base 5 c.CL "drains" (spP c (.l .fz) F_Land_drains)) :
    FnOk P w K mg base (L2N.CX P w) 11 fa fd ["_law_script"] (spP c .fz F_law) := by
  have nd := sc_law.nd
  refine fn_pure (M := mo [.v 1, .v 0, .v 0, .o .land, .o .d, .o .d, .v 0, .v 0, .o .d, .v 0, .v 0, .v 0, .v 0]) (M' := mo [.v 1, .v 0, .v 0, .o .land, .o .d, .o .d, .v 0, .v 0, .o .d, .v 0, .v 0, .v 0, .v 0]) F sc_law hK (fun i hi => by (rcases i with _ | _) <;> first | rfl | exact absurd hi (by simp)) (fun cdv A outer s H E z => ?_)
  exact (vss_cons (vs_set 1 0 (VO.toE _ (vo_callD z d_law_grid (by decide) (va_arg (ve_var 0) va_nil))) rfl (by decide) nd)
      (vss_cons (vs_set 2 0 (VO.toE _ (vo_callD z d_law_drains (by decide) (va_arg (ve_var 0) (va_arg (ve_var 1) va_nil)))) rfl (by decide) nd)
      (vss_cons (vs_setO 3 (vo_callD z d_law_land (by decide) (va_arg (ve_var 1) (va_arg (ve_var 2) va_nil))) rfl nd)
      (vss_cons (vs_setO 4 (vo_callD z d_law_levels (by decide) (va_arg (ve_var 1) (va_arg (ve_var 2) va_nil))) rfl nd)
      (vss_cons (vs_setO 5 vo_dct0 rfl nd)
      (vss_lock 4 rfl
      (vss_cons (vs_for z (vi_fd z (ve_var 4)) (by decide) (vg_name (al := 0) 6 rfl (by decide) (by decide) nd) (vss_one (vs_dput 5 z (Or.inl rfl) (ve_var 6) (ve_sub (ve_ixF z (ve_var 4) (ve_var 6)) (ve_ix z (ve_ix z (ve_var 1) (ve_ix z (ve_var 6) ve_int)) (ve_ix z (ve_var 6) ve_int))))))
      (vss_lock 5 rfl
      (vss_cons (vs_for z (vi_range1 ve_int (by rfl) bn.range) (by decide) (vg_name (al := 0) 7 rfl (by decide) (by decide) nd) (vss_cons (vs_setO 8 (vo_callD z d_depths (by decide) (va_arg (ve_var 3) va_nil)) rfl nd)
      (vss_cons (vs_if (vt_not (vt_val (VO.toE .fz (vo_callD z d_law_same_depths (by decide) (va_arg (ve_var 8) (va_arg (ve_var 5) va_nil)))))) (vss_one (vs_ret (VE.toO ve_bl))) vss_nil)
      (vss_one (vs_clearD 8 rfl)))))
      (vss_cons (vs_set 9 0 (VO.toE .fz (vo_callD z d_volume (by decide) (va_arg (ve_var 3) va_nil))) rfl (by decide) nd)
      (vss_cons (vs_if (VW.vt (vw_or (vt_not (vt_val (VO.toE .fz (vo_callD z d_law_whole (by decide) (va_arg (ve_var 9) va_nil))))) (vw_or1 (vt_ne z (ve_var 9) (ve_sum z (VO.toE _ (vo_lc 6 z nd (vi_fd z (ve_var 5)) (blkOk_by (own := [("_law_cell", 6)]) (N := ["_law_script", "_law_rows", "_law_drains_here", "_law_land_here", "_law_level", "_law_deep", "_law_cell", "_law_turn", "_law_found", "_law_whole_here", "_law_due", "_law_one", "_law_other"]) (sc := defScope s_law) (by decide +kernel)) (fun _ _ _ _ _ => pg_name (i := 6) nd rfl (by first | exact Or.inl rfl | exact Or.inr rfl)) (fun _ _ _ _ _ => vts_nil) (fun _ _ _ _ _ => (VE.toO (ve_ixF z.blk (ve_var 5) (ve_var 6)))))) (by rfl) bn.sum))))) (vss_one (vs_ret (VE.toO ve_bl))) vss_nil)
      (vss_cons (vs_setOM 8 (vo_callD z d_pools (by decide) (va_arg (ve_var 3) va_nil)) (fun s h => nomatch h) nd)
      (vss_cons (vs_set 10 0 (VO.toE _ (vo_callD z d_law_pools (by decide) (va_arg (ve_var 1) (va_arg (ve_var 5) va_nil)))) rfl (by decide) nd)
      (vss_cons (vs_if (VW.vt (vw_or (vt_not (vt_val (ve_isT (T := "list") z (ve_var 8) (by rfl) bn.isinstance (by rfl) bn.list (by decide +kernel) (by decide) (by decide) (by decide +kernel)))) (vw_or1 (vt_ne z (ve_len z (ve_var 8) (by rfl) bn.len) (ve_len z (ve_var 10) (by rfl) bn.len))))) (vss_one (vs_ret (VE.toO ve_bl))) vss_nil)
      (vss_cons (vs_zipClr 8 11 12 z rfl rfl rfl (ve_var 10) (by decide) (vt_not (vt_val (VO.toE .fz (vo_callD z d_law_same_cells (by decide) (va_arg (ve_var 11) (va_arg (ve_var 12) va_nil)))))) (VE.toO ve_bl) nd (hmz := bn.zip))
      (vss_cons (vs_if (vt_ne z (VO.toE _ (vo_callD z d_pools (by decide) (va_arg (ve_var 3) va_nil))) (ve_var 10)) (vss_one (vs_ret (VE.toO ve_bl))) vss_nil)
      (vss_one (vs_ret (VE.toO (ve_and (ve_eq z (VO.toE _ (vo_me0 (kd := .land) z lk.cl d_Land_heights (by decide) (by decide) (ve_var 3))) (ve_var 1)) (ve_one (ve_eq z (VO.toE _ (vo_me0 (kd := .land) z lk.cl d_Land_drains (by decide) (by decide) (ve_var 3))) (ve_var 2)))))))))))))))))))))))

end Pg
set_option linter.all false
set_option maxRecDepth 100000
namespace VS
open PySem L2
variable [Exs]
abbrev Cell := Int × Int
def cellD (p : Cell) : D := .tup [.int p.1, .int p.2]
def inb (R C : Int) (p : Cell) : Bool := decide (0 ≤ p.1) && decide (p.1 < R) && (decide (0 ≤ p.2) && decide (p.2 < C))
def rowc (n : Nat) (r : Nat) : List Cell := (List.range n).map fun (c : Nat) => ((r : Int), (c : Int))
def blkc (n : Nat) (p : List Nat) : List Cell := (p.map (rowc n)).flatten
@[simp] theorem blkc_nil (n : Nat) : blkc n [] = [] := rfl
@[simp] theorem blkc_snoc (n : Nat) (p : List Nat) (b : Nat) : blkc n (p ++ [b]) = blkc n p ++ rowc n b := by simp [blkc]
def cellsL (R C : Int) : List Cell := blkc C.toNat (List.range R.toNat)

def flatD : D → Bool
  | .fd _ => false
  | .land _ => false
  | .pile _ => false
  | .raw => false
  | _ => true
def thingD : D → Bool
  | .fd _ => false
  | .land _ => false
  | .pile _ => false
  | .raw => false
  | .tup [x, y] => flatD x && flatD y
  | _ => true
def intOf : D → Option Int
  | .int i => some i
  | _ => none
def cellOf : D → Option Cell
  | .tup [x, y] => match intOf x, intOf y with
    | some i, some j => some (i, j)
    | _, _ => none
  | _ => none
def isCell (R C : Int) (d : D) : Bool := match cellOf d with
  | some p => inb R C p
  | none => false
theorem intOf_eq {x : D} {i : Int} (h : intOf x = some i) : x = .int i := by
  cases x <;> simp [intOf] at h
  rw [h]
@[simp] theorem whole_int (i : Int) : F_is_whole [.int i] = .ok (.bl true) := rfl
@[simp] theorem whole_bl (i : Bool) : F_is_whole [.bl i] = .ok (.bl false) := rfl
@[simp] theorem whole_str (i : Str) : F_is_whole [.str i] = .ok (.bl false) := rfl
@[simp] theorem whole_non : F_is_whole [.non] = .ok (.bl false) := rfl
@[simp] theorem whole_tup (l) : F_is_whole [.tup l] = .ok (.bl false) := rfl
@[simp] theorem whole_lst (l) : F_is_whole [.lst l] = .ok (.bl false) := rfl

theorem lies_pair (R C i j : Int) : F_lies_in [.int R, .int C, .tup [.int i, .int j]] = .ok (.bl (inb R C (i, j))) := by
  simp [F_lies_in, runF, g_lies_in, startD, isTy, inb]
  by_cases h1 : 0 ≤ i <;> by_cases h2 : i < R <;> by_cases h3 : 0 ≤ j <;> by_cases h4 : j < C <;> simp [h1, h2, h3, h4]
theorem lies_cell (R C : Int) (p : Cell) : F_lies_in [.int R, .int C, cellD p] = .ok (.bl (inb R C p)) := lies_pair R C p.1 p.2
theorem whole_any {x : D} (h : flatD x = true) : F_is_whole [x] = .ok (.bl (intOf x).isSome) := by
  cases x <;> first | rfl | cases h
theorem tup3 (x y z : D) (l : List D) : decide ((((l.length : Int) + 1 + 1 + 1)) = 2) = false := by simp; omega
theorem lies_any (R C : Int) {d : D} (h : thingD d = true) : F_lies_in [.int R, .int C, d] = .ok (.bl (isCell R C d)) := by
  cases d with
  | tup l =>
    rcases l with _ | ⟨x, _ | ⟨y, _ | ⟨z, l⟩⟩⟩
    · simp [F_lies_in, runF, g_lies_in, startD, isTy, isCell, cellOf]
    · simp [F_lies_in, runF, g_lies_in, startD, isTy, isCell, cellOf]
    · simp [thingD] at h
      cases hx : intOf x with
      | none => simp [F_lies_in, runF, g_lies_in, startD, isTy, whole_any h.1, whole_any h.2, hx, isCell, cellOf]
      | some i => cases hy : intOf y with
        | none => simp [F_lies_in, runF, g_lies_in, startD, isTy, whole_any h.1, whole_any h.2, hx, hy, isCell, cellOf]
        | some j =>
          cases intOf_eq hx; cases intOf_eq hy
          exact lies_pair R C i j
    · simp [F_lies_in, runF, g_lies_in, startD, isTy, tup3 x y z l, isCell, cellOf]
  | fd l => cases h
  | land l => cases h
  | pile l => cases h
  | raw => cases h
  | _ => simp [F_lies_in, runF, g_lies_in, startD, isTy, isCell, cellOf]
theorem pre_len {β : Type} {l p q : List β} {b : β} (h : l = p ++ b :: q) : p.length < l.length := by rw [h]; simp
theorem cells_inner (R C : D) (r n : Nat) (acc : List Cell) (x : Option D) (h : acc.length + n < 100000) :
    sFor.go (gN 4) g_all_cells_1 ((List.range n).map fun (i : Nat) => D.int (i : Int)) [some R, some C, some (.lst (acc.map cellD)), some (.int (r : Int)), x] =
    .ok (.nx [some R, some C, some (.lst ((acc ++ rowc n r).map cellD)), some (.int (r : Int)), lastD (fun (i : Nat) => D.int (i : Int)) x (List.range n)]) := by
  have := for_all (s := gN 4) (g := g_all_cells_1) (fun (i : Nat) => D.int (i : Int)) (fun p => [some R, some C, some (.lst ((acc ++ p.map fun (c : Nat) => ((r : Int), (c : Int))).map cellD)), some (.int (r : Int)), lastD (fun (i : Nat) => D.int (i : Int)) x p]) (List.range n) (fun p b q e => by
    have hl := pre_len e
    rw [List.length_range] at hl
    have hz : decide (acc.length + p.length < 100000) = true := decide_eq_true (by omega)
    simp [g_all_cells_1, hz, cellD])
  simpa [rowc] using this
theorem blkc_len {n : Nat} (p : List Nat) : (blkc n p).length = p.length * n := by
  induction p with
  | nil => simp
  | cons a p ih =>
    have : blkc n (a :: p) = rowc n a ++ blkc n p := by simp [blkc]
    rw [this, List.length_append, ih]; simp [Nat.succ_mul, Nat.add_comm, rowc]
theorem all_cells_eq (R C : Int) (hR : R ≤ 100) (hC : C ≤ 100) (hR0 : 0 ≤ R) (hC0 : 0 ≤ C) : F_all_cells [.int R, .int C] = .ok (.lst ((cellsL R C).map cellD)) := by
  have b1 : (decide (-4611686018427387904 ≤ R) && decide (R < 4611686018427387904)) = true := by simp; omega
  have b2 : (decide (-4611686018427387904 ≤ C) && decide (C < 4611686018427387904)) = true := by simp; omega
  simp [F_all_cells, runF, g_all_cells, startD]
  rw [b1]
  simp [rngD_map]
  have h := for_all (s := gN 3) (g := g_all_cells_2) (fun (i : Nat) => D.int (i : Int))
    (fun p => [some (.int R), some (.int C), some (.lst ((blkc C.toNat p).map cellD)), lastD (fun (i : Nat) => D.int (i : Int)) none p, p.foldl (fun x _ => lastD (fun (i : Nat) => D.int (i : Int)) x (List.range C.toNat)) none]) (List.range R.toNat) (fun p b q e => by
    have hl := pre_len e
    rw [List.length_range] at hl
    simp [g_all_cells_2, rngD_map]
    rw [b2]
    simp only [gd_true, O.bind_ok]
    rw [cells_inner]
    · simp
    · rw [blkc_len]
      have : p.length * C.toNat ≤ 100 * 100 := Nat.mul_le_mul (by omega) (by omega)
      omega)
  simp only [List.map_nil, blkc_nil, lastD_nil, List.foldl_nil] at h
  rw [h]
  simp [cellsL]

def around (p : Cell) : List Cell := [(p.1 - 1, p.2), (p.1, p.2 - 1), (p.1, p.2 + 1), (p.1 + 1, p.2)]
def besideL (R C : Int) (p : Cell) : List Cell := (around p).filter (inb R C)
theorem beside_eq (R C : Int) (p : Cell) : F_beside [.int R, .int C, cellD p] = .ok (.lst ((besideL R C p).map cellD)) := by
  simp [F_beside, runF, g_beside, startD, cellD]
  rw [show [D.tup [D.int (p.fst - 1), D.int p.snd], D.tup [D.int p.fst, D.int (p.snd - 1)], D.tup [D.int p.fst, D.int (p.snd + 1)], D.tup [D.int (p.fst + 1), D.int p.snd]] = (around p).map cellD from rfl, cGo_map cellD (inb R C) cellD]
  · rfl
  · intro b hb
    simp [g_beside_1, lies_cell]
  · intro b hb h
    simp [g_beside_2]
/-! lands -/
def keyP (p : Cell) : List Key := [.inl p.1, .inl p.2]
@[simp] theorem keyD_cell (p : Cell) : keyD (cellD p) = some (keyP p) := rfl
@[simp] theorem keyD_pair (i j : Int) : keyD (.tup [.int i, .int j]) = some (keyP (i, j)) := rfl
@[simp] theorem imm_cell (p : Cell) : (cellD p).imm = true := by simp [cellD]
@[simp] theorem imm_hD (h : Option Int) : (hD h).imm = true := by cases h <;> simp [hD]
@[simp] theorem immA_hD : ∀ r : List (Option Int), immA (r.map hD) = true
  | [] => by simp
  | h :: r => by simp [immA_hD r]
@[simp] theorem thing_cell (p : Cell) : thingD (cellD p) = true := rfl
@[simp] theorem isCell_cell (R C : Int) (p : Cell) : isCell R C (cellD p) = inb R C p := rfl
@[simp] theorem len_row (r : List (Option Int)) : lenD (rowD r) = .ok (.int r.length) := by simp [rowD]
@[simp] theorem ty_row (r : List (Option Int)) : tyN (rowD r) = some "list" := rfl
theorem hOs_map : ∀ r : List (Option Int), hOs (r.map hD) = some r
  | [] => rfl
  | h :: r => by
    have := hOs_map r
    simp only [List.map_cons, hOs, this]
    cases h <;> rfl
theorem gridO_map : ∀ g : List (List (Option Int)), gridO (g.map rowD) = some g
  | [] => rfl
  | r :: g => by
    have := gridO_map g
    show (match hOs (r.map hD), gridO (g.map rowD) with
      | some r, some rs => some (r :: rs)
      | _, _ => none) = _
    rw [hOs_map, this]
/-- a grid of R rows of C cells -/
structure GOk (g : List (List (Option Int))) (R C : Nat) : Prop where
  r1 : 1 ≤ R
  r30 : R ≤ 30
  c1 : 1 ≤ C
  c30 : C ≤ 30
  len : g.length = R
  row : ∀ r ∈ g, r.length = C
theorem GOk.hd {g : List (List (Option Int))} {R C : Nat} (h : GOk g R C) : (g.headD []).length = C := by
  cases g with
  | nil => have := h.len; have := h.r1; simp at *; omega
  | cons r g => exact h.row r (by simp)
theorem GOk.hd' {g : List (List (Option Int))} {R C : Nat} (h : GOk g R C) : (g.head?.getD []).length = C := by
  have := h.hd
  rwa [List.headD_eq_head?_getD] at this
def getG (g : List (List (Option Int))) (p : Cell) : Option Int := (g.getD p.1.toNat []).getD p.2.toNat none
def hOk : Option Int → Bool
  | none => true
  | some i => decide (0 ≤ i) && decide (i ≤ 1000000000)
def gOk (g : List (List (Option Int))) : Prop := ∀ r ∈ g, ∀ h ∈ r, hOk h = true
@[simp] theorem is_height_h (h : Option Int) : F_is_height [hD h] = .ok (.bl (hOk h)) := by
  cases h with
  | none => rfl
  | some i =>
    simp [F_is_height, runF, g_is_height, startD, hD, hOk]
    by_cases h1 : 0 ≤ i <;> simp [h1]
theorem need_any {L : LandD} {R C : Nat} (hg : GOk L.g R C) {d : D} (hd : thingD d = true) : F_Land_need [.land L, d] = if isCell R C d = true then .ok .non else .exc (.ref Exs.NoCell) := by
  have h := lies_any (R : Int) (C : Int) hd
  simp [F_Land_need, runF, g_Land_need, startD, hg.len, hg.hd', h]
  by_cases hc : isCell R C d = true <;> simp [hc]
theorem inb_nat {R C : Nat} {p : Cell} (h : inb R C p = true) : ∃ i j : Nat, p = ((i : Int), (j : Int)) ∧ i < R ∧ j < C := by
  unfold inb at h
  simp only [Bool.and_eq_true, decide_eq_true_eq] at h
  refine ⟨p.1.toNat, p.2.toNat, ?_, by omega, by omega⟩
  obtain ⟨a, b⟩ := p
  simp only at h ⊢
  rw [Int.toNat_of_nonneg h.1.1, Int.toNat_of_nonneg h.2.1]
theorem get_at {g : List (List (Option Int))} {R C : Nat} (hg : GOk g R C) {i j : Nat} (hi : i < R) (hj : j < C) : ∃ r, g[i]? = some r ∧ r[j]? = some (getG g (i, j)) ∧ r.length = C := by
  have h1 : i < g.length := by rw [hg.len]; exact hi
  have h2 : g[i].length = C := hg.row _ (List.getElem_mem h1)
  refine ⟨g[i], List.getElem?_eq_getElem h1, ?_, h2⟩
  unfold getG
  simp [List.getD, h1, h2, hj]
theorem height_eq {L : LandD} {R C : Nat} (hg : GOk L.g R C) {p : Cell} (hp : inb R C p = true) : F_Land_height [.land L, cellD p] = .ok (hD (getG L.g p)) := by
  obtain ⟨i, j, rfl, hi, hj⟩ := inb_nat hp
  obtain ⟨r, e1, e2, e3⟩ := get_at hg hi hj
  have hn := need_any hg (thing_cell ((i : Int), (j : Int)))
  rw [isCell_cell, if_pos hp] at hn
  simp [F_Land_height, runF, g_Land_height, startD, hn]
  simp [cellD, e1, rowD, e2]
/-! the drains -/
def openB (o : List (List Key × Bool)) (p : Cell) : Bool := ((o.find? fun q => decide (q.1 = keyP p)).map (·.2)).getD false
theorem look_open (o : List (List Key × Bool)) (p : Cell) : (lookD (o.map fun q => (q.1, D.bl q.2)) (keyP p)).getD (.bl false) = .bl (openB o p) := by
  unfold lookD openB
  rw [List.find?_map]
  show (Option.map _ (Option.map _ (List.find? (fun q => decide (q.1 = keyP p)) o))).getD _ = _
  cases o.find? fun q => decide (q.1 = keyP p) <;> rfl
theorem is_drain_eq {L : LandD} {R C : Nat} (hg : GOk L.g R C) {p : Cell} (hp : inb R C p = true) : F_Land_is_drain [.land L, cellD p] = .ok (.bl (openB L.o p)) := by
  have hn := need_any hg (thing_cell p)
  rw [isCell_cell, if_pos hp] at hn
  simp [F_Land_is_drain, runF, g_Land_is_drain, startD, hn, look_open]
theorem cells_in (R C : Nat) : ∀ p ∈ cellsL R C, inb R C p = true := by
  intro p hp
  simp only [cellsL, blkc, List.mem_flatten, List.mem_map, List.mem_range, Int.toNat_natCast] at hp
  obtain ⟨l, ⟨r, hr, rfl⟩, hp⟩ := hp
  simp only [rowc, List.mem_map, List.mem_range] at hp
  obtain ⟨c, hc, rfl⟩ := hp
  simp [inb]; omega
def drainsL (L : LandD) (R C : Nat) : List Cell := (cellsL R C).filter (openB L.o)
theorem cells_len (R C : Nat) : (cellsL R C).length = R * C := by simp [cellsL, blkc_len]
theorem cells_few {R C : Nat} (h : R ≤ 30) (h2 : C ≤ 30) : (cellsL R C).length ≤ 900 := by
  rw [cells_len]
  exact Nat.mul_le_mul h h2
theorem drains_eq {L : LandD} {R C : Nat} (hg : GOk L.g R C) : F_Land_drains [.land L] = .ok (.lst ((drainsL L R C).map cellD)) := by
  have ha := all_cells_eq (R : Int) (C : Int) (by have := hg.r30; omega) (by have := hg.c30; omega) (by omega) (by omega)
  refine runF_rt rfl (by decide) (ret_eq (eLc_eq (ds := (cellsL R C).map cellD) ?_ (by simp [startD]) ?_ ?_))
  · have e : (aCons (e1 rowsD (eVar 0)) (aCons (e1 colsD (eVar 0)) aNil)) (startD 2 [.land L]) = .ok [.int L.g.length, .int (L.g.headD []).length] := rfl
    rw [iSeq_ap, eCall_ap, e, hg.len, hg.hd, O.bind_ok, ha]
    rfl
  · rw [List.length_map]
    exact Nat.le_trans (cells_few hg.r30 hg.c30) (by decide)
  · rw [cGo_map cellD (openB L.o) cellD]
    · simp only [drainsL]
    · intro p hp
      simp [startD, g_Land_drains_1, is_drain_eq hg (cells_in R C p hp)]
    · intro p hp _
      simp [startD, g_Land_drains_2]
theorem heights_eq {L : LandD} {R C : Nat} (hg : GOk L.g R C) : F_Land_heights [.land L] = .ok (.lst (L.g.map rowD)) := by
  have hl : L.g.length ≤ 100000 := by rw [hg.len]; have := hg.r30; omega
  simp [F_Land_heights, runF, g_Land_heights, startD, hl]
  rw [cGo_map rowD (fun _ => true) rowD]
  · rw [List.filter_eq_self.mpr fun _ _ => rfl]
    rfl
  · intro r _; simp
  · intro r _ _
    simp [g_Land_heights_1, rowD, listD]
/-! a land made -/
theorem is_heightD {d : D} (h : ∃ x, d = hD x ∧ hOk x = true) : F_is_height [d] = .ok (.bl true) := by
  obtain ⟨x, rfl, hx⟩ := h
  rw [is_height_h, hx]
theorem init_eq {g : List (List (Option Int))} {R C : Nat} (hg : GOk g R C) (hh : gOk g) : F_Land_init [.raw, .lst (g.map rowD)] = .ok (.rt .non [.land ⟨g, []⟩, .non]) := by
  have r1 : 1 ≤ g.length := by rw [hg.len]; exact hg.r1
  have r30 : g.length ≤ 30 := by rw [hg.len]; exact hg.r30
  have c1 := hg.c1
  have c30 := hg.c30
  obtain ⟨g0, gt, rfl⟩ : ∃ a t, g = a :: t := by
    cases g with
    | nil => simp at r1
    | cons a t => exact ⟨a, t, rfl⟩
  have hc0 : g0.length = C := hg.row g0 (by simp)
  let I : Rho → Prop := fun ρ => ∃ x y, ρ = [some .raw, some (.lst ((g0 :: gt).map rowD)), x, y]
  obtain ⟨ρ1, e1, x1, y1, rfl⟩ := for_inv (I := I) (s := gN 2) (g := g_Land_init_1) (ds := (g0 :: gt).map rowD) (ρ := [some .raw, some (.lst ((g0 :: gt).map rowD)), none, none]) (fun d hd ρ hI => by
    obtain ⟨x, y, rfl⟩ := hI
    obtain ⟨r, hr, rfl⟩ := List.mem_map.mp hd
    have hl : r.length = C := hg.row r hr
    refine ⟨[some .raw, some (.lst ((g0 :: gt).map rowD)), some (rowD r), y], ?_, some (rowD r), y, rfl⟩
    have e2 : decide ((r.length : Int) ≤ 30) = true := by rw [hl]; simp; omega
    have e3 : decide ((1 : Int) ≤ (r.length : Int)) = true := by rw [hl]; simp; omega
    have e4 : decide ((r.length : Int) = (g0.length : Int)) = true := by rw [hl, hc0]; simp
    have e3' : (1 : Int) ≤ (r.length : Int) := of_decide_eq_true e3
    simp [g_Land_init_1, isTy, e2, e3', e4]) ⟨none, none, rfl⟩
  obtain ⟨ρ2, e2, x2, y2, rfl⟩ := for_inv (I := I) (s := gN 2) (g := g_Land_init_3) (ds := (g0 :: gt).map rowD) (ρ := [some .raw, some (.lst ((g0 :: gt).map rowD)), x1, y1]) (fun d hd ρ hI => by
    obtain ⟨x, y, rfl⟩ := hI
    obtain ⟨r, hr, rfl⟩ := List.mem_map.mp hd
    obtain ⟨ρ3, e3, y3, rfl⟩ := for_inv (I := fun ρ => ∃ y, ρ = [some .raw, some (.lst ((g0 :: gt).map rowD)), some (rowD r), y]) (s := gN 3) (g := g_Land_init_2) (ds := r.map hD) (ρ := [some .raw, some (.lst ((g0 :: gt).map rowD)), some (rowD r), y]) (fun d hd ρ hI => by
      obtain ⟨y, rfl⟩ := hI
      obtain ⟨h, hh', rfl⟩ := List.mem_map.mp hd
      have := hh r hr h hh'
      exact ⟨[some .raw, some (.lst ((g0 :: gt).map rowD)), some (rowD r), some (hD h)], by simp [g_Land_init_2, this], _, rfl⟩) ⟨y, rfl⟩
    refine ⟨_, ?_, some (rowD r), y3, rfl⟩
    have hg0 : gN 2 (rowD r) [some .raw, some (.lst ((g0 :: gt).map rowD)), x, y] = .ok [some .raw, some (.lst ((g0 :: gt).map rowD)), some (rowD r), y] := by simp
    rw [hg0, O.bind_ok]
    exact sFor_eq (ds := r.map hD) rfl e3) ⟨x1, y1, rfl⟩
  refine runM_nx rfl (by decide) (ρ := [some (.land ⟨g0 :: gt, []⟩), some (.lst ((g0 :: gt).map rowD)), x2, y2]) ?_ rfl
  unfold g_Land_init
  refine seq_to (ρ1 := [some .raw, some (.lst ((g0 :: gt).map rowD)), none, none]) ?_ ?_
  · have r30' : gt.length + 1 ≤ 30 := r30
    have h1 : decide ((gt.length : Int) + 1 ≤ 30) = true := decide_eq_true (by omega)
    have h2 : (1 : Int) ≤ (gt.length : Int) + 1 := by omega
    simp [startD, isTy, h1, h2]
  refine seq_to (sFor_eq (by rfl) e1) ?_
  refine seq_to (sFor_eq (by rfl) e2) ?_
  have hlc : eLc (iSeq (eVar 1)) 2 tTr g_Land_init_4 [some .raw, some (.lst ((g0 :: gt).map rowD)), x2, y2] = .ok (.lst ((g0 :: gt).map rowD)) := by
    refine eLc_eq (ds := (g0 :: gt).map rowD) rfl (by simp) (by rw [List.length_map]; omega) ?_
    rw [cGo_map rowD (fun _ => true) rowD]
    · rw [List.filter_eq_self.mpr fun _ _ => rfl]
    · intro r _; simp
    · intro r _ _
      simp [g_Land_init_4, rowD, listD]
  unfold sLand
  rw [hlc]
  have hgo := gridO_map (g0 :: gt)
  simp only [List.map_cons] at hgo
  simp [hgo]
/-! deeds on a land -/
theorem ixN_nat {n j : Nat} (h : j < n) : ixN n (j : Int) = some j := by
  unfold ixN
  rw [if_pos (by omega), if_pos (by omega)]
  simp
theorem putL_len {β : Type} (o : List (List Key × β)) (k : List Key) (v : β) : (putL o k v).length ≤ o.length + 1 := by
  unfold putL
  split <;> simp
theorem opened_eq {L : LandD} {R C : Nat} (hg : GOk L.g R C) {p : Cell} (hp : inb R C p = true) (hs : getG L.g p ≠ none) (ho : L.o.length < 100000) :
    F_Land_opened [.land L, cellD p] = .ok (.rt .non [.land ⟨L.g, putL L.o (keyP p) true⟩, .non]) := by
  obtain ⟨i, j, rfl, hi, hj⟩ := inb_nat hp
  obtain ⟨r, e1, e2, e3⟩ := get_at hg hi hj
  have hn := need_any hg (thing_cell ((i : Int), (j : Int)))
  rw [isCell_cell, if_pos hp] at hn
  obtain ⟨x, hx⟩ := Option.ne_none_iff_exists'.mp hs
  rw [hx] at e2
  refine runM_nx (ρ := [some (.land ⟨L.g, putL L.o (keyP ((i : Int), (j : Int))) true⟩), some (cellD ((i : Int), (j : Int)))]) rfl (by decide) ?_ rfl
  unfold g_Land_opened
  refine seq_to (ρ1 := [some (.land L), some (cellD ((i : Int), (j : Int)))]) (by simp [startD, hn]) ?_
  refine seq_to (ρ1 := [some (.land L), some (cellD ((i : Int), (j : Int)))]) (by simp [cellD, e1, rowD, e2, hD]) ?_
  simp [ho]
/-! the table of drains -/
theorem keyP_inj {p q : Cell} (h : keyP p = keyP q) : p = q := by
  unfold keyP at h
  simp at h
  exact Prod.ext h.1 h.2
theorem find_putL (o : List (List Key × Bool)) (k k' : List Key) (b : Bool) : ((putL o k b).find? fun q => decide (q.1 = k')).map (·.2) = if k' = k then some b else (o.find? fun q => decide (q.1 = k')).map (·.2) := by
  unfold putL
  split
  · rename_i ha
    induction o with
    | nil => simp at ha
    | cons a o ih =>
      rw [List.map_cons, List.find?_cons, List.find?_cons]
      by_cases h1 : a.1 = k
      · simp only [h1, if_true]
        by_cases h2 : k' = k
        · simp [h2]
        · have : ¬ k = k' := fun e => h2 e.symm
          simp only [this, decide_false, h2, if_false]
          by_cases ha' : (o.any fun kv => decide (kv.1 = k)) = true
          · rw [ih ha', if_neg h2]
          · have e : o.map (fun kv => if kv.1 = k then (kv.1, b) else kv) = o.map id := List.map_congr_left fun q hq => if_neg fun e => ha' (List.any_eq_true.mpr ⟨q, hq, decide_eq_true e⟩)
            rw [e, List.map_id]
      · simp only [if_neg h1]
        have ha' : (o.any fun kv => decide (kv.1 = k)) = true := by
          rw [List.any_cons, Bool.or_eq_true] at ha
          rcases ha with ha | ha
          · exact absurd (of_decide_eq_true ha) h1
          · exact ha
        by_cases h2 : a.1 = k'
        · have : ¬ k' = k := fun e => h1 (h2.trans e)
          simp [h2, this]
        · simp only [h2, decide_false]
          exact ih ha'
  · rename_i ha
    rw [List.find?_append]
    by_cases h2 : k' = k
    · have : o.find? (fun q => decide (q.1 = k')) = none := by
        rw [List.find?_eq_none]
        intro q hq hd
        exact ha (List.any_eq_true.mpr ⟨q, hq, by rw [← h2]; exact hd⟩)
      rw [this, if_pos h2]
      simp [h2]
    · rw [if_neg h2]
      have : ¬ k = k' := fun e => h2 e.symm
      cases hf : o.find? (fun q => decide (q.1 = k')) <;> simp [this]
theorem open_put (o : List (List Key × Bool)) (p q : Cell) (b : Bool) : openB (putL o (keyP p) b) q = if q = p then b else openB o q := by
  unfold openB
  rw [find_putL]
  by_cases h : q = p
  · rw [if_pos (by rw [h]), if_pos h]; rfl
  · rw [if_neg fun e => h (keyP_inj e), if_neg h]
@[simp] theorem open_nil (p : Cell) : openB [] p = false := rfl
@[simp] theorem atI_zero {α : Type} (x : α) (l : List α) : atI (x :: l) 0 = some x := by
  have := atI_ofNat (x :: l) 0
  simpa using this
@[simp] theorem ixN_zero (n : Nat) : ixN (n + 1) 0 = some 0 := by
  have := ixN_nat (n := n + 1) (j := 0) (by omega)
  simpa using this
def setG (g : List (List (Option Int))) (p : Cell) (h : Option Int) : List (List (Option Int)) := g.set p.1.toNat ((g.getD p.1.toNat []).set p.2.toNat h)
theorem setG_ok {g : List (List (Option Int))} {R C : Nat} (hg : GOk g R C) (p : Cell) (h : Option Int) : GOk (setG g p h) R C := by
  refine ⟨hg.r1, hg.r30, hg.c1, hg.c30, by simp [setG, hg.len], fun r hr => ?_⟩
  unfold setG at hr
  by_cases hi : p.1.toNat < g.length
  · rcases List.mem_or_eq_of_mem_set hr with h1 | h1
    · exact hg.row r h1
    · rw [h1, List.length_set, List.getD_eq_getElem?_getD, List.getElem?_eq_getElem hi]
      exact hg.row _ (List.getElem_mem hi)
  · rw [List.set_eq_of_length_le (by omega)] at hr
    exact hg.row r hr
theorem raised_eq {L : LandD} {R C : Nat} (hg : GOk L.g R C) {p : Cell} (hp : inb R C p = true) {h : Option Int} (hh : hOk h = true) (ho : L.o.length < 100000) :
    F_Land_raised [.land L, cellD p, hD h] = .ok (.rt .non [.land ⟨setG L.g p h, if h = none then putL L.o (keyP p) false else L.o⟩, .non, .non]) := by
  obtain ⟨i, j, rfl, hi, hj⟩ := inb_nat hp
  obtain ⟨r, e1, e2, e3⟩ := get_at hg hi hj
  have hn := need_any hg (thing_cell ((i : Int), (j : Int)))
  rw [isCell_cell, if_pos hp] at hn
  have hi' : i < L.g.length := by rw [hg.len]; exact hi
  have hgd : L.g.getD i [] = r := by rw [List.getD_eq_getElem?_getD, e1]; rfl
  have hgd' : L.g[i]?.getD [] = r := by rw [e1]; rfl
  have hset : hOs ((r.map hD).set j (hD h)) = some (r.set j h) := by rw [← List.map_set, hOs_map]
  refine runM_nx (ρ := [some (.land ⟨setG L.g ((i : Int), (j : Int)) h, if h = none then putL L.o (keyP ((i : Int), (j : Int))) false else L.o⟩), some (cellD ((i : Int), (j : Int))), some (hD h)]) rfl (by decide) ?_ rfl
  unfold g_Land_raised
  refine seq_to (ρ1 := [some (.land L), some (cellD ((i : Int), (j : Int))), some (hD h)]) (by simp [startD, hn]) ?_
  refine seq_to (ρ1 := [some (.land L), some (cellD ((i : Int), (j : Int))), some (hD h)]) (by simp [hh]) ?_
  refine seq_to (ρ1 := [some (.land ⟨setG L.g ((i : Int), (j : Int)) h, L.o⟩), some (cellD ((i : Int), (j : Int))), some (hD h)]) ?_ ?_
  · simp [cellD, atI_ofNat, e1, ixN_nat (show j < r.length by omega), pGrid, ixN_nat hi', hset, hgd', setG]
  · cases h with
    | none => simp [hD, ho, cellD]
    | some x => simp [hD]
theorem shut_eq {L : LandD} {R C : Nat} (hg : GOk L.g R C) {p : Cell} (hp : inb R C p = true) (hs : openB L.o p = true) (ho : L.o.length < 100000) :
    F_Land_shut [.land L, cellD p] = .ok (.rt .non [.land ⟨L.g, putL L.o (keyP p) false⟩, .non]) := by
  have hn := need_any hg (thing_cell p)
  rw [isCell_cell, if_pos hp] at hn
  have hd := is_drain_eq hg hp
  rw [hs] at hd
  refine runM_nx (ρ := [some (.land ⟨L.g, putL L.o (keyP p) false⟩), some (cellD p)]) rfl (by decide) ?_ rfl
  unfold g_Land_shut
  refine seq_to (ρ1 := [some (.land L), some (cellD p)]) (by simp [startD, hn]) ?_
  refine seq_to (ρ1 := [some (.land L), some (cellD p)]) (by simp [hd]) ?_
  simp [ho]
theorem get_set {g : List (List (Option Int))} {R C : Nat} (hg : GOk g R C) {p q : Cell} (hp : inb R C p = true) (hq : inb R C q = true) (h : Option Int) : getG (setG g p h) q = if q = p then h else getG g q := by
  obtain ⟨i, j, rfl, hi, hj⟩ := inb_nat hp
  obtain ⟨i', j', rfl, hi', hj'⟩ := inb_nat hq
  obtain ⟨r, e1, e2, e3⟩ := get_at hg hi hj
  have hl : i < g.length := by rw [hg.len]; exact hi
  have hr : g.getD i [] = r := by rw [List.getD_eq_getElem?_getD, e1]; rfl
  have hgd' : g[i]?.getD [] = r := by rw [e1]; rfl
  unfold getG setG
  simp only [Int.toNat_natCast, List.getD_eq_getElem?_getD, hgd', Prod.mk.injEq, Int.natCast_inj]
  by_cases h1 : i' = i
  · subst h1
    rw [List.getElem?_set_self hl]
    by_cases h2 : j' = j
    · subst h2
      simp [e3, hj]
    · simp [h2, List.getElem?_set_ne (Ne.symm h2), e1]
  · rw [List.getElem?_set_ne (Ne.symm h1)]
    simp [h1]
/-! the cells, once more -/
theorem nodup_cells (R C : Nat) : (cellsL R C).Nodup := by
  simp only [cellsL, blkc, Int.toNat_natCast]
  unfold List.Nodup
  rw [List.pairwise_flatten]
  refine ⟨fun l hl => ?_, ?_⟩
  · obtain ⟨r, _, rfl⟩ := List.mem_map.mp hl
    refine List.Pairwise.map _ (fun a b (h : a ≠ b) => ?_) List.nodup_range
    intro e
    simp at e
    omega
  · rw [List.pairwise_map]
    refine List.Pairwise.imp (fun {a b} (h : a ≠ b) => ?_) List.nodup_range
    intro x hx y hy e
    simp only [rowc, List.mem_map] at hx hy
    obtain ⟨_, _, rfl⟩ := hx
    obtain ⟨_, _, rfl⟩ := hy
    simp at e
    omega
theorem mem_cells {R C : Nat} {p : Cell} (h : inb R C p = true) : p ∈ cellsL R C := by
  obtain ⟨i, j, rfl, hi, hj⟩ := inb_nat h
  simp only [cellsL, blkc, List.mem_flatten, List.mem_map, List.mem_range, Int.toNat_natCast]
  exact ⟨rowc C i, ⟨i, hi, rfl⟩, List.mem_map.mpr ⟨j, List.mem_range.mpr hj, rfl⟩⟩
theorem filter_one {α : Type} [DecidableEq α] {l : List α} (nd : l.Nodup) {p : α} (h : p ∈ l) : l.filter (fun q => decide (q = p)) = [p] := by
  induction l with
  | nil => simp at h
  | cons a l ih =>
    obtain ⟨n1, n2⟩ := List.nodup_cons.mp nd
    by_cases e : a = p
    · subst e
      rw [List.filter_cons_of_pos (by simp)]
      rw [List.filter_eq_nil_iff.mpr]
      intro q hq hd
      exact n1 (by rw [← of_decide_eq_true hd]; exact hq)
    · rw [List.filter_cons_of_neg (by simpa using e)]
      refine ih n2 ?_
      rcases List.mem_cons.mp h with z | z
      · exact absurd z.symm e
      · exact z
theorem regrid {g : List (List (Option Int))} {R C : Nat} (hg : GOk g R C) : (List.range R).map (fun (i : Nat) => (List.range C).map fun (j : Nat) => getG g ((i : Int), (j : Int))) = g := by
  refine List.ext_getElem? fun i => ?_
  by_cases hi : i < R
  · have hl : i < g.length := by rw [hg.len]; exact hi
    rw [List.getElem?_map, List.getElem?_range hi, List.getElem?_eq_getElem hl]
    simp only [Option.map_some, Option.some.injEq]
    refine List.ext_getElem? fun j => ?_
    by_cases hj : j < C
    · obtain ⟨r, e1, e2, e3⟩ := get_at hg hi hj
      rw [List.getElem?_eq_getElem hl] at e1
      cases e1
      rw [List.getElem?_map, List.getElem?_range hj, e2]
      rfl
    · have : g[i].length = C := hg.row _ (List.getElem_mem hl)
      rw [List.getElem?_eq_none (by simpa using hj), List.getElem?_eq_none (by omega)]
  · rw [List.getElem?_eq_none (by simpa using hi), List.getElem?_eq_none (by rw [hg.len]; omega)]
theorem store00 (i : Nat) (ρ : Rho) (h0 : Option Int) (ht : List (Option Int)) (gt : List (List (Option Int))) (x : Int) (hi : ρ[i]? = some (some (.lst (((h0 :: ht) :: gt).map rowD)))) :
    sStore i (gSub i (eC (.int 0))) (pSub i (eC (.int 0))) (eC (.int 0)) (eC (.int x)) ρ = .ok (.nx (ρ.set i (some (.lst (((some x :: ht) :: gt).map rowD))))) := by
  have he : eVar i ρ = .ok (.lst (((h0 :: ht) :: gt).map rowD)) := by unfold eVar; rw [hi]
  have e5 : hD (some x) = .int x := rfl
  simp [he, pSub, rowD, e5]
theorem grid_ext {g g' : List (List (Option Int))} {R C : Nat} (hg : GOk g R C) (hg' : GOk g' R C) (h : ∀ p, inb R C p = true → getG g p = getG g' p) : g = g' := by
  rw [← regrid hg, ← regrid hg']
  refine List.map_congr_left fun i hi => List.map_congr_left fun j hj => ?_
  exact h _ (by
    simp [inb]
    rw [List.mem_range] at hi hj
    omega)
theorem cons2 {g : List (List (Option Int))} {R C : Nat} (hg : GOk g R C) : ∃ h0 ht gt, g = (h0 :: ht) :: gt := by
  have hl := hg.len
  have r1 := hg.r1
  have c1 := hg.c1
  cases g with
  | nil => simp at hl; omega
  | cons a t =>
    have ha : a.length = C := hg.row a (by simp)
    cases a with
    | nil => simp at ha; omega
    | cons h0 ht => exact ⟨h0, ht, t, rfl⟩
/-! loops, and what can be compared -/
theorem for_pres {β : Type} {s : D → Rho → O Rho} {g : SF} (e : β → D) {I : List β → Rho → Prop} : ∀ (l pre : List β) (ρ : Rho), (∀ p b q, pre ++ l = p ++ b :: q → ∀ ρ, I p ρ → ∃ ρ', ((s (e b) ρ).bind g) = .ok (.nx ρ') ∧ I (p ++ [b]) ρ') → I pre ρ → ∃ ρ', sFor.go s g (l.map e) ρ = .ok (.nx ρ') ∧ I (pre ++ l) ρ'
  | [], pre, ρ, _, h => ⟨ρ, rfl, by simpa using h⟩
  | b :: l, pre, ρ, hs, h => by
    obtain ⟨ρ1, h1, h2⟩ := hs pre b l rfl ρ h
    obtain ⟨ρ2, h3, h4⟩ := for_pres e l (pre ++ [b]) ρ1 (fun p b' q e' => hs p b' q (by rw [← e']; simp)) h2
    refine ⟨ρ2, ?_, by simpa using h4⟩
    rw [List.map_cons]
    unfold sFor.go
    cases hx : s (e b) ρ with
    | bad => rw [hx] at h1; cases h1
    | exc k => rw [hx] at h1; cases h1
    | ok ρ0 =>
      rw [hx] at h1
      simp only [O.bind_ok] at h1 ⊢
      rw [h1]
      exact h3
def dlt (x y : D) : Bool := PySem.W.dataLt (toPy x) (toPy y)
theorem dlt0 : Lt0 dlt := ⟨fun a => (PyProof.Rows.listOrd PyProof.Rows.itemOrd).irrefl _, fun a b h => PyProof.Rows.KeyOrd.klt_asymm (O := PyProof.Rows.listOrd PyProof.Rows.itemOrd) h,
  fun a b c h1 h2 => PyProof.Rows.KeyOrd.kle_trans (O := PyProof.Rows.listOrd PyProof.Rows.itemOrd) h2 h1⟩
/-- things that can be told apart by < -/
structure PP (P : D → Prop) : Prop where
  lt : ∀ x y, P x → P y → ltA x y = .ok (.bl (dlt x y))
  im : ∀ x, P x → x.imm = true
theorem immA_all {P : D → Prop} (hP : PP P) : ∀ {xs : List D}, (∀ x ∈ xs, P x) → immA xs = true
  | [], _ => by simp
  | x :: xs, h => by rw [immA_cons, hP.im x (h x (by simp)), immA_all hP fun y hy => h y (List.mem_cons_of_mem _ hy)]; rfl
theorem while_inv {t : TF} {g : SF} {I : Nat → Rho → Prop} {E : Out → Prop} (hs : ∀ n ρ, I n ρ → (t ρ = .ok false ∧ E (.nx ρ)) ∨ (t ρ = .ok true ∧ ((∃ ρ' n', n' < n ∧ (g ρ = .ok (.nx ρ') ∨ g ρ = .ok (.ct ρ')) ∧ I n' ρ') ∨ (∃ d ρ', g ρ = .ok (.rt d ρ') ∧ E (.rt d ρ'))))) :
    ∀ {f n : Nat} {ρ : Rho}, n < f → I n ρ → ∃ o, sWhile t g f ρ = .ok o ∧ E o
  | 0, n, ρ, hf, _ => absurd hf (Nat.not_lt_zero _)
  | f + 1, n, ρ, hf, hI => by
    rcases hs n ρ hI with ⟨h1, h2⟩ | ⟨h1, ⟨ρ', n', hn, h2, h3⟩ | ⟨d, ρ', h2, h3⟩⟩
    · exact ⟨_, by simp [sWhile, h1], h2⟩
    · obtain ⟨o, h4, h5⟩ := while_inv hs (f := f) (n := n') (ρ := ρ') (by omega) h3
      refine ⟨o, ?_, h5⟩
      rcases h2 with h2 | h2 <;> · simp only [sWhile, h1, O.bind_ok, if_true, h2]; exact h4
    · exact ⟨_, by simp [sWhile, h1, h2], h3⟩
theorem pile_ix (xs : List D) {n : Nat} {x : D} (h : xs[n]? = some x) : ixD (.lst xs) (.int (n : Int)) = .ok x := by rw [ix_lst_nat, h]; rfl
theorem ixN_natq {l n : Nat} (h : n < l) : ixN l (n : Int) = some n := by
  unfold ixN
  rw [if_pos (by omega), if_pos (by omega)]
  simp
theorem mem_set2 {P : D → Prop} {xs : List D} {i j : Nat} {a b : D} (h : ∀ x ∈ xs, P x) (ha : P a) (hb : P b) : ∀ x ∈ (xs.set i a).set j b, P x := fun x hx => by
  rcases List.mem_or_eq_of_mem_set hx with hx | hx
  · rcases List.mem_or_eq_of_mem_set hx with hx | hx
    · exact h x hx
    · rw [hx]; exact ha
  · rw [hx]; exact hb
theorem get_lt {α : Type} {xs : List α} {n : Nat} (h : n < xs.length) : ∃ x, xs[n]? = some x := ⟨_, List.getElem?_eq_getElem h⟩
theorem dlt_total {x y : D} (h1 : dlt x y = false) (h2 : dlt y x = false) : PySem.W.keyToks (toPy x) = PySem.W.keyToks (toPy y) :=
  PyProof.Rows.lex_total (O := PyProof.Rows.itemOrd) _ _ h1 h2
/-- things that can be sorted -/
structure PT (P : D → Prop) : Prop extends PP P where
  tot : ∀ x y, P x → P y → dlt x y = false → dlt y x = false → x = y
  ak : ∀ x y, P x → P y → PySem.W.alike (toPy x) (toPy y) = true
  lay : ∀ x, P x → (toPy x).canLay0 = true ∧ (toPy x).depth ≤ 10
  kd : (∀ x, P x → tupNE x = true) ∨ (∀ x, P x → atomD x = true)
def le2 (a b : D) : Prop := dlt b a = false
theorem leDD_le (a b : D) : leDD a b = true ↔ le2 a b := by
  show (!PySem.W.dataLt (toPy b) (toPy a)) = true ↔ PySem.W.dataLt (toPy b) (toPy a) = false
  cases PySem.W.dataLt (toPy b) (toPy a) <;> simp
theorem sort_eq {P : D → Prop} (hP : PT P) {vs ys : List D} (hx : ∀ x ∈ vs, P x) (hp : ys.Perm vs) (hs : ys.Pairwise le2) : sortD (.lst vs) = .ok (.lst ys) := by
  have e : vs.mergeSort leDD = ys := by
    have hpm := List.mergeSort_perm vs leDD
    have hss : (vs.mergeSort leDD).Pairwise le2 := by
      have := List.pairwise_mergeSort (le := leDD) (fun a b c h1 h2 => (leDD_le a c).mpr (dlt0.ntr _ _ _ ((leDD_le b c).mp h2) ((leDD_le a b).mp h1))) (fun a b => by
        cases h : leDD a b with
        | true => simp
        | false =>
          have : dlt b a = true := by
            have : leDD a b = !dlt b a := rfl
            rw [h] at this
            cases hd : dlt b a with
            | true => rfl
            | false => rw [hd] at this; cases this
          have := (leDD_le b a).mpr (dlt0.asy _ _ this)
          simp [this]) vs
      exact this.imp fun h => (leDD_le _ _).mp h
    refine List.Perm.eq_of_pairwise (le := le2) (fun a b ha hb h1 h2 => ?_) hss hs (hpm.trans hp.symm)
    exact hP.tot a b (hx a (hpm.mem_iff.mp ha)) (hx b (hp.mem_iff.mp hb)) h2 h1
  have h1 := immA_all hP.toPP hx
  have h2 : (vs.all fun x => vs.all fun y => PySem.W.alike (toPy x) (toPy y)) = true := by
    rw [List.all_eq_true]; intro x hx'
    rw [List.all_eq_true]; intro y hy
    exact hP.ak x y (hx x hx') (hx y hy)
  have h3 : (vs.all tupNE || vs.all atomD) = true := by
    rw [Bool.or_eq_true, List.all_eq_true, List.all_eq_true]
    rcases hP.kd with h | h
    · exact .inl fun x hx' => h x (hx x hx')
    · exact .inr fun x hx' => h x (hx x hx')
  have h4 : (vs.all fun x => (toPy x).canLay0 && decide ((toPy x).depth ≤ 60)) = true := by
    rw [List.all_eq_true]; intro x hx'
    obtain ⟨a, b⟩ := hP.lay x (hx x hx')
    rw [a, Bool.true_and]; exact decide_eq_true (by omega)
  unfold sortD
  simp only [h1, h2, h3, h4, Bool.and_self, gd_true, e]
/-! tables -/
theorem beside_in {R C : Nat} {c d : Cell} (h : d ∈ besideL R C c) : inb R C d = true := (List.mem_filter.mp h).2
theorem beside_sym {R C : Nat} {c d : Cell} (hc : inb R C c = true) (h : d ∈ besideL R C c) : c ∈ besideL R C d := by
  refine List.mem_filter.mpr ⟨?_, hc⟩
  have := (List.mem_filter.mp h).1
  obtain ⟨a, b⟩ := c
  simp only [around, List.mem_cons, List.not_mem_nil, or_false] at this ⊢
  rcases this with rfl | rfl | rfl | rfl <;> simp <;> omega
theorem look_gen {α : Type} (f : α → Cell) (v : α → D) (l : List α) (c : Cell) : lookD (l.map fun e => (keyP (f e), v e)) (keyP c) = (l.find? fun e => decide (f e = c)).map v := by
  unfold lookD
  rw [List.find?_map, Option.map_map]
  have : ((fun p : List Key × D => decide (p.1 = keyP c)) ∘ fun e => (keyP (f e), v e)) = fun e => decide (f e = c) := by
    funext e
    show decide (keyP (f e) = keyP c) = decide (f e = c)
    by_cases h : f e = c
    · rw [h]; simp
    · rw [decide_eq_false h, decide_eq_false fun h' => h (keyP_inj h')]
  rw [this]
  rfl
theorem putL_new {β : Type} {m : List (List Key × β)} {k : List Key} {v : β} (h : ∀ p ∈ m, p.1 ≠ k) : putL m k v = m ++ [(k, v)] := by
  unfold putL
  rw [if_neg]
  intro hc
  obtain ⟨p, h1, h2⟩ := List.any_eq_true.mp hc
  exact h p h1 (of_decide_eq_true h2)
theorem putL_old {β : Type} {m : List (List Key × β)} {k : List Key} {v v' : β} (h : ∀ p ∈ m, p.1 ≠ k) : putL (m ++ [(k, v)]) k v' = m ++ [(k, v')] := by
  unfold putL
  rw [if_pos (by simp), List.map_append]
  congr 1
  · refine (List.map_congr_left fun p hp => ?_).trans (List.map_id m)
    rw [if_neg (h p hp)]; rfl
  · simp
theorem max2_int (o h : Int) : max2D (.int o) (.int h) = .ok (.int (max o h)) := by
  show O.ok (D.int (if h > o then h else o)) = _
  congr 2
  split <;> omega
/-- drains are no stone -/
def DrOk (L : LandD) (R C : Nat) : Prop := ∀ c, inb R C c = true → openB L.o c = true → getG L.g c ≠ none
/-! piles -/
theorem put_step {P : D → Prop} (hP : PP P) {xs : List D} {n : Nat} {v : D} {o3 o4 : Option D} (hx : ∀ x ∈ xs, P x) (hn : n < xs.length) (hn0 : 0 < n) {a b : D} (ha : xs[n]? = some a) (hb : xs[(n - 1) / 2]? = some b) :
    g_Pile_put_2 [some (.pile xs), some v, some (.int (n : Int)), o3, o4] = .ok (.nx [some (.pile ((xs.set ((n - 1) / 2) a).set n b)), some v, some (.int (((n - 1) / 2 : Nat) : Int)), some (.int (((n - 1) / 2 : Nat) : Int)), some b]) := by
  have e : ((n : Int) - 1) / 2 = (((n - 1) / 2 : Nat) : Int) := by omega
  have i1 := hP.im a (hx a (List.mem_of_getElem? ha))
  have i2 := hP.im b (hx b (List.mem_of_getElem? hb))
  have i3 := immA_all hP hx
  have i4 : immA (xs.set ((n - 1) / 2) a) = true := immA_all hP fun x hx' => by
    rcases List.mem_or_eq_of_mem_set hx' with h | h
    · exact hx x h
    · rw [h]; exact hx a (List.mem_of_getElem? ha)
  have j1 : (n - 1) / 2 < xs.length := by omega
  have ia := pile_ix xs ha
  have ib := pile_ix xs hb
  have k1 := ixN_natq j1
  have k2 : ixN xs.length (n : Int) = some n := ixN_natq hn
  generalize (n - 1) / 2 = m at *
  unfold g_Pile_put_2
  refine seq_to (ρ1 := [some (.pile xs), some v, some (.int (n : Int)), some (.int (m : Int)), o4]) (by simp [e]) ?_
  refine seq_to (ρ1 := [some (.pile xs), some v, some (.int (n : Int)), some (.int (m : Int)), some b]) (by simp [-ix_lst_nat, ib, i2]) ?_
  refine seq_to (ρ1 := [some (.pile (xs.set m a)), some v, some (.int (n : Int)), some (.int (m : Int)), some b]) (by simp [-ix_lst_nat, ia, i1, i3, k1, pRow]) ?_
  refine seq_to (ρ1 := [some (.pile ((xs.set m a).set n b)), some v, some (.int (n : Int)), some (.int (m : Int)), some b]) (by simp [i2, i4, k2, pRow]) ?_
  simp
theorem put_test {P : D → Prop} (hP : PP P) {xs : List D} {n : Nat} {v : D} {o3 o4 : Option D} (hx : ∀ x ∈ xs, P x) (hn0 : 0 < n) {a b : D} (ha : xs[n]? = some a) (hb : xs[(n - 1) / 2]? = some b) :
    g_Pile_put_1 [some (.pile xs), some v, some (.int (n : Int)), o3, o4] = .ok (dlt a b) := by
  have e : ((n : Int) - 1) / 2 = (((n - 1) / 2 : Nat) : Int) := by omega
  have ia := pile_ix xs ha
  have ib := pile_ix xs hb
  have h := hP.lt a b (hx a (List.mem_of_getElem? ha)) (hx b (List.mem_of_getElem? hb))
  generalize (n - 1) / 2 = m at *
  unfold g_Pile_put_1
  simp [-ix_lst_nat, e, ia, ib, h, hn0]
theorem put_eq {P : D → Prop} (hP : PP P) {xs : List D} {v : D} (hx : ∀ x ∈ xs, P x) (hv : P v) (hh : HeapL dlt xs) (hl : xs.length < 99000) :
    ∃ ys, F_Pile_put [.pile xs, v] = .ok (.rt .non [.pile ys, .non]) ∧ HeapL dlt ys ∧ ys.Perm (xs ++ [v]) := by
  have hx2 : ∀ x ∈ xs ++ [v], P x := fun x h => by
    rcases List.mem_append.mp h with h | h
    · exact hx x h
    · rw [List.mem_singleton.mp h]; exact hv
  have hw := while_inv (t := g_Pile_put_1) (g := g_Pile_put_2) (f := 100000) (n := xs.length) (ρ := [some (.pile (xs ++ [v])), some v, some (.int (xs.length : Int)), none, none])
    (I := fun n ρ => ∃ ys o3 o4, ρ = [some (.pile ys), some v, some (.int (n : Int)), o3, o4] ∧ n < ys.length ∧ UpI dlt ys n ∧ ys.Perm (xs ++ [v]))
    (E := fun o => ∃ ys o2 o3 o4, o = .nx [some (.pile ys), some v, o2, o3, o4] ∧ HeapL dlt ys ∧ ys.Perm (xs ++ [v])) (by
      rintro n ρ ⟨ys, o3, o4, rfl, h1, h2, h3⟩
      have hy : ∀ x ∈ ys, P x := fun x h => hx2 x (h3.mem_iff.mp h)
      by_cases hn : n = 0
      · subst hn
        refine .inl ⟨by simp [g_Pile_put_1], ys, _, o3, o4, rfl, up_end h2 fun x y hp => absurd hp (by omega), h3⟩
      · have hn0 : 0 < n := by omega
        obtain ⟨a, ha⟩ := get_lt h1
        obtain ⟨b, hb⟩ := get_lt (xs := ys) (n := (n - 1) / 2) (by omega)
        rw [put_test hP hy hn0 ha hb]
        cases hd : dlt a b with
        | false =>
          refine .inl ⟨rfl, ys, _, o3, o4, rfl, up_end h2 fun x y _ ex ey => ?_, h3⟩
          rw [ha] at ex; rw [hb] at ey
          cases ex; cases ey
          exact hd
        | true =>
          refine .inr ⟨rfl, .inl ⟨_, (n - 1) / 2, by omega, .inl (put_step hP hy h1 hn0 ha hb), _, _, _, rfl, ?_, up_step dlt0 h2 hn0 ha hb hd, ?_⟩⟩
          · simp; omega
          · exact (swap_perm (by omega) hb ha).trans h3) (by omega) ⟨_, _, _, rfl, by simp, up_start hh v, List.Perm.refl _⟩
  obtain ⟨o, ho, ys, o2, o3, o4, rfl, h4, h5⟩ := hw
  refine ⟨ys, ?_, h4, h5⟩
  have i1 := immA_all hP hx
  have i2 := hP.im v hv
  have l1 : decide (xs.length < 100000) = true := decide_eq_true (by omega)
  refine runM_nx (ρ := [some (.pile ys), some v, o2, o3, o4]) rfl (by decide) ?_ (by simp)
  refine seq_to (ρ1 := [some (.pile (xs ++ [v])), some v, none, none, none]) (by simp [startD, i1, i2, l1, pRow]) ?_
  exact seq_to (ρ1 := [some (.pile (xs ++ [v])), some v, some (.int (xs.length : Int)), none, none]) (by simp) ho
theorem sink_body {P : D → Prop} (hP : PP P) {ys : List D} {k : Nat} {o2 o3 : Option D} (hy : ∀ x ∈ ys, P x) (hc : 2 * k + 1 < ys.length) {a : D} (ha : ys[k]? = some a) :
    ∃ b y o, b < ys.length ∧ (b - 1) / 2 = k ∧ 0 < b ∧ ys[b]? = some y ∧ (∀ i x, 0 < i → (i - 1) / 2 = k → ys[i]? = some x → dlt x y = false) ∧
      g_Pile_sink_2 [some (.pile ys), some (.int (k : Int)), o2, o3] = .ok (if dlt y a = true then .nx [some (.pile ((ys.set b a).set k y)), some (.int (b : Int)), some (.int (b : Int)), some y] else .rt .non [some (.pile ys), some (.int (k : Int)), some (.int (b : Int)), o]) := by
  obtain ⟨p, hp⟩ := get_lt hc
  have pick : ∃ b y, b < ys.length ∧ (b - 1) / 2 = k ∧ 0 < b ∧ ys[b]? = some y ∧ (∀ i x, 0 < i → (i - 1) / 2 = k → ys[i]? = some x → dlt x y = false) ∧
      sIf (tAndF (tE (e2 ltD (e2 addD (eVar 2) (eC (.int 1))) (e1 lenD (e1 rowPD (eVar 0))))) (tE (e2 ltA (e2 ixD (e1 rowPD (eVar 0)) (e2 addD (eVar 2) (eC (.int 1)))) (e2 ixD (e1 rowPD (eVar 0)) (eVar 2))))) (sSet 2 (e2 addD (eVar 2) (eC (.int 1)))) sNx [some (.pile ys), some (.int (k : Int)), some (.int ((2 * k + 1 : Nat) : Int)), o3] =
        .ok (.nx [some (.pile ys), some (.int (k : Int)), some (.int (b : Int)), o3]) := by
    have two : ∀ i, 0 < i → (i - 1) / 2 = k → i = 2 * k + 1 ∨ i = 2 * k + 1 + 1 := fun i h1 h2 => by omega
    have ip := pile_ix ys hp
    have e : ((2 * k + 1 : Nat) : Int) + 1 = ((2 * k + 1 + 1 : Nat) : Int) := by omega
    by_cases h2 : 2 * k + 1 + 1 < ys.length
    · obtain ⟨q, hq⟩ := get_lt h2
      have iq := pile_ix ys hq
      have hlt := hP.lt q p (hy q (List.mem_of_getElem? hq)) (hy p (List.mem_of_getElem? hp))
      have hz : decide (((2 * k + 1 + 1 : Nat) : Int) < (ys.length : Int)) = true := decide_eq_true (by omega)
      cases hd : dlt q p with
      | true =>
        refine ⟨2 * k + 1 + 1, q, h2, by omega, by omega, hq, fun i x h3 h4 h5 => ?_, ?_⟩
        · rcases two i h3 h4 with rfl | rfl
          · rw [hp] at h5; cases h5; exact dlt0.asy _ _ hd
          · rw [hq] at h5; cases h5; exact dlt0.irr _
        · generalize hm : 2 * k + 1 = m at *
          generalize hm1 : m + 1 = m1 at *
          simp only [sIf_ap, tAndF_ap, tE_ap, e2_ap, e1_ap, eVar_s, eVar_zs, eC_ap, O.bind_ok, addD_int, rowPD_pile, len_lst, e, cmpI_int, hz, if_true, iq, ip, hlt, hd, sSet_ap]
          rfl
      | false =>
        refine ⟨2 * k + 1, p, hc, by omega, by omega, hp, fun i x h3 h4 h5 => ?_, ?_⟩
        · rcases two i h3 h4 with rfl | rfl
          · rw [hp] at h5; cases h5; exact dlt0.irr _
          · rw [hq] at h5; cases h5; exact hd
        · generalize hm : 2 * k + 1 = m at *
          generalize hm1 : m + 1 = m1 at *
          simp only [sIf_ap, tAndF_ap, tE_ap, e2_ap, e1_ap, eVar_s, eVar_zs, eC_ap, O.bind_ok, addD_int, rowPD_pile, len_lst, e, cmpI_int, hz, if_true, iq, ip, hlt, hd, sNx_ap, Bool.false_eq_true, if_false]
    · have hz : decide (((2 * k + 1 + 1 : Nat) : Int) < (ys.length : Int)) = false := decide_eq_false (by omega)
      refine ⟨2 * k + 1, p, hc, by omega, by omega, hp, fun i x h3 h4 h5 => ?_, ?_⟩
      · rcases two i h3 h4 with rfl | rfl
        · rw [hp] at h5; cases h5; exact dlt0.irr _
        · rw [List.getElem?_eq_none (by omega)] at h5; cases h5
      · generalize hm : 2 * k + 1 = m at *
        generalize hm1 : m + 1 = m1 at *
        simp only [sIf_ap, tAndF_ap, tE_ap, e2_ap, e1_ap, eVar_s, eVar_zs, eC_ap, O.bind_ok, addD_int, rowPD_pile, len_lst, e, cmpI_int, hz, sNx_ap, Bool.false_eq_true, if_false]
  obtain ⟨b, y, h1, h2, h3, h4, h5, h6⟩ := pick
  have m1 : (2 : Int) * (k : Int) + 1 = ((2 * k + 1 : Nat) : Int) := by omega
  have ia := pile_ix ys ha
  have iy := pile_ix ys h4
  have hlt := hP.lt y a (hy y (List.mem_of_getElem? h4)) (hy a (List.mem_of_getElem? ha))
  have i1 := hP.im a (hy a (List.mem_of_getElem? ha))
  have i2 := hP.im y (hy y (List.mem_of_getElem? h4))
  have i3 := immA_all hP hy
  have i4 : immA (ys.set b a) = true := immA_all hP fun x hx' => by
    rcases List.mem_or_eq_of_mem_set hx' with h | h
    · exact hy x h
    · rw [h]; exact hy a (List.mem_of_getElem? ha)
  have k1 := ixN_natq h1
  have k2 : ixN ys.length (k : Int) = some k := ixN_natq (by omega)
  refine ⟨b, y, o3, h1, h2, h3, h4, h5, ?_⟩
  unfold g_Pile_sink_2
  refine seq_to (ρ1 := [some (.pile ys), some (.int (k : Int)), some (.int ((2 * k + 1 : Nat) : Int)), o3]) (by
    simp only [sSet_ap, e2_ap, eC_ap, eVar_s, eVar_zs, O.bind_ok, mulD_int]
    rw [show ((decide (-(2 ^ 64) < (2 : Int)) && decide ((2 : Int) < 2 ^ 64)) || (decide (-(2 ^ 64) < (k : Int)) && decide ((k : Int) < 2 ^ 64))) = true from by
      have : (decide (-(2 ^ 64) < (2 : Int)) && decide ((2 : Int) < 2 ^ 64)) = true := by decide
      rw [this]; rfl]
    rw [gd_true, O.bind_ok, addD_int, m1]
    rfl) ?_
  refine seq_to h6 ?_
  have hn : sIf (tNotF (tE (e2 ltA (e2 ixD (e1 rowPD (eVar 0)) (eVar 2)) (e2 ixD (e1 rowPD (eVar 0)) (eVar 1))))) sRetN sNx [some (.pile ys), some (.int (k : Int)), some (.int (b : Int)), o3] = .ok (if dlt y a = true then .nx [some (.pile ys), some (.int (k : Int)), some (.int (b : Int)), o3] else .rt .non [some (.pile ys), some (.int (k : Int)), some (.int (b : Int)), o3]) := by
    simp only [sIf_ap, tNotF_ap, tE_ap, e2_ap, e1_ap, eVar_s, eVar_zs, O.bind_ok, rowPD_pile, iy, ia, hlt]
    cases dlt y a <;> simp
  cases hd : dlt y a with
  | false =>
    rw [hd] at hn
    simp only [Bool.false_eq_true, if_false] at hn ⊢
    exact seq_rt hn
  | true =>
    rw [hd] at hn
    simp only [if_true] at hn ⊢
    refine seq_to hn ?_
    refine seq_to (ρ1 := [some (.pile ys), some (.int (k : Int)), some (.int (b : Int)), some y]) (by simp [-ix_lst_nat, iy, i2]) ?_
    refine seq_to (ρ1 := [some (.pile (ys.set b a)), some (.int (k : Int)), some (.int (b : Int)), some y]) (by simp [-ix_lst_nat, ia, i1, i3, k1, pRow]) ?_
    refine seq_to (ρ1 := [some (.pile ((ys.set b a).set k y)), some (.int (k : Int)), some (.int (b : Int)), some y]) (by simp [i2, i4, k2, pRow]) ?_
    simp
theorem sink_eq {P : D → Prop} (hP : PP P) {zs : List D} (hz : ∀ x ∈ zs, P x) (h0 : 0 < zs.length) (hl : zs.length < 99000) (hd : DnI dlt zs 0) : ∃ ys, F_Pile_sink [.pile zs] = .ok (.rt .non [.pile ys]) ∧ HeapL dlt ys ∧ ys.Perm zs := by
  have hw := while_inv (t := g_Pile_sink_1) (g := g_Pile_sink_2) (f := 100000) (n := zs.length) (ρ := [some (.pile zs), some (.int 0), none, none])
    (I := fun n ρ => ∃ ys k o2 o3, ρ = [some (.pile ys), some (.int ((k : Nat) : Int)), o2, o3] ∧ ys.length - k = n ∧ k < ys.length ∧ DnI dlt ys k ∧ ys.Perm zs)
    (E := fun o => ∃ ys o1 o2 o3, (o = .nx [some (.pile ys), o1, o2, o3] ∨ o = .rt .non [some (.pile ys), o1, o2, o3]) ∧ HeapL dlt ys ∧ ys.Perm zs) (by
      rintro n ρ ⟨ys, k, o2, o3, rfl, h1, h2, h3, h4⟩
      have hy : ∀ x ∈ ys, P x := fun x h => hz x (h4.mem_iff.mp h)
      have ht : g_Pile_sink_1 [some (.pile ys), some (.int (k : Int)), o2, o3] = .ok (decide (2 * k + 1 < ys.length)) := by
        unfold g_Pile_sink_1
        simp only [tE_ap, e2_ap, e1_ap, eC_ap, eVar_s, eVar_zs, O.bind_ok, mulD_int, rowPD_pile, len_lst]
        rw [show ((decide (-(2 ^ 64) < (2 : Int)) && decide ((2 : Int) < 2 ^ 64)) || (decide (-(2 ^ 64) < (k : Int)) && decide ((k : Int) < 2 ^ 64))) = true from by
          have : (decide (-(2 ^ 64) < (2 : Int)) && decide ((2 : Int) < 2 ^ 64)) = true := by decide
          rw [this]; rfl]
        rw [gd_true, O.bind_ok, addD_int, O.bind_ok]
        simp only [cmpI_int, O.bind_ok]
        rw [show (decide ((2 : Int) * (k : Int) + 1 < (ys.length : Int))) = decide (2 * k + 1 < ys.length) from by
          by_cases h : 2 * k + 1 < ys.length
          · rw [decide_eq_true h, decide_eq_true (by omega)]
          · rw [decide_eq_false h, decide_eq_false (by omega)]]
      rw [ht]
      by_cases hc : 2 * k + 1 < ys.length
      · obtain ⟨a, ha⟩ := get_lt h2
        obtain ⟨b, y, o, c1, c2, c3, c4, c5, c6⟩ := sink_body hP (o2 := o2) (o3 := o3) hy hc ha
        rw [decide_eq_true hc]
        cases hd : dlt y a with
        | false =>
          rw [hd] at c6
          simp only [Bool.false_eq_true, if_false] at c6
          refine .inr ⟨rfl, .inr ⟨_, _, c6, ys, _, _, _, .inr rfl, dn_end h3 fun i x x' h5 h6 h7 h8 => ?_, h4⟩⟩
          rw [ha] at h8
          cases h8
          exact dlt0.ntr _ _ _ (c5 i x h5 h6 h7) hd
        | true =>
          rw [hd] at c6
          simp only [if_true] at c6
          refine .inr ⟨rfl, .inl ⟨_, ys.length - b, by omega, .inl c6, _, b, _, _, rfl, by simp, by simpa using c1, dn_step dlt0 h3 c3 c2 c4 ha hd c5, ?_⟩⟩
          exact (swap_perm (by omega) c4 ha).trans h4
      · rw [decide_eq_false hc]
        refine .inl ⟨rfl, ys, _, _, _, .inl rfl, dn_end h3 fun i x y h5 h6 h7 _ => ?_, h4⟩
        have := (List.getElem?_eq_some_iff.mp h7).1
        omega) (by omega) ⟨zs, 0, none, none, rfl, by simp, h0, hd, List.Perm.refl _⟩
  obtain ⟨o, ho, ys, o1, o2, o3, h1, h2, h3⟩ := hw
  refine ⟨ys, ?_, h2, h3⟩
  rcases h1 with rfl | rfl
  · refine runM_nx (ρ := [some (.pile ys), o1, o2, o3]) rfl (by decide) ?_ (by simp)
    exact seq_to (ρ1 := [some (.pile zs), some (.int 0), none, none]) (by simp [startD]) ho
  · refine runM_rt (ρ := [some (.pile ys), o1, o2, o3]) rfl (by decide) ?_ (by simp)
    exact seq_to (ρ1 := [some (.pile zs), some (.int 0), none, none]) (by simp [startD]) ho
theorem take_nil : F_Pile_take [.pile []] = .ok (.rt .non [.pile []]) := by
  refine runM_rt (ρ := [some (.pile []), none, none]) rfl (by decide) ?_ (by simp)
  refine seq_rt ?_
  simp [startD]
theorem take_eq {P : D → Prop} (hP : PP P) {r : D} {t : List D} (hx : ∀ x ∈ r :: t, P x) (hh : HeapL dlt (r :: t)) (hl : (r :: t).length < 99000) :
    ∃ ys, F_Pile_take [.pile (r :: t)] = .ok (.rt r [.pile ys]) ∧ HeapL dlt ys ∧ ys.Perm t := by
  have i1 := immA_all hP hx
  have i2 := hP.im r (hx r (by simp))
  have st : ∀ g : SF, ∀ o, g [some (.pile (r :: t)), some r, none] = .ok o → sSeq (sIf (tE (e2 (eqD false) (e1 lenD (e1 rowPD (eVar 0))) (eC (.int 0)))) (sRet (eC .non)) sNx) (sSeq (sSet 1 (eImm (e2 ixD (e1 rowPD (eVar 0)) (eC (.int 0))))) g) (startD 3 [.pile (r :: t)]) = .ok o := fun g o h => by
    refine seq_to (ρ1 := [some (.pile (r :: t)), none, none]) ?_ ?_
    · have : decide (((r :: t).length : Int) = 0) = false := decide_eq_false (by simp; omega)
      simp only [startD, List.map_cons, List.map_nil, sIf_ap, tE_ap, e2_ap, e1_ap, eC_ap]
      show (O.bind (O.bind (eqD false (.int ((r :: t).length : Int)) (.int 0)) _) _) = _
      rw [eq_int, this]
      rfl
    · exact seq_to (by simp [i2]) h
  rcases List.eq_nil_or_concat t with rfl | ⟨u, last, rfl⟩
  · refine ⟨[], ?_, fun i x y _ h => by simp at h, List.Perm.refl _⟩
    refine runM_rt (ρ := [some (.pile []), some r, some r]) rfl (by decide) (st _ _ ?_) (by simp)
    refine seq_to (ρ1 := [some (.pile []), some r, some r]) (by simp [i1, i2, pRow]) ?_
    refine seq_to (ρ1 := [some (.pile []), some r, some r]) (by simp) ?_
    simp
  · rw [List.concat_eq_append] at *
    have hd : (r :: (u ++ [last])).dropLast = r :: u := by rw [← List.cons_append, List.dropLast_concat]
    have hlast : (r :: (u ++ [last]))[(r :: (u ++ [last])).length - 1]? = some last := by
      rw [← List.cons_append, List.length_append, List.getElem?_append_right (by simp)]
      simp
    have hx' : ∀ x ∈ last :: u, P x := fun x h => hx x (by
      rcases List.mem_cons.mp h with h | h
      · rw [h]; simp
      · simp [h])
    have hheap : HeapL dlt (r :: u) := by
      have := heap_take hh (u.length + 1)
      rwa [show (r :: (u ++ [last])).take (u.length + 1) = r :: u from by simp] at this
    have hdn : DnI dlt (last :: u) 0 := dn_start hheap last
    obtain ⟨ys, h1, h2, h3⟩ := sink_eq hP hx' (by simp) (by simp at hl ⊢; omega) hdn
    have j1 := immA_all hP hx'
    have j2 := hP.im last (hx' last (by simp))
    have j3 : immA (r :: u) = true := immA_all hP fun x h => by
      rcases List.mem_cons.mp h with h | h
      · rw [h]; exact hx r (by simp)
      · exact hx' x (by simp [h])
    refine ⟨ys, ?_, h2, h3.trans (by exact (List.perm_append_comm (l₁ := [last]) (l₂ := u)))⟩
    refine runM_rt (ρ := [some (.pile ys), some r, some last]) rfl (by decide) (st _ _ ?_) (by simp)
    have k1 : ixN (r :: u).length (0 : Int) = some 0 := ixN_natq (n := 0) (by simp)
    have k3 : (gRow 0 [some (.pile (r :: (u ++ [last]))), some r, none]) = .ok (r :: (u ++ [last])) := by rw [gRow_ap]; simp only [eVar_zs, O.bind_ok, pileO_pile, i1, gd_true]
    refine seq_to (ρ1 := [some (.pile (r :: u)), some r, some last]) ?_ ?_
    · rw [sSetX_ap, sX_ap, xPop_ap, k3, O.bind_ok, hlast, hd]
      simp [pRow]
    · refine seq_to (ρ1 := [some (.pile ys), some r, some last]) ?_ ?_
      · have g0 : decide ((0 : Int) < ((r :: u).length : Int)) = true := decide_eq_true (by rw [List.length_cons]; omega)
        rw [sIf_ap]
        rw [show tE (e2 gtD (e1 lenD (e1 rowPD (eVar 0))) (eC (.int 0))) [some (.pile (r :: u)), some r, some last] = .ok true from by
          simp only [tE_ap, e2_ap, e1_ap, eVar_zs, eC_ap, O.bind_ok, rowPD_pile, len_lst, cmpI_int, g0]]
        simp only [O.bind_ok, if_true]
        refine seq_to (ρ1 := [some (.pile (last :: u)), some r, some last]) ?_ ?_
        · rw [sStore_ap]
          rw [show gRow 0 [some (.pile (r :: u)), some r, some last] = .ok (r :: u) from by rw [gRow_ap]; simp only [eVar_zs, O.bind_ok, pileO_pile, j3, gd_true]]
          simp only [eVar_s, eVar_zs, eC_ap, O.bind_ok, j2, gd_true, k1, ofO_some, pRow]
          rfl
        · simp [immIn, j1, h1]
      · simp
theorem many_eq (xs : List D) : F_Pile_many [.pile xs] = .ok (.int xs.length) := by simp [F_Pile_many, runF, g_Pile_many, startD]
/-! the levels' way: spread -/
abbrev Tri := Int × Cell × Cell
def triD (e : Tri) : D := .tup [.int e.1, cellD e.2.1, cellD e.2.2]
def decT : D → Tri
  | .tup [.int h, c, f] => (h, (cellOf c).getD (0, 0), (cellOf f).getD (0, 0))
  | _ => (0, (0, 0), (0, 0))
@[simp] theorem dec_tri (e : Tri) : decT (triD e) = e := rfl
def triP (d : D) : Prop := ∃ e, d = triD e
theorem alike_int2 (a b : Int) : PySem.W.alike (.int a) (.int b) = true := by simp [PySem.W.alike]
theorem triPP : PP triP := by
  refine ⟨?_, ?_⟩
  · rintro _ _ ⟨⟨h, ⟨a, b⟩, ⟨c, d⟩⟩, rfl⟩ ⟨⟨h', ⟨a', b'⟩, ⟨c', d'⟩⟩, rfl⟩
    unfold ltA
    have e : ∀ e : Tri, toPy (triD e) = .tuple [.int e.1, .tuple [.int e.2.1.1, .int e.2.1.2], .tuple [.int e.2.2.1, .int e.2.2.2]] := fun e => by simp [triD, cellD, toPyA]
    have c1 : ∀ a b c d h : Int, PyData.canLay0 (.tuple [.int h, .tuple [.int a, .int b], .tuple [.int c, .int d]]) = true := fun a b c d h => by simp [PyData.canLay0, PyData.canLayAll0]
    have c2 : ∀ a b c d h : Int, PyData.depth (.tuple [.int h, .tuple [.int a, .int b], .tuple [.int c, .int d]]) ≤ 60 := fun a b c d h => by simp [PyData.depth, PyData.depthAll]
    have c3 : PySem.W.alike (.tuple [.int h, .tuple [.int a, .int b], .tuple [.int c, .int d]]) (.tuple [.int h', .tuple [.int a', .int b'], .tuple [.int c', .int d']]) = true := by simp [PySem.W.alike, PySem.W.alikeAll]
    rw [dlt, e, e]
    simp only [c1, c2, c3, decide_true, Bool.and_true, triD]
    rfl
  · rintro _ ⟨e, rfl⟩
    simp [triD]
theorem dlt_tri {e e' : Tri} (h : dlt (triD e') (triD e) = false) : e.1 ≤ e'.1 := by
  have t : ∀ e : Tri, PySem.W.keyToks (toPy (triD e)) = .inl 1 :: .inl e.1 :: (PySem.W.keyToksAll [.tuple [.int e.2.1.1, .int e.2.1.2], .tuple [.int e.2.2.1, .int e.2.2.2]]) := fun e => by
    simp [triD, cellD, toPyA, PySem.W.keyToks, PySem.W.keyToksAll]
  unfold dlt PySem.W.dataLt at h
  rw [t, t] at h
  have h1 := (PyProof.Rows.lex_self (O := PyProof.Rows.itemOrd) _ _ _).symm.trans h
  have h2 := (PyProof.Rows.lex_false (O := PyProof.Rows.itemOrd)).mp h1
  have h3 : decide (e'.1 < e.1) = false := h2.1
  have := of_decide_eq_false h3
  omega
theorem tri_back {ys : List D} {pl : List Tri} (h : ys.Perm (pl.map triD)) : ys = (ys.map decT).map triD ∧ (ys.map decT).Perm pl := by
  constructor
  · rw [List.map_map]
    refine (List.map_id ys).symm.trans (List.map_congr_left fun x hx => ?_)
    obtain ⟨e, _, rfl⟩ := List.mem_map.mp (h.mem_iff.mp hx)
    simp
  · have := h.map decT
    rw [List.map_map] at this
    refine this.trans ?_
    rw [show pl.map (decT ∘ triD) = pl from (List.map_congr_left fun x _ => dec_tri x).trans (List.map_id pl)]
theorem all_tri (pl : List Tri) : ∀ x ∈ pl.map triD, triP x := fun x hx => by
  obtain ⟨e, _, rfl⟩ := List.mem_map.mp hx
  exact ⟨e, rfl⟩
theorem put_tri {pl : List Tri} (e : Tri) (hh : HeapL dlt (pl.map triD)) (hl : pl.length < 99000) :
    ∃ pl' : List Tri, F_Pile_put [.pile (pl.map triD), triD e] = .ok (.rt .non [.pile (pl'.map triD), .non]) ∧ HeapL dlt (pl'.map triD) ∧ pl'.Perm (pl ++ [e]) := by
  obtain ⟨ys, h1, h2, h3⟩ := put_eq triPP (all_tri pl) ⟨e, rfl⟩ hh (by simpa using hl)
  have h4 : ys.Perm ((pl ++ [e]).map triD) := by simpa using h3
  obtain ⟨e1, e2⟩ := tri_back h4
  rw [e1] at h1 h2
  exact ⟨_, h1, h2, e2⟩
theorem take_tri {r : Tri} {t : List Tri} (hh : HeapL dlt ((r :: t).map triD)) (hl : (r :: t).length < 99000) :
    ∃ pl' : List Tri, F_Pile_take [.pile ((r :: t).map triD)] = .ok (.rt (triD r) [.pile (pl'.map triD)]) ∧ HeapL dlt (pl'.map triD) ∧ pl'.Perm t ∧ ∀ e ∈ t, r.1 ≤ e.1 := by
  obtain ⟨ys, h1, h2, h3⟩ := take_eq triPP (all_tri (r :: t)) hh (by simpa using hl)
  obtain ⟨e1, e2⟩ := tri_back h3
  rw [e1] at h1 h2
  refine ⟨_, h1, h2, e2, fun e he => ?_⟩
  have hm : triD e ∈ (r :: t).map triD := List.mem_map.mpr ⟨e, by simp [he], rfl⟩
  obtain ⟨i, hi⟩ := List.getElem?_of_mem hm
  exact dlt_tri (heap_root dlt0 hh (r := triD r) rfl i _ hi)
/-! the field of a land -/
def fdL (L : LandD) (R C : Nat) : Fd Cell where
  nb := besideL R C
  ht := fun c => if inb R C c = true then getG L.g c else none
  dr := fun c => inb R C c && openB L.o c
theorem fd_in {L : LandD} {R C : Nat} {c : Cell} {o : Int} (h : (fdL L R C).ht c = some o) : inb R C c = true ∧ getG L.g c = some o := by
  have h' : (if inb R C c = true then getG L.g c else none) = some o := h
  by_cases hc : inb R C c = true
  · rw [if_pos hc] at h'; exact ⟨hc, h'⟩
  · rw [if_neg hc] at h'; cases h'
def lvM (es : Es Cell) : List (List Key × D) := es.map fun e => (keyP e.1, .int e.2.1)
def onM (es : Es Cell) : List (List Key × D) := es.map fun e => (keyP e.1, cellD e.2.2)
theorem look_lv (es : Es Cell) (c : Cell) : lookD (lvM es) (keyP c) = (lvE es c).map .int := by
  rw [lvM, look_gen (fun e : Cell × Int × Cell => e.1) (fun e => .int e.2.1), lvE, Option.map_map]
  rfl
theorem look_on (es : Es Cell) (c : Cell) : lookD (onM es) (keyP c) = (onE es c).map cellD := by
  rw [onM, look_gen (fun e : Cell × Int × Cell => e.1) (fun e => cellD e.2.2), onE, Option.map_map]
  rfl
theorem lv_isSome (es : Es Cell) (c : Cell) : (lvE es c).isSome = decide (c ∈ keysE es) := by
  cases e : lvE es c with
  | none => rw [decide_eq_false (lv_none e)]; rfl
  | some l =>
    obtain ⟨f, hf⟩ := lv_some e
    rw [decide_eq_true (mem_keysE hf)]; rfl
theorem in_lv (neg : Bool) (es : Es Cell) (c : Cell) : inD neg (cellD c) (.dct (lvM es)) = .ok (.bl (neg != decide (c ∈ keysE es))) := by
  unfold inD
  rw [dctO_dct, O.bind_ok, keyD_cell, ofO_some, O.bind_ok, look_lv, Option.isSome_map, lv_isSome]
theorem keys_ne {α : Type} {v : Cell × Int × Cell → α} {es : Es Cell} {c : Cell} (h : c ∉ keysE es) : ∀ p ∈ es.map (fun e => (keyP e.1, v e)), p.1 ≠ keyP c := fun p hp e => by
  obtain ⟨x, hx, rfl⟩ := List.mem_map.mp hp
  have : x.1 = c := keyP_inj e
  exact h (List.mem_map.mpr ⟨x, hx, this⟩)
theorem put_lv {es : Es Cell} {c : Cell} (h : c ∉ keysE es) (l : Int) (f : Cell) : putL (lvM es) (keyP c) (.int l) = lvM (es ++ [(c, l, f)]) := by
  rw [lvM, putL_new (keys_ne h), lvM, List.map_append]; rfl
theorem put_on {es : Es Cell} {c : Cell} (h : c ∉ keysE es) (l : Int) (f : Cell) : putL (onM es) (keyP c) (cellD f) = onM (es ++ [(c, l, f)]) := by
  rw [onM, putL_new (keys_ne h), onM, List.map_append]; rfl
theorem put_on2 {es : Es Cell} {c : Cell} (h : c ∉ keysE es) (l : Int) (f f' : Cell) : putL (onM (es ++ [(c, l, f)])) (keyP c) (cellD f') = onM (es ++ [(c, l, f')]) := by
  rw [onM, List.map_append]
  show putL (_ ++ [(keyP c, cellD f)]) _ _ = _
  rw [putL_old (keys_ne h), onM, List.map_append]; rfl
/-! how many are not told -/
def unl (R C : Nat) (es : Es Cell) : Nat := ((cellsL R C).filter fun c => decide (c ∉ keysE es)).length
theorem filter_lt {α : Type} {p q : α → Bool} (hpq : ∀ x, q x = true → p x = true) : ∀ {l : List α} {x : α}, x ∈ l → p x = true → q x = false → (l.filter q).length + 1 ≤ (l.filter p).length
  | [], x, h, _, _ => by simp at h
  | y :: l, x, h, hp, hq => by
    have mono : (l.filter q).length ≤ (l.filter p).length := by
      clear h
      induction l with
      | nil => simp
      | cons z l ih =>
        rw [List.filter_cons, List.filter_cons]
        cases h1 : q z with
        | true => rw [hpq z h1]; simp; exact ih
        | false => cases h2 : p z <;> simp <;> omega
    rw [List.filter_cons, List.filter_cons]
    rcases List.mem_cons.mp h with rfl | h
    · rw [hp, hq]; simp; exact mono
    · have ih := filter_lt hpq h hp hq
      cases h1 : q y with
      | true => rw [hpq y h1]; simp; omega
      | false => cases h2 : p y <;> simp <;> omega
theorem unl_step {R C : Nat} {es es' : Es Cell} {c : Cell} (hc : c ∈ cellsL R C) (hk : c ∉ keysE es) (he : keysE es' = keysE es ++ [c]) : unl R C es' + 1 ≤ unl R C es := by
  refine filter_lt (fun x hx => ?_) hc (by simpa using hk) (by rw [he]; simp)
  rw [he] at hx
  simp at hx ⊢
  exact hx.1
theorem spread1 {L : LandD} {R C : Nat} (hg : GOk L.g R C) (hd : DrOk L R C) :
    ∃ (pl : List Tri) (o2 : Option D), sFor (iSeq (eMe .land (eVar 0) aNil F_Land_drains)) (gN 2) g_spread_1 [some (.land L), some (.pile []), none, none, none, none, none, none, none] = .ok (.nx [some (.land L), some (.pile (pl.map triD)), o2, none, none, none, none, none, none]) ∧
      HeapL dlt (pl.map triD) ∧ pl.length ≤ R * C ∧ (∀ h c f, (h, c, f) ∈ pl → (fdL L R C).ht c = some h ∧ (fdL L R C).dr c = true ∧ f = c) ∧ ∀ c, (fdL L R C).dr c = true → ∃ o, (fdL L R C).ht c = some o ∧ (o, c, c) ∈ pl := by
  have hdr : ∀ c ∈ drainsL L R C, inb R C c = true ∧ openB L.o c = true := fun c hc => ⟨cells_in R C c (List.mem_filter.mp hc).1, (List.mem_filter.mp hc).2⟩
  have hfew : (drainsL L R C).length ≤ R * C := by
    rw [← cells_len]
    exact List.length_filter_le _ _
  have h900 : R * C ≤ 900 := Nat.mul_le_mul hg.r30 hg.c30
  obtain ⟨ρ', h1, pl, o2, rfl, h2, h3, h4, h5⟩ := for_pres (s := gN 2) (g := g_spread_1) cellD
    (I := fun p ρ => ∃ (pl : List Tri) (o2 : Option D), ρ = [some (.land L), some (.pile (pl.map triD)), o2, none, none, none, none, none, none] ∧ HeapL dlt (pl.map triD) ∧ pl.length = p.length ∧ (∀ h c f, (h, c, f) ∈ pl → (fdL L R C).ht c = some h ∧ (fdL L R C).dr c = true ∧ f = c) ∧ ∀ c ∈ p, ∃ o, (fdL L R C).ht c = some o ∧ (o, c, c) ∈ pl)
    (drainsL L R C) [] [some (.land L), some (.pile []), none, none, none, none, none, none, none] (by
      rintro p b q e ρ ⟨pl, o2, rfl, h2, h3, h4, h5⟩
      have hb : b ∈ drainsL L R C := by
        rw [List.nil_append] at e
        rw [e]; simp
      obtain ⟨b1, b2⟩ := hdr b hb
      have hlt : p.length < (drainsL L R C).length := pre_len (by simpa using e)
      have hh := height_eq hg b1
      cases ho : getG L.g b with
      | none => exact absurd ho (hd b b1 b2)
      | some o =>
        rw [ho] at hh
        have hto : (fdL L R C).ht b = some o := by
          show (if inb R C b = true then getG L.g b else none) = some o
          rw [if_pos b1, ho]
        have hdo : (fdL L R C).dr b = true := by
          show (inb R C b && openB L.o b) = true
          rw [b1, b2]; rfl
        obtain ⟨pl', q1, q2, q3⟩ := put_tri (o, b, b) h2 (by omega)
        refine ⟨[some (.land L), some (.pile (pl'.map triD)), some (cellD b), none, none, none, none, none, none], ?_, pl', _, rfl, q2, ?_, ?_, ?_⟩
        · have q1' : F_Pile_put [.pile (pl.map triD), .tup [.int o, cellD b, cellD b]] = .ok (.rt .non [.pile (pl'.map triD), .non]) := q1
          have im : immA (pl.map triD) = true := immA_all triPP (all_tri pl)
          simp [g_spread_1, hh, hD, q1', immIn, im]
        · rw [q3.length_eq]; simp [h3]
        · intro h c f hm
          rcases List.mem_append.mp (q3.mem_iff.mp hm) with hm | hm
          · exact h4 h c f hm
          · rw [List.mem_singleton] at hm
            cases hm
            exact ⟨hto, hdo, rfl⟩
        · intro c hc
          rcases List.mem_append.mp hc with hc | hc
          · obtain ⟨o', e1, e2⟩ := h5 c hc
            exact ⟨o', e1, q3.mem_iff.mpr (List.mem_append.mpr (.inl e2))⟩
          · rw [List.mem_singleton] at hc
            subst hc
            exact ⟨o, hto, q3.mem_iff.mpr (by simp)⟩) ⟨[], none, rfl, fun i x y _ h => by simp at h, rfl, by simp, by simp⟩
  refine ⟨pl, o2, sFor_eq (ds := (drainsL L R C).map cellD) ?_ h1, h2, by rw [h3]; simpa using hfew, h4, fun c hc => ?_⟩
  · simp [drains_eq hg]
  · have hc' : inb R C c = true ∧ openB L.o c = true := by
      have : (inb R C c && openB L.o c) = true := hc
      rwa [Bool.and_eq_true] at this
    exact h5 c (by
      rw [List.nil_append]
      exact List.mem_filter.mpr ⟨mem_cells hc'.1, hc'.2⟩)
/-- what is put beside a cell -/
theorem spread2 {L : LandD} {R C : Nat} (hg : GOk L.g R C) {es : Es Cell} {h : Int} {c : Cell} {on best : D} {pl : List Tri} {o7 o8 : Option D} (hc : inb R C c = true) (hh : HeapL dlt (pl.map triD)) (hl : pl.length < 90000) :
    ∃ (pl' : List Tri) (a7 a8 : Option D), sFor (iSeq (eCall (aCons (e1 rowsD (eVar 0)) (aCons (e1 colsD (eVar 0)) (aCons (eVar 2) aNil))) F_beside)) (gN 7) g_spread_2 [some (.land L), some (.pile (pl.map triD)), some (cellD c), some (.dct (lvM es)), some on, some best, some (.int h), o7, o8] =
      .ok (.nx [some (.land L), some (.pile (pl'.map triD)), some (cellD c), some (.dct (lvM es)), some on, some best, some (.int h), a7, a8]) ∧ HeapL dlt (pl'.map triD) ∧ pl'.Perm (pl ++ news (fdL L R C) es h c) := by
  obtain ⟨ρ', h1, pl', a7, a8, rfl, h2, h3, h4⟩ := for_pres (s := gN 7) (g := g_spread_2) cellD
    (I := fun p ρ => ∃ (pl' : List Tri) (o7 o8 : Option D), ρ = [some (.land L), some (.pile (pl'.map triD)), some (cellD c), some (.dct (lvM es)), some on, some best, some (.int h), o7, o8] ∧ HeapL dlt (pl'.map triD) ∧ pl'.length ≤ pl.length + p.length ∧
      pl'.Perm (pl ++ p.filterMap (newO (fdL L R C) es h c)))
    (besideL R C c) [] [some (.land L), some (.pile (pl.map triD)), some (cellD c), some (.dct (lvM es)), some on, some best, some (.int h), o7, o8] (by
      rintro p b q e ρ ⟨pl', a7, a8, rfl, h2, h3, h4⟩
      have hb : b ∈ besideL R C c := by
        rw [List.nil_append] at e
        rw [e]; simp
      have b1 := beside_in hb
      have hlen : (besideL R C c).length ≤ 4 := List.length_filter_le _ _
      have hlt : p.length < (besideL R C c).length := pre_len (by simpa using e)
      have hh := height_eq hg b1
      have hte : (fdL L R C).ht b = getG L.g b := by
        show (if inb R C b = true then getG L.g b else none) = _
        rw [if_pos b1]
      rw [List.filterMap_append]
      cases ho : getG L.g b with
      | none =>
        rw [ho] at hh
        refine ⟨[some (.land L), some (.pile (pl'.map triD)), some (cellD c), some (.dct (lvM es)), some on, some best, some (.int h), some (cellD b), some .non], ?_, pl', _, _, rfl, h2, by simp; omega, ?_⟩
        · simp [g_spread_2, hh, hD]
        · rw [show List.filterMap _ [b] = ([] : List Tri) from by simp [newO, hte, ho], List.append_nil]
          exact h4
      | some o =>
        rw [ho] at hh
        have hin := in_lv true es b
        by_cases hk : b ∈ keysE es
        · rw [decide_eq_true hk] at hin
          refine ⟨[some (.land L), some (.pile (pl'.map triD)), some (cellD c), some (.dct (lvM es)), some on, some best, some (.int h), some (cellD b), some (.int o)], ?_, pl', _, _, rfl, h2, by simp; omega, ?_⟩
          · simp [g_spread_2, hh, hD, hin]
          · rw [show List.filterMap _ [b] = ([] : List Tri) from by simp [newO, hte, ho, hk], List.append_nil]
            exact h4
        · rw [decide_eq_false hk] at hin
          obtain ⟨pl2, q1, q2, q3⟩ := put_tri (max o h, b, c) h2 (by omega)
          have q1' : F_Pile_put [.pile (pl'.map triD), .tup [.int (max o h), cellD b, cellD c]] = .ok (.rt .non [.pile (pl2.map triD), .non]) := q1
          have im : immA (pl'.map triD) = true := immA_all triPP (all_tri pl')
          refine ⟨[some (.land L), some (.pile (pl2.map triD)), some (cellD c), some (.dct (lvM es)), some on, some best, some (.int h), some (cellD b), some (.int o)], ?_, pl2, _, _, rfl, q2, by rw [q3.length_eq]; simp; omega, ?_⟩
          · simp [g_spread_2, hh, hD, hin, max2_int, q1', immIn, im]
          · rw [show List.filterMap _ [b] = [((max o h, b, c) : Tri)] from by simp [newO, hte, ho, hk], ← List.append_assoc]
            exact q3.trans (h4.append_right _)) ⟨pl, o7, o8, rfl, hh, by simp, by simp⟩
  rw [List.nil_append] at h4 h3
  refine ⟨pl', a7, a8, sFor_eq (ds := (besideL R C c).map cellD) ?_ h1, h2, h4⟩
  simp [hg.len, hg.hd', beside_eq]
def spS (L : LandD) (pl : List Tri) (es : Es Cell) (o2 o5 o6 o7 o8 : Option D) : Rho := [some (.land L), some (.pile (pl.map triD)), o2, some (.dct (lvM es)), some (.dct (onM es)), o5, o6, o7, o8]
theorem spread_step {L : LandD} {R C : Nat} (hg : GOk L.g R C) {pl : List Tri} {es : Es Cell} {o2 o5 o6 o7 o8 : Option D} (hp : pl ≠ []) (hh : HeapL dlt (pl.map triD)) (I : Inv (fdL L R C) pl es) (h5 : pl.length + 5 * unl R C es ≤ 9000) (h6 : es.length + unl R C es ≤ 900) :
    ∃ (pl' : List Tri) (es' : Es Cell) (p2 p5 p6 p7 p8 : Option D), (g_spread_4 (spS L pl es o2 o5 o6 o7 o8) = .ok (.nx (spS L pl' es' p2 p5 p6 p7 p8)) ∨ g_spread_4 (spS L pl es o2 o5 o6 o7 o8) = .ok (.ct (spS L pl' es' p2 p5 p6 p7 p8))) ∧
      HeapL dlt (pl'.map triD) ∧ Inv (fdL L R C) pl' es' ∧ pl'.length + 5 * unl R C es' < pl.length + 5 * unl R C es ∧ es'.length + unl R C es' ≤ 900 := by
  cases pl with
  | nil => exact absurd rfl hp
  | cons r t =>
    obtain ⟨h, c, f⟩ := r
    obtain ⟨pl1, q1, q2, q3, q4⟩ := take_tri hh (by simp at h5 ⊢; omega)
    obtain ⟨o, ho, _⟩ := I.pe h c f (by simp)
    obtain ⟨hc, _⟩ := fd_in ho
    have im : immA (((h, c, f) :: t).map triD) = true := immA_all triPP (all_tri _)
    have imt : (triD (h, c, f)).imm = true := triPP.im _ ⟨_, rfl⟩
    have ix0 : ixD (triD (h, c, f)) (.int 0) = .ok (.int h) := ix_tup0 _ _
    have ix1 : ixD (triD (h, c, f)) (.int 1) = .ok (cellD c) := ix_tup1 _ _ _
    have ix2 : ixD (triD (h, c, f)) (.int 2) = .ok (cellD f) := ix_tup2 _ _ _ _
    have s1 : sSetX 5 (xMe .pile 1 [] aNil F_Pile_take) (spS L ((h, c, f) :: t) es o2 o5 o6 o7 o8) = .ok (.nx (spS L pl1 es o2 (some (triD (h, c, f))) o6 o7 o8)) := by
      simp only [spS]
      generalize ((h, c, f) :: t).map triD = xs at q1 im ⊢
      generalize triD (h, c, f) = r at q1 imt ⊢
      have e : immIn .pile (.pile xs) = immA xs := rfl
      simp [q1, e, im, imt]
    have s2 : sSet 6 (e2 ixD (eVar 5) (eC (.int 0))) (spS L pl1 es o2 (some (triD (h, c, f))) o6 o7 o8) = .ok (.nx (spS L pl1 es o2 (some (triD (h, c, f))) (some (.int h)) o7 o8)) := by
      simp [spS, ix0]
    have s3 : sSet 2 (e2 ixD (eVar 5) (eC (.int 1))) (spS L pl1 es o2 (some (triD (h, c, f))) (some (.int h)) o7 o8) = .ok (.nx (spS L pl1 es (some (cellD c)) (some (triD (h, c, f))) (some (.int h)) o7 o8)) := by
      simp [spS, ix1]
    have hin := in_lv false es c
    by_cases hk : c ∈ keysE es
    · rw [decide_eq_true hk] at hin
      refine ⟨pl1, es, some (cellD c), some (triD (h, c, f)), some (.int h), o7, o8, .inr (seq_to s1 (seq_to s2 (seq_to s3 ?_))), q2, (I.skip hk).perm q3, ?_, h6⟩
      · rw [sSeq_ap]
        rw [show sIf (tE (eIn false (eVar 2) (eVar 3))) sCt sNx (spS L pl1 es (some (cellD c)) (some (triD (h, c, f))) (some (.int h)) o7 o8) = .ok (.ct (spS L pl1 es (some (cellD c)) (some (triD (h, c, f))) (some (.int h)) o7 o8)) from by simp [spS, hin]]
        rfl
      · rw [q3.length_eq]; simp
    · rw [decide_eq_false hk] at hin
      have ke : ∀ x : Int × Cell, keysE (es ++ [(c, x)]) = keysE es ++ [c] := fun x => by simp [keysE]
      have hu : unl R C (es ++ [(c, h, if (fdL L R C).dr c = true then c else f)]) + 1 ≤ unl R C es := unl_step (mem_cells hc) hk (ke _)
      have hdr : (fdL L R C).dr c = openB L.o c := by
        show (inb R C c && openB L.o c) = _
        rw [hc]; rfl
      have hes : es.length < 100000 := by omega
      have d1 : decide ((lvM es).length < 100000) = true := decide_eq_true (by simpa [lvM] using hes)
      have d2 : decide ((onM es).length < 100000) = true := decide_eq_true (by simpa [onM] using hes)
      have d3 : decide ((onM (es ++ [(c, h, f)])).length < 100000) = true := decide_eq_true (by simp [onM]; omega)
      have isd := is_drain_eq hg hc
      obtain ⟨pl2, a7, a8, w1, w2, w3⟩ := spread2 (es := es ++ [(c, h, if (fdL L R C).dr c = true then c else f)]) (h := h) (on := .dct (onM (es ++ [(c, h, if (fdL L R C).dr c = true then c else f)]))) (best := triD (h, c, f)) (pl := pl1) (o7 := o7) (o8 := o8) hg hc q2 (by rw [q3.length_eq]; simp at h5; omega)
      have s4 : sIf (tE (eIn false (eVar 2) (eVar 3))) sCt sNx (spS L pl1 es (some (cellD c)) (some (triD (h, c, f))) (some (.int h)) o7 o8) = .ok (.nx (spS L pl1 es (some (cellD c)) (some (triD (h, c, f))) (some (.int h)) o7 o8)) := by simp [spS, hin]
      have s5 : sDput 3 (eVar 2) (eVar 6) (spS L pl1 es (some (cellD c)) (some (triD (h, c, f))) (some (.int h)) o7 o8) = .ok (.nx [some (.land L), some (.pile (pl1.map triD)), some (cellD c), some (.dct (lvM (es ++ [(c, h, if (fdL L R C).dr c = true then c else f)]))), some (.dct (onM es)), some (triD (h, c, f)), some (.int h), o7, o8]) := by
        simp only [spS]
        rw [sDput_ap]
        simp [d1]
        exact put_lv hk h _
      have s6 : sDput 4 (eVar 2) (e2 ixD (eVar 5) (eC (.int 2))) [some (.land L), some (.pile (pl1.map triD)), some (cellD c), some (.dct (lvM (es ++ [(c, h, if (fdL L R C).dr c = true then c else f)]))), some (.dct (onM es)), some (triD (h, c, f)), some (.int h), o7, o8] =
          .ok (.nx [some (.land L), some (.pile (pl1.map triD)), some (cellD c), some (.dct (lvM (es ++ [(c, h, if (fdL L R C).dr c = true then c else f)]))), some (.dct (onM (es ++ [(c, h, f)]))), some (triD (h, c, f)), some (.int h), o7, o8]) := by
        rw [sDput_ap]
        simp [d2, put_on hk h, ix2]
      have s7 : sIf (tE (eMe .land (eVar 0) (aCons (eVar 2) aNil) F_Land_is_drain)) (sDput 4 (eVar 2) (eVar 2)) sNx [some (.land L), some (.pile (pl1.map triD)), some (cellD c), some (.dct (lvM (es ++ [(c, h, if (fdL L R C).dr c = true then c else f)]))), some (.dct (onM (es ++ [(c, h, f)]))), some (triD (h, c, f)), some (.int h), o7, o8] =
          .ok (.nx [some (.land L), some (.pile (pl1.map triD)), some (cellD c), some (.dct (lvM (es ++ [(c, h, if (fdL L R C).dr c = true then c else f)]))), some (.dct (onM (es ++ [(c, h, if (fdL L R C).dr c = true then c else f)]))), some (triD (h, c, f)), some (.int h), o7, o8]) := by
        cases hb : openB L.o c with
        | true =>
          rw [hb] at isd hdr
          rw [sIf_ap]
          simp only [hdr, if_true]
          simp [isd, d3, put_on2 hk]
        | false =>
          rw [hb] at isd hdr
          simp only [hdr, Bool.false_eq_true, if_false]
          simp [isd]
      refine ⟨pl2, es ++ [(c, h, if (fdL L R C).dr c = true then c else f)], some (cellD c), some (triD (h, c, f)), some (.int h), a7, a8, .inl (seq_to s1 (seq_to s2 (seq_to s3 (seq_to s4 (seq_to s5 (seq_to s6 (seq_to s7 w1))))))), w2, I.take (fun h' c' f' hm => q4 _ hm) hk rfl (w3.trans (q3.append_right _)), ?_, ?_⟩
      · have l1 : pl2.length ≤ pl1.length + 4 := by
          rw [w3.length_eq, List.length_append]
          have : (news (fdL L R C) (es ++ [(c, h, if (fdL L R C).dr c = true then c else f)]) h c).length ≤ (besideL R C c).length := List.length_filterMap_le _ _
          have : (besideL R C c).length ≤ 4 := List.length_filter_le _ _
          omega
        have l2 := q3.length_eq
        simp only [List.length_cons]
        omega
      · rw [List.length_append, List.length_singleton]
        omega
theorem spread_eq {L : LandD} {R C : Nat} (hg : GOk L.g R C) (hd : DrOk L R C) : ∃ es, F_spread [.land L] = .ok (.tup [.dct (lvM es), .dct (onM es)]) ∧ Done (fdL L R C) es ∧ es.length ≤ 900 := by
  obtain ⟨pl, o2, h1, h2, h3, h4, h5⟩ := spread1 hg hd
  have h900 : R * C ≤ 900 := Nat.mul_le_mul hg.r30 hg.c30
  have hu : unl R C ([] : Es Cell) ≤ R * C := by
    rw [← cells_len]
    exact List.length_filter_le _ _
  have hw := while_inv (t := g_spread_3) (g := g_spread_4) (f := 100000) (n := pl.length + 5 * unl R C []) (ρ := spS L pl [] o2 none none none none)
    (I := fun n ρ => n ≤ 9000 ∧ ∃ (pl : List Tri) (es : Es Cell) (o2 o5 o6 o7 o8 : Option D), ρ = spS L pl es o2 o5 o6 o7 o8 ∧ HeapL dlt (pl.map triD) ∧ Inv (fdL L R C) pl es ∧ pl.length + 5 * unl R C es = n ∧ es.length + unl R C es ≤ 900)
    (E := fun o => ∃ (es : Es Cell) (o1 o2 o5 o6 o7 o8 : Option D), o = .nx [some (.land L), o1, o2, some (.dct (lvM es)), some (.dct (onM es)), o5, o6, o7, o8] ∧ Done (fdL L R C) es ∧ es.length ≤ 900) (by
      rintro n ρ ⟨hn, pl, es, o2, o5, o6, o7, o8, rfl, c1, c2, c3, c4⟩
      have ht : g_spread_3 (spS L pl es o2 o5 o6 o7 o8) = .ok (decide (0 < pl.length)) := by
        simp [g_spread_3, spS, many_eq]
      rw [ht]
      cases pl with
      | nil =>
        exact .inl ⟨rfl, es, _, _, _, _, _, _, rfl, c2.done, by omega⟩
      | cons r t =>
        refine .inr ⟨by simp, .inl ?_⟩
        obtain ⟨pl', es', p2, p5, p6, p7, p8, d1, d2, d3, d4, d5⟩ := spread_step (o2 := o2) (o5 := o5) (o6 := o6) (o7 := o7) (o8 := o8) hg (by simp) c1 c2 (by omega) c4
        exact ⟨_, pl'.length + 5 * unl R C es', by omega, d1, by omega, pl', es', p2, p5, p6, p7, p8, rfl, d2, d3, rfl, d5⟩) (by omega)
    ⟨by omega, pl, [], o2, none, none, none, none, rfl, h2, .start h4 h5, rfl, by simp; omega⟩
  obtain ⟨o, ho, es, o1, p2, p5, p6, p7, p8, rfl, c1, c2⟩ := hw
  refine ⟨es, ?_, c1, c2⟩
  refine runF_rt (ρ := [some (.land L), o1, p2, some (.dct (lvM es)), some (.dct (onM es)), p5, p6, p7, p8]) rfl (by decide) ?_
  refine seq_to (ρ1 := [some (.land L), some (.pile []), none, none, none, none, none, none, none]) ?_ ?_
  · simp [startD, F_Pile_init, runM, g_Pile_init, sPile0]
  refine seq_to h1 ?_
  refine seq_to (ρ1 := [some (.land L), some (.pile (pl.map triD)), o2, some (.dct []), none, none, none, none, none]) (by simp) ?_
  refine seq_to (ρ1 := spS L pl [] o2 none none none none) (by simp [spS]; exact ⟨rfl, rfl⟩) ?_
  refine seq_to ho ?_
  simp
theorem fd_ht {L : LandD} {R C : Nat} {c : Cell} (hc : inb R C c = true) : (fdL L R C).ht c = getG L.g c := if_pos hc
theorem rg1_eq {f : EF} {ρ : Rho} {n : Nat} (h : f ρ = .ok (.int (n : Int))) (hn : n ≤ 1000) : iRg1 f ρ = .ok ((List.range n).map fun (i : Nat) => D.int (i : Int)) := by
  rw [iRg1_ap, h]
  have b : (decide (-(2 ^ 62) ≤ (n : Int)) && decide ((n : Int) < 2 ^ 62)) = true := by simp; omega
  simp only [O.bind_ok]
  rw [b, ← rngD_map]
  rfl
/-! equal lists -/
theorem lay_cell (p : Cell) : (toPy (cellD p)).canLay0 = true ∧ (toPy (cellD p)).depth ≤ 60 := by
  simp [cellD, toPyA_map, PyData.canLay0, PyData.canLayAll0, PyData.depth, PyData.depthAll]
theorem eqv_cell (p q : Cell) : PyData.eqv (toPy (cellD p)) (toPy (cellD q)) = decide (p = q) := by
  obtain ⟨a, b⟩ := p
  obtain ⟨a', b'⟩ := q
  simp only [cellD, toPy_tup, toPyA_map, List.map_cons, List.map_nil, toPy_int, PyData.eqv, PyData.eqvAll, Prod.mk.injEq]
  by_cases h1 : a = a' <;> by_cases h2 : b = b' <;> simp [h1, h2]
theorem eq_cells (neg : Bool) (l l' : List Cell) : eqD neg (.lst (l.map cellD)) (.lst (l'.map cellD)) = .ok (.bl (neg != decide (l = l'))) := eq_list cellD lay_cell eqv_cell neg l l'
theorem lay_hD (h : Option Int) : (toPy (hD h)).canLay0 = true ∧ (toPy (hD h)).depth ≤ 59 := by
  cases h <;> simp [hD, PyData.canLay0, PyData.depth]
theorem eqv_hD (a b : Option Int) : PyData.eqv (toPy (hD a)) (toPy (hD b)) = decide (a = b) := by
  cases a <;> cases b <;> simp [hD, PyData.eqv]
  rw [Bool.eq_iff_iff]; simp
theorem lay_row (r : List (Option Int)) : (toPy (rowD r)).canLay0 = true ∧ (toPy (rowD r)).depth ≤ 60 := by
  obtain ⟨h1, h2⟩ := laid_list hD 59 lay_hD r
  simp only [rowD, toPy_lst, PyData.canLay0, PyData.depth]
  exact ⟨h1, by omega⟩
theorem eqv_row (a b : List (Option Int)) : PyData.eqv (toPy (rowD a)) (toPy (rowD b)) = decide (a = b) := by
  simp only [rowD, toPy_lst, PyData.eqv]
  exact eqv_list hD eqv_hD a b
theorem eq_rows (neg : Bool) (l l' : List (List (Option Int))) : eqD neg (.lst (l.map rowD)) (.lst (l'.map rowD)) = .ok (.bl (neg != decide (l = l'))) := eq_list rowD lay_row eqv_row neg l l'
theorem eq_hD (neg : Bool) (a b : Option Int) : eqD neg (hD a) (hD b) = .ok (.bl (neg != decide (a = b))) := by
  cases a with
  | none => cases b <;> cases neg <;> rfl
  | some i => cases b with
    | none => cases neg <;> rfl
    | some j => simp [hD]
theorem lay_cell' (p : Cell) : SeqAt.shaped (toPy (cellD p)) = true := by
  obtain ⟨h1, h2⟩ := lay_cell p
  simp only [cellD, toPy_tup, SeqAt.shaped] at h1 h2 ⊢
  rw [h1, Bool.true_and, decide_eq_true_eq]
  omega
theorem eq_cell (neg : Bool) (p q : Cell) : eqD neg (cellD p) (cellD q) = .ok (.bl (neg != decide (p = q))) := by
  unfold eqD
  rw [lay_cell', lay_cell', eqv_cell]
  rfl
/-! the law's own defs -/
@[simp] theorem lwhole_int (i : Int) : F_law_whole [.int i] = .ok (.bl true) := rfl
theorem cell_at_eq (ns : List Int) (k : Nat) : F_law_cell_at [.lst (ns.map .int), .int (k : Int)] = .ok (.int (ns.getD k 0)) := by
  by_cases h : k < ns.length
  · simp [F_law_cell_at, runF, g_law_cell_at, startD, h, List.getD]
  · simp [F_law_cell_at, runF, g_law_cell_at, startD, h, List.getD]
/-! the law's grid -/
def law_sizes : List D := [.tup [.int 1, .int 30], .tup [.int 30, .int 1], .tup [.int 5, .int 5], .tup [.int 2, .int 12], .tup [.int 2, .int 30], .tup [.int 30, .int 2], .tup [.int 6, .int 7], .tup [.int 12, .int 11]]
def sizeD (p : Nat × Nat) : D := .tup [.int p.1, .int p.2]
theorem size_eq (x : Int) : ∃ R C : Nat, F_law_size [.int x] = .ok (sizeD (R, C)) ∧ 1 ≤ R ∧ R ≤ 30 ∧ 1 ≤ C ∧ C ≤ 30 ∧ R * C ≤ 132 := by
  have e8 := Int.emod_nonneg (x / 160) (b := 8) (by decide)
  have l8 := Int.emod_lt_of_pos (x / 160) (b := 8) (by decide)
  have e4 := Int.emod_nonneg x (b := 4) (by decide)
  have l4 := Int.emod_lt_of_pos x (b := 4) (by decide)
  have e5 := Int.emod_nonneg (x / 4) (b := 5) (by decide)
  have l5 := Int.emod_lt_of_pos (x / 4) (b := 5) (by decide)
  obtain ⟨m, hm⟩ := Int.eq_ofNat_of_zero_le e8
  obtain ⟨a, ha⟩ := Int.eq_ofNat_of_zero_le e4
  obtain ⟨b, hb⟩ := Int.eq_ofNat_of_zero_le e5
  by_cases h : x / 20 % 8 = 1
  · have hm8 : m < 8 := by omega
    have key : ∃ R C : Nat, ixD (.lst law_sizes) (.int (m : Int)) = .ok (sizeD (R, C)) ∧ 1 ≤ R ∧ R ≤ 30 ∧ 1 ≤ C ∧ C ≤ 30 ∧ R * C ≤ 132 := by
      rw [ix_lst_nat]
      rcases m with _ | _ | _ | _ | _ | _ | _ | _ | m
      all_goals first | omega | exact ⟨_, _, rfl, by decide, by decide, by decide, by decide, by decide⟩
    obtain ⟨R, C, hx, rest⟩ := key
    refine ⟨R, C, ?_, rest⟩
    unfold law_sizes at hx
    simp [F_law_size, runF, g_law_size, startD, h, hm, -ix_lst_nat]
    rw [hx]
    simp [sizeD]
  · refine ⟨1 + a, 1 + b, ?_, by omega, by omega, by omega, by omega, ?_⟩
    · simp [F_law_size, runF, g_law_size, startD, h, ha, hb, sizeD]
    · have : (1 + a) * (1 + b) ≤ 4 * 5 := Nat.mul_le_mul (by omega) (by omega)
      omega
theorem number_eq (ns : List Int) (k : Nat) (hk : k < 1000) : ∃ i, F_law_number [.lst (ns.map .int), .int (k : Int)] = .ok (.int i) := by
  have c1 : F_law_cell_at [.lst (ns.map .int), .int 1] = .ok (.int (ns.getD 1 0)) := cell_at_eq ns 1
  have c2 : F_law_cell_at [.lst (ns.map .int), .int 2] = .ok (.int (ns.getD 2 0)) := cell_at_eq ns 2
  generalize ns.getD 1 0 = x1 at c1
  generalize ns.getD 2 0 = x2 at c2
  have b1 : decide ((-18446744073709551616 : Int) < (k : Int)) = true := decide_eq_true (by omega)
  have b2 : decide ((k : Int) < 18446744073709551616) = true := decide_eq_true (by omega)
  have b1' : (-18446744073709551616 : Int) < (k : Int) := by omega
  have b2' : (k : Int) < 18446744073709551616 := by omega
  by_cases h : k + 3 < ns.length
  · have h' : (k : Int) + 3 < (ns.length : Int) := by omega
    have e : ixD (.lst (ns.map .int)) (.int ((k : Int) + 3)) = .ok (.int (ns[k + 3])) := by
      have := ix_lst_nat (ns.map D.int) (k + 3)
      rw [List.getElem?_map, List.getElem?_eq_getElem h] at this
      exact this
    refine ⟨ns[k + 3], ?_⟩
    simp [F_law_number, runF, g_law_number, startD, h', e]
  · have h' : ¬ (k : Int) + 3 < (ns.length : Int) := by omega
    refine ⟨7 * x1 + x2 * (k : Int) * (k : Int) + 13 * (k : Int), ?_⟩
    simp [F_law_number, runF, g_law_number, startD, h', c1, c2, b1', b2', mulD]
theorem height_by_eq (x : Int) (k : Nat) : ∃ h, F_law_height_by [.int x, .int (k : Int)] = .ok (hD h) ∧ hOk h = true := by
  have e3 := Int.emod_nonneg (x / 9) (b := 3) (by decide)
  have l3 := Int.emod_lt_of_pos (x / 9) (b := 3) (by decide)
  have e12 := Int.emod_nonneg (x / 9) (b := 12) (by decide)
  have l12 := Int.emod_lt_of_pos (x / 9) (b := 12) (by decide)
  have eb := Int.emod_nonneg (x / 9) (b := 1000000001) (by decide)
  have lb := Int.emod_lt_of_pos (x / 9) (b := 1000000001) (by decide)
  have e2 := Int.emod_nonneg (x / 9) (b := 2) (by decide)
  have l2 := Int.emod_lt_of_pos (x / 9) (b := 2) (by decide)
  by_cases h : x % 9 = 8
  · exact ⟨none, by simp [F_law_height_by, runF, g_law_height_by, startD, h, hD], rfl⟩
  · by_cases h0 : k = 0
    · exact ⟨some (x / 9 % 3), by simp [F_law_height_by, runF, g_law_height_by, startD, h, hD, h0], by simp [hOk]; omega⟩
    · by_cases h1 : k = 1
      · exact ⟨some (x / 9 % 12), by simp [F_law_height_by, runF, g_law_height_by, startD, h, hD, h1], by simp [hOk]; omega⟩
      · by_cases h2 : k = 2
        · exact ⟨some (x / 9 % 1000000001), by simp [F_law_height_by, runF, g_law_height_by, startD, h, hD, h2], by simp [hOk]; omega⟩
        · have h0' : ¬ (k : Int) = 0 := by omega
          have h1' : ¬ (k : Int) = 1 := by omega
          have h2' : ¬ (k : Int) = 2 := by omega
          exact ⟨some (1000000000 - x / 9 % 2), by simp [F_law_height_by, runF, g_law_height_by, startD, h, hD, h0, h0', h1', h2'], by simp [hOk]; omega⟩
theorem all_hD : ∀ {xs : List D}, (∀ x ∈ xs, ∃ h, x = hD h ∧ hOk h = true) → ∃ r : List (Option Int), xs = r.map hD ∧ ∀ h ∈ r, hOk h = true
  | [], _ => ⟨[], rfl, by simp⟩
  | x :: xs, h => by
    obtain ⟨y, rfl, hy⟩ := h x (by simp)
    obtain ⟨r, rfl, hr⟩ := all_hD (xs := xs) fun x hx => h x (List.mem_cons_of_mem _ hx)
    exact ⟨y :: r, rfl, fun z hz => (List.mem_cons.mp hz).elim (fun e => by rw [e]; exact hy) fun e => hr z e⟩
theorem grid_eq (ns : List Int) : ∃ g R C, F_law_grid [.lst (ns.map .int)] = .ok (.lst (g.map rowD)) ∧ GOk g R C ∧ gOk g ∧ R * C ≤ 132 := by
  obtain ⟨R, C, hsz, r1, r30, c1, c30, hrc⟩ := size_eq (ns.getD 0 0)
  have k0 := Int.emod_nonneg (ns.getD 1 0) (b := 4) (by decide)
  obtain ⟨kd, hkd⟩ := Int.eq_ofNat_of_zero_le k0
  have c0 : F_law_cell_at [.lst (ns.map .int), .int 0] = .ok (.int (ns.getD 0 0)) := cell_at_eq ns 0
  have c1' : F_law_cell_at [.lst (ns.map .int), .int 1] = .ok (.int (ns.getD 1 0)) := cell_at_eq ns 1
  have hnum := number_eq ns
  generalize ns.getD 0 0 = x0 at *
  generalize ns.getD 1 0 = x1 at *
  generalize hS : D.lst (ns.map .int) = S at *
  let I : Nat → Rho → Prop := fun n ρ => ∃ (g : List (List (Option Int))) (x y : Option D), ρ = [some S, some (sizeD (R, C)), some (.int (kd : Int)), some (.lst (g.map rowD)), x, y, none, none] ∧ g.length = n ∧ (∀ r ∈ g, r.length = C) ∧ gOk g
  obtain ⟨ρ1, e1, g, x, y, rfl, hgl, hrow, hgo⟩ := for_idx (I := I) (n := 0) (s := gN 4) (g := g_law_grid_3) (ds := rngD 0 R) (ρ := [some S, some (sizeD (R, C)), some (.int (kd : Int)), some (.lst []), none, none, none, none]) (fun m d hd ρ hI => by
    obtain ⟨g, x, y, rfl, hgl, hrow, hgo⟩ := hI
    rw [rngD_map, List.getElem?_map] at hd
    have hm : m < R := by
      by_cases h : m < R
      · exact h
      · rw [List.getElem?_eq_none (by simpa using h)] at hd; cases hd
    rw [List.getElem?_range hm] at hd
    cases hd
    have b2 : (decide (-(2 ^ 62) ≤ (C : Int)) && decide ((C : Int) < 2 ^ 62)) = true := by simp; omega
    have hrg : ∀ ρ' : Rho, ρ'[1]? = some (some (sizeD (R, C))) → iRg1 (e2 ixD (eVar 1) (eC (.int 1))) ρ' = .ok (rngD 0 C) := fun ρ' h => by
      rw [iRg1_ap, e2_ap, show eVar 1 ρ' = .ok (sizeD (R, C)) by unfold eVar; rw [h]]
      simp only [O.bind_ok, eC_ap, sizeD, ix_tup1]
      rw [b2]
      rfl
    obtain ⟨nums, hn1, hn2, hn3⟩ := cGo_ex (i := 6) (f := g_law_grid_1) (ρ := [some S, some (sizeD (R, C)), some (.int (kd : Int)), some (.lst (g.map rowD)), some (.int (m : Int)), y, none, none]) (P := fun x => ∃ i, x = .int i) (ds := rngD 0 C) (fun d hd => by
      rw [rngD_map, List.mem_map] at hd
      obtain ⟨cc, hcc, rfl⟩ := hd
      have hcc : cc < C := by simpa using hcc
      have hmc : m * C ≤ 30 * 30 := Nat.mul_le_mul (by omega) c30
      obtain ⟨i, hi⟩ := hnum (m * C + cc) (by omega)
      refine ⟨.int i, ?_, i, rfl⟩
      rw [show (((m * C + cc : Nat) : Int)) = (m : Int) * (C : Int) + (cc : Int) by simp] at hi
      have hm1 : (-18446744073709551616 : Int) < (m : Int) := by omega
      have hm2 : (m : Int) < 18446744073709551616 := by omega
      simp [g_law_grid_1, sizeD, hi, mulD, hm1, hm2])
    obtain ⟨hs, hh1, hh2, hh3⟩ := cGo_ex (i := 7) (f := g_law_grid_2) (ρ := [some S, some (sizeD (R, C)), some (.int (kd : Int)), some (.lst (g.map rowD)), some (.int (m : Int)), some (.lst nums), none, none]) (P := fun x => ∃ h, x = hD h ∧ hOk h = true) (ds := nums) (fun d hd => by
      obtain ⟨i, rfl⟩ := hn3 d hd
      obtain ⟨h, h1, h2⟩ := height_by_eq i kd
      exact ⟨_, by simp [g_law_grid_2, h1], h, rfl, h2⟩)
    obtain ⟨r, rfl, hr⟩ := all_hD hh3
    have hnl : nums.length = C := by rw [hn2]; simp [rngD]
    refine ⟨[some S, some (sizeD (R, C)), some (.int (kd : Int)), some (.lst ((g ++ [r]).map rowD)), some (.int (m : Int)), some (.lst nums), none, none], ?_, g ++ [r], _, _, rfl, by simp [hgl], fun r' hr' => ?_, fun r' hr' => ?_⟩
    · have h4 : gN 4 (.int (m : Int)) [some S, some (sizeD (R, C)), some (.int (kd : Int)), some (.lst (g.map rowD)), x, y, none, none] = .ok [some S, some (sizeD (R, C)), some (.int (kd : Int)), some (.lst (g.map rowD)), some (.int (m : Int)), y, none, none] := by simp
      rw [h4, O.bind_ok]
      unfold g_law_grid_3
      refine seq_to (ρ1 := [some S, some (sizeD (R, C)), some (.int (kd : Int)), some (.lst (g.map rowD)), some (.int (m : Int)), some (.lst nums), none, none]) (set_eq (eLc_eq (hrg _ rfl) (by simp) (by simp [rngD]; omega) hn1) (by simp)) ?_
      have h5 : eLc (iSeq (eVar 5)) 7 tTr g_law_grid_2 [some S, some (sizeD (R, C)), some (.int (kd : Int)), some (.lst (g.map rowD)), some (.int (m : Int)), some (.lst nums), none, none] = .ok (rowD r) := eLc_eq (ds := nums) rfl (by simp) (by omega) hh1
      have hz : g.length < 100000 := by omega
      rw [sAppO_ap, h5]
      simp [hz]
    · rcases List.mem_append.mp hr' with h | h
      · exact hrow r' h
      · have : r' = r := by simpa using h
        rw [this]
        have := hh2
        rw [List.length_map] at this
        omega
    · rcases List.mem_append.mp hr' with h | h
      · exact hgo r' h
      · have : r' = r := by simpa using h
        rw [this]; exact hr) ⟨[], none, none, rfl, rfl, by simp, by intro r hr; simp at hr⟩
  refine ⟨g, R, C, ?_, ⟨r1, r30, c1, c30, by simpa [rngD] using hgl, hrow⟩, hgo, hrc⟩
  refine runF_rt rfl (by decide) (ρ := [some S, some (sizeD (R, C)), some (.int (kd : Int)), none, x, y, none, none]) ?_
  unfold g_law_grid
  refine seq_to (ρ1 := [some S, some (sizeD (R, C)), none, none, none, none, none, none]) (by simp [startD, c0, hsz]) ?_
  refine seq_to (ρ1 := [some S, some (sizeD (R, C)), some (.int (kd : Int)), none, none, none, none, none]) (by simp [c1', hkd]) ?_
  refine seq_to (ρ1 := [some S, some (sizeD (R, C)), some (.int (kd : Int)), some (.lst []), none, none, none, none]) (by simp) ?_
  have b1 : (decide (-(2 ^ 62) ≤ (R : Int)) && decide ((R : Int) < 2 ^ 62)) = true := by simp; omega
  refine seq_to (sFor_eq (ds := rngD 0 R) ?_ e1) (by simp)
  rw [iRg1_ap, e2_ap, show eVar 1 [some S, some (sizeD (R, C)), some (.int (kd : Int)), some (.lst []), none, none, none, none] = .ok (sizeD (R, C)) from rfl]
  simp only [O.bind_ok, eC_ap, sizeD, ix_tup0]
  rw [b1]
  rfl
/-! the law's drains, land and cells beside -/
theorem ix_grid {g : List (List (Option Int))} {R C : Nat} (hg : GOk g R C) {p : Cell} (hp : inb R C p = true) : ∃ r : List (Option Int), ixD (.lst (g.map rowD)) (.int p.1) = .ok (rowD r) ∧ ixD (rowD r) (.int p.2) = .ok (hD (getG g p)) ∧ r.length = C := by
  obtain ⟨i, j, rfl, hi, hj⟩ := inb_nat hp
  obtain ⟨r, e1, e2, e3⟩ := get_at hg hi hj
  exact ⟨r, by simp [e1], by simp [rowD, e2], e3⟩
theorem inb_mk {R C i j : Nat} (hi : i < R) (hj : j < C) : inb R C ((i : Int), (j : Int)) = true := by
  simp [inb]; omega
theorem isnt_hD (h : Option Int) : isND true (hD h) .non = .ok (.bl h.isSome) := by cases h <;> rfl
theorem grid_row0 {g : List (List (Option Int))} {R C : Nat} (hg : GOk g R C) : ∃ r : List (Option Int), ixD (.lst (g.map rowD)) (.int 0) = .ok (rowD r) ∧ r.length = C := by
  obtain ⟨r, h1, _, h3⟩ := ix_grid hg (p := ((0 : Nat), (0 : Nat))) (inb_mk (by have := hg.r1; omega) (by have := hg.c1; omega))
  exact ⟨r, h1, h3⟩
theorem drains_law (ns : List Int) {g : List (List (Option Int))} {R C : Nat} (hg : GOk g R C) :
    ∃ q : Cell → Bool, F_law_drains [.lst (ns.map .int), .lst (g.map rowD)] = .ok (.lst (((cellsL R C).filter q).map cellD)) ∧ ∀ c, q c = true → getG g c ≠ none := by
  have c2 : F_law_cell_at [.lst (ns.map .int), .int 2] = .ok (.int (ns.getD 2 0)) := cell_at_eq ns 2
  generalize ns.getD 2 0 = x at c2
  have e5 := Int.emod_nonneg (x / 60) (b := 5) (by decide)
  have l5 := Int.emod_lt_of_pos (x / 60) (b := 5) (by decide)
  obtain ⟨m, hm⟩ := Int.eq_ofNat_of_zero_le e5
  have hev : ∃ ev : Int, ixD (.lst [.int 2, .int 3, .int 5, .int 9, .int 14]) (.int (m : Int)) = .ok (.int ev) ∧ 0 < ev := by
    have hm5 : m < 5 := by omega
    rw [ix_lst_nat]
    rcases m with _ | _ | _ | _ | _ | m
    all_goals first | omega | exact ⟨_, rfl, by decide⟩
  obtain ⟨ev, hev1, hev2⟩ := hev
  have y0 := Int.emod_nonneg (x / 12) (b := 5) (by decide)
  have y5 := Int.emod_lt_of_pos (x / 12) (b := 5) (by decide)
  obtain ⟨r0, hr0, hr0l⟩ := grid_row0 hg
  have h900 : R * C ≤ 900 := Nat.mul_le_mul hg.r30 hg.c30
  let q : Cell → Bool := fun c => (getG g c).isSome && decide ((x + (c.1 * (C : Int) + c.2) * (1 + x / 12 % 5)) % ev = 0)
  refine ⟨q, ?_, fun c hc => ?_⟩
  · generalize hS : D.lst (ns.map .int) = S at *
    generalize hG : D.lst (g.map rowD) = G at *
    have hlenG : lenD G = .ok (.int (R : Int)) := by rw [← hG]; simp [hg.len]
    obtain ⟨ρ1, h1, o5, o6, o7, rfl⟩ := for_pres (s := gN 5) (g := g_law_drains_2) (fun (i : Nat) => D.int (i : Int))
      (I := fun p ρ => ∃ o5 o6 o7 : Option D, ρ = [some S, some G, some (.int x), some (.int ev), some (.lst (((blkc C p).filter q).map cellD)), o5, o6, o7])
      (List.range R) [] [some S, some G, some (.int x), some (.int ev), some (.lst []), none, none, none] (by
        rintro p b qq e ρ ⟨o5, o6, o7, rfl⟩
        rw [List.nil_append] at e
        have hb : b < R := by
          have : b ∈ List.range R := by rw [e]; simp
          simpa using this
        have hpl : p.length < R := by
          have := pre_len e
          simpa using this
        obtain ⟨ρ2, h2, a6, a7, rfl⟩ := for_pres (s := gN 6) (g := g_law_drains_1) (fun (i : Nat) => D.int (i : Int))
          (I := fun p2 ρ => ∃ o6 o7 : Option D, ρ = [some S, some G, some (.int x), some (.int ev), some (.lst (((blkc C p ++ p2.map fun (j : Nat) => ((b : Int), (j : Int))).filter q).map cellD)), some (.int (b : Int)), o6, o7])
          (List.range C) [] [some S, some G, some (.int x), some (.int ev), some (.lst (((blkc C p).filter q).map cellD)), some (.int (b : Int)), o6, o7] (by
            rintro p2 b2 q2 ee ρ ⟨o6, o7, rfl⟩
            rw [List.nil_append] at ee
            have hb2 : b2 < C := by
              have : b2 ∈ List.range C := by rw [ee]; simp
              simpa using this
            have hpl2 : p2.length < C := by
              have := pre_len ee
              simpa using this
            obtain ⟨r, hr1, hr2, hr3⟩ := ix_grid hg (inb_mk hb hb2)
            rw [hG] at hr1
            have hfew : ((blkc C p ++ p2.map fun (j : Nat) => ((b : Int), (j : Int))).filter q).length < 100000 := by
              refine Nat.lt_of_le_of_lt (List.length_filter_le _ _) ?_
              rw [List.length_append, blkc_len, List.length_map]
              have : (p.length + 1) * C ≤ R * C := Nat.mul_le_mul (by omega) (Nat.le_refl _)
              rw [Nat.succ_mul] at this
              omega
            refine ⟨[some S, some G, some (.int x), some (.int ev), some (.lst (((blkc C p ++ (p2 ++ [b2]).map fun (j : Nat) => ((b : Int), (j : Int))).filter q).map cellD)), some (.int (b : Int)), some (.int (b2 : Int)), some (.int ((b : Int) * (C : Int) + (b2 : Int)))], ?_, _, _, rfl⟩
            have m1 : ((decide (-(2 ^ 64) < (b : Int)) && decide ((b : Int) < 2 ^ 64)) || (decide (-(2 ^ 64) < (C : Int)) && decide ((C : Int) < 2 ^ 64))) = true := by
              have : (decide (-(2 ^ 64) < (b : Int)) && decide ((b : Int) < 2 ^ 64)) = true := by
                rw [Bool.and_eq_true, decide_eq_true_eq, decide_eq_true_eq]
                have := hg.r30
                omega
              rw [this]; rfl
            have m2 : ∀ z : Int, ((decide (-(2 ^ 64) < z) && decide (z < 2 ^ 64)) || (decide (-(2 ^ 64) < 1 + x / 12 % 5) && decide (1 + x / 12 % 5 < 2 ^ 64))) = true := fun z => by
              have : (decide (-(2 ^ 64) < 1 + x / 12 % 5) && decide (1 + x / 12 % 5 < 2 ^ 64)) = true := by
                rw [Bool.and_eq_true, decide_eq_true_eq, decide_eq_true_eq]
                omega
              rw [this, Bool.or_true]
            have hg6 : gN 6 (.int (b2 : Int)) [some S, some G, some (.int x), some (.int ev), some (.lst (((blkc C p ++ p2.map fun (j : Nat) => ((b : Int), (j : Int))).filter q).map cellD)), some (.int (b : Int)), o6, o7] = .ok [some S, some G, some (.int x), some (.int ev), some (.lst (((blkc C p ++ p2.map fun (j : Nat) => ((b : Int), (j : Int))).filter q).map cellD)), some (.int (b : Int)), some (.int (b2 : Int)), o7] := by simp
            have hR : (blkc C p ++ (p2 ++ [b2]).map fun (j : Nat) => ((b : Int), (j : Int))).filter q = (blkc C p ++ p2.map fun (j : Nat) => ((b : Int), (j : Int))).filter q ++ [((b : Int), (b2 : Int))].filter q := by
              rw [List.map_append, ← List.append_assoc, List.filter_append]; rfl
            rw [hg6, O.bind_ok, hR]
            generalize (blkc C p ++ p2.map fun (j : Nat) => ((b : Int), (j : Int))).filter q = acc at hfew ⊢
            unfold g_law_drains_1
            refine seq_to (ρ1 := [some S, some G, some (.int x), some (.int ev), some (.lst (acc.map cellD)), some (.int (b : Int)), some (.int (b2 : Int)), some (.int ((b : Int) * (C : Int) + (b2 : Int)))]) ?_ ?_
            · have hlr : lenD (rowD r0) = .ok (.int (C : Int)) := by rw [len_row, hr0l]
              simp only [sSet_ap, e2_ap, e1_ap, eVar_s, eVar_zs, eC_ap, O.bind_ok, hr0, hlr, mulD_int, m1, gd_true, addD_int]
              rfl
            · have ht : tAndF (tE (e2 (isND true) (e2 ixD (e2 ixD (eVar 1) (eVar 5)) (eVar 6)) (eC .non))) (tE (e2 (eqD false) (e2 modD (e2 addD (eVar 2) (e2 mulD (eVar 7) (e2 addD (eC (.int 1)) (e2 modD (e2 divD (eVar 2) (eC (.int 12))) (eC (.int 5)))))) (eVar 3)) (eC (.int 0)))) [some S, some G, some (.int x), some (.int ev), some (.lst (acc.map cellD)), some (.int (b : Int)), some (.int (b2 : Int)), some (.int ((b : Int) * (C : Int) + (b2 : Int)))] = .ok (q ((b : Int), (b2 : Int))) := by
                have z1 : (decide ((0 : Int) < 12) && decide ((12 : Int) < 1073741824)) = true := rfl
                have z2 : decide ((0 : Int) < 5) = true := rfl
                simp only [tAndF_ap, tE_ap, e2_ap, eVar_s, eVar_zs, eC_ap, O.bind_ok, hr1, hr2, isnt_hD, divD_int, modD_int, z1, z2, gd_true, addD_int, mulD_int, m2, decide_eq_true hev2, eq_int]
                show _ = O.ok ((getG g ((b : Int), (b2 : Int))).isSome && decide ((x + ((b : Int) * (C : Int) + (b2 : Int)) * (1 + x / 12 % 5)) % ev = 0))
                cases (getG g ((b : Int), (b2 : Int))).isSome <;> simp
              rw [sIf_ap, ht, O.bind_ok]
              have hz : decide (acc.length < 100000) = true := decide_eq_true hfew
              cases hq : q ((b : Int), (b2 : Int)) with
              | true => simp [hq, hz, cellD]
              | false => simp [hq]) ⟨o6, o7, by simp⟩
        refine ⟨_, ?_, some (.int (b : Int)), a6, a7, rfl⟩
        have hg5 : gN 5 (.int (b : Int)) [some S, some G, some (.int x), some (.int ev), some (.lst (((blkc C p).filter q).map cellD)), o5, o6, o7] = .ok [some S, some G, some (.int x), some (.int ev), some (.lst (((blkc C p).filter q).map cellD)), some (.int (b : Int)), o6, o7] := by simp
        rw [hg5, O.bind_ok, blkc_snoc]
        refine sFor_eq (rg1_eq (n := C) ?_ (by have := hg.c30; omega)) ?_
        · have hlr : lenD (rowD r0) = .ok (.int (C : Int)) := by rw [len_row, hr0l]
          simp only [e2_ap, e1_ap, eVar_s, eVar_zs, eC_ap, O.bind_ok, hr0, hlr]
        · rw [List.nil_append] at h2
          exact h2) ⟨none, none, none, by simp⟩
    rw [List.nil_append] at h1
    refine runF_rt rfl (by decide) (ρ := [some S, some G, some (.int x), some (.int ev), none, o5, o6, o7]) ?_
    unfold g_law_drains
    refine seq_to (ρ1 := [some S, some G, some (.int x), none, none, none, none, none]) (by simp [startD, c2]) ?_
    refine seq_to (ρ1 := [some S, some G, some (.int x), some (.int ev), none, none, none, none]) ?_ ?_
    · rw [← hm] at hev1
      have z1 : (decide ((0 : Int) < 60) && decide ((60 : Int) < 1073741824)) = true := rfl
      have z2 : decide ((0 : Int) < 5) = true := rfl
      have el : eLst (aCons (eC (.int 2)) (aCons (eC (.int 3)) (aCons (eC (.int 5)) (aCons (eC (.int 9)) (aCons (eC (.int 14)) aNil))))) [some S, some G, some (.int x), none, none, none, none, none] = .ok (.lst [.int 2, .int 3, .int 5, .int 9, .int 14]) := rfl
      rw [sSet_ap, e2_ap, el]
      simp only [O.bind_ok, e2_ap, eVar_s, eVar_zs, eC_ap, divD_int, modD_int, z1, z2, gd_true, hev1]
      rfl
    refine seq_to (ρ1 := [some S, some G, some (.int x), some (.int ev), some (.lst []), none, none, none]) (by simp) ?_
    refine seq_to (sFor_eq (rg1_eq (n := R) (by simp [hlenG]) (by have := hg.r30; omega)) h1) ?_
    simp [cellsL]
  · have : ((getG g c).isSome && _) = true := hc
    rw [Bool.and_eq_true] at this
    intro e
    rw [e] at this
    exact absurd this.1 (by simp)
/-! the law's cells beside -/
def lbes (g : List (List (Option Int))) (R C : Nat) (p : Cell) : List Cell := (besideL R C p).filter fun d => (getG g d).isSome
theorem app_step {G cl : D} {acc : List Cell} {t : TF} {f : EF} {b : Bool} {c : Cell} (hl : acc.length < 1000) (ht : t [some G, some cl, some (.lst (acc.map cellD)), none] = .ok b) (hf : f [some G, some cl, some (.lst (acc.map cellD)), none] = .ok (cellD c)) :
    sIf t (sApp 2 f) sNx [some G, some cl, some (.lst (acc.map cellD)), none] = .ok (.nx [some G, some cl, some (.lst ((acc ++ if b = true then [c] else []).map cellD)), none]) := by
  have hz : decide (acc.length < 100000) = true := decide_eq_true (by omega)
  rw [sIf_ap, ht, O.bind_ok]
  cases b with
  | true => simp [hf, hz]
  | false => simp
theorem lbeside_eq {g : List (List (Option Int))} {R C : Nat} (hg : GOk g R C) {p : Cell} (hp : inb R C p = true) : F_law_beside [.lst (g.map rowD), cellD p] = .ok (.lst ((lbes g R C p).map cellD)) := by
  have hb : 0 ≤ p.1 ∧ p.1 < R ∧ 0 ≤ p.2 ∧ p.2 < C := by
    unfold inb at hp
    simp only [Bool.and_eq_true, decide_eq_true_eq] at hp
    exact ⟨hp.1.1, hp.1.2, hp.2.1, hp.2.2⟩
  have e : besideL R C p = ((([] ++ if decide (0 < p.1) = true then [(p.1 - 1, p.2)] else []) ++ if decide (0 < p.2) = true then [(p.1, p.2 - 1)] else []) ++ if decide (p.2 + 1 < (C : Int)) = true then [(p.1, p.2 + 1)] else []) ++ if decide (p.1 + 1 < (R : Int)) = true then [(p.1 + 1, p.2)] else [] := by
    have i1 : inb R C (p.1 - 1, p.2) = decide (0 < p.1) := by
      unfold inb
      by_cases h : 0 < p.1
      · rw [decide_eq_true h]; simp <;> omega
      · rw [decide_eq_false h]; simp <;> omega
    have i2 : inb R C (p.1, p.2 - 1) = decide (0 < p.2) := by
      unfold inb
      by_cases h : 0 < p.2
      · rw [decide_eq_true h]; simp <;> omega
      · rw [decide_eq_false h]; simp <;> omega
    have i3 : inb R C (p.1, p.2 + 1) = decide (p.2 + 1 < (C : Int)) := by
      unfold inb
      by_cases h : p.2 + 1 < (C : Int)
      · rw [decide_eq_true h]; simp <;> omega
      · rw [decide_eq_false h]; simp <;> omega
    have i4 : inb R C (p.1 + 1, p.2) = decide (p.1 + 1 < (R : Int)) := by
      unfold inb
      by_cases h : p.1 + 1 < (R : Int)
      · rw [decide_eq_true h]; simp <;> omega
      · rw [decide_eq_false h]; simp <;> omega
    unfold besideL around
    simp only [List.filter_cons, List.filter_nil, i1, i2, i3, i4]
    cases decide (0 < p.1) <;> cases decide (0 < p.2) <;> cases decide (p.2 + 1 < (C : Int)) <;> cases decide (p.1 + 1 < (R : Int)) <;> rfl
  obtain ⟨r0, hr0, hr0l⟩ := grid_row0 hg
  have hlr : lenD (rowD r0) = .ok (.int (C : Int)) := by rw [len_row, hr0l]
  have hlenG : lenD (.lst (g.map rowD)) = .ok (.int (R : Int)) := by simp [hg.len]
  have x1 : ixD (cellD p) (.int 0) = .ok (.int p.1) := ix_tup0 _ _
  have x2 : ixD (cellD p) (.int 1) = .ok (.int p.2) := ix_tup1 _ _ _
  have lens : ∀ (a : List Cell) (b : Bool) (c : Cell), (a ++ if b = true then [c] else []).length ≤ a.length + 1 := fun a b c => by cases b <;> simp
  have hix : ∀ d ∈ besideL R C p, ∃ r : List (Option Int), ixD (.lst (g.map rowD)) (.int d.1) = .ok (rowD r) ∧ ixD (rowD r) (.int d.2) = .ok (hD (getG g d)) ∧ r.length = C := fun d hd => ix_grid hg (beside_in hd)
  generalize D.lst (g.map rowD) = G at *
  refine runF_rt rfl (by decide) (ρ := [some G, some (cellD p), some (.lst ((besideL R C p).map cellD)), none]) ?_
  unfold g_law_beside
  refine seq_to (ρ1 := [some G, some (cellD p), some (.lst (([] : List Cell).map cellD)), none]) (by simp [startD]) ?_
  refine seq_to (app_step (b := decide (0 < p.1)) (c := (p.1 - 1, p.2)) (by simp) (by simp [x1]) (by simp [x1, x2, cellD])) ?_
  have l1 := lens [] (decide (0 < p.1)) (p.1 - 1, p.2)
  generalize ([] ++ if decide (0 < p.1) = true then [(p.1 - 1, p.2)] else [] : List Cell) = a1 at *
  refine seq_to (app_step (b := decide (0 < p.2)) (c := (p.1, p.2 - 1)) (by simp at l1; omega) (by simp [x2]) (by simp [x1, x2, cellD])) ?_
  have l2 := lens a1 (decide (0 < p.2)) (p.1, p.2 - 1)
  generalize (a1 ++ if decide (0 < p.2) = true then [(p.1, p.2 - 1)] else [] : List Cell) = a2 at *
  refine seq_to (app_step (b := decide (p.2 + 1 < (C : Int))) (c := (p.1, p.2 + 1)) (by simp at l1; omega) (by simp [x2, hr0, hlr, -len_row]) (by simp [x1, x2, cellD])) ?_
  have l3 := lens a2 (decide (p.2 + 1 < (C : Int))) (p.1, p.2 + 1)
  generalize (a2 ++ if decide (p.2 + 1 < (C : Int)) = true then [(p.1, p.2 + 1)] else [] : List Cell) = a3 at *
  refine seq_to (app_step (b := decide (p.1 + 1 < (R : Int))) (c := (p.1 + 1, p.2)) (by simp at l1; omega) (by simp [x1, hlenG]) (by simp [x1, x2, cellD])) ?_
  rw [← e]
  refine ret_eq (eLc_eq (ds := (besideL R C p).map cellD) (by simp) (by simp) ?_ ?_)
  · rw [List.length_map]
    have : (besideL R C p).length ≤ 4 := List.length_filter_le _ _
    omega
  · rw [cGo_map cellD (fun d => (getG g d).isSome) cellD]
    · rfl
    · intro d hd
      obtain ⟨r, h1, h2, _⟩ := hix d hd
      have y1 : ixD (cellD d) (.int 0) = .ok (.int d.1) := ix_tup0 _ _
      have y2 : ixD (cellD d) (.int 1) = .ok (.int d.2) := ix_tup1 _ _ _
      simp [g_law_beside_1, y1, y2, h1, h2, isnt_hD]
    · intro d hd _
      simp [g_law_beside_2]
theorem in_cells (neg : Bool) (c : Cell) (l : List Cell) : inL neg (cellD c) (.lst (l.map cellD)) = .ok (.bl (neg != decide (c ∈ l))) := by
  unfold inL
  have h1 := lay_cell' c
  obtain ⟨h3, h4⟩ := laid_list cellD 60 lay_cell l
  have h2 : SeqAt.shaped (.list (toPyA (l.map cellD))) = true := by
    simp only [SeqAt.shaped, PyData.canLay0, PyData.depth, h3, Bool.true_and, decide_eq_true_eq]
    exact decide_eq_true (by omega)
  simp only [h1, h2, Bool.and_self, gd_true]
  congr 3
  rw [toPyA_map, List.map_map, List.any_map]
  rw [Bool.eq_iff_iff, List.any_eq_true, decide_eq_true_eq]
  constructor
  · rintro ⟨x, hx, e⟩
    have : PyData.eqv (toPy (cellD x)) (toPy (cellD c)) = true := e
    rw [eqv_cell, decide_eq_true_eq] at this
    rw [← this]; exact hx
  · intro hc
    refine ⟨c, hc, ?_⟩
    show PyData.eqv (toPy (cellD c)) (toPy (cellD c)) = true
    rw [eqv_cell]; simp
theorem is_hD (h : Option Int) : isND false (hD h) .non = .ok (.bl h.isNone) := by cases h <;> rfl
/-! cells in order -/
def cellP (d : D) : Prop := ∃ p : Cell, d = cellD p
theorem toPy_cell (p : Cell) : toPy (cellD p) = .tuple [.int p.1, .int p.2] := by simp [cellD, toPyA]
theorem lay_cell10 (p : Cell) : (toPy (cellD p)).canLay0 = true ∧ (toPy (cellD p)).depth ≤ 10 := by
  rw [toPy_cell]; simp [PyData.canLay0, PyData.canLayAll0, PyData.depth, PyData.depthAll]
theorem cellPT : PT cellP := by
  refine ⟨⟨?_, ?_⟩, ?_, ?_, ?_, .inl ?_⟩
  · rintro _ _ ⟨p, rfl⟩ ⟨q, rfl⟩
    obtain ⟨h1, h2⟩ := lay_cell10 p
    obtain ⟨h3, h4⟩ := lay_cell10 q
    have h5 : PySem.W.alike (toPy (cellD p)) (toPy (cellD q)) = true := by rw [toPy_cell, toPy_cell]; simp [PySem.W.alike, PySem.W.alikeAll]
    have h6 : decide ((toPy (cellD p)).depth ≤ 60) = true := decide_eq_true (by omega)
    unfold ltA
    rw [h1, h3, h5, h6]
    rfl
  · rintro _ ⟨p, rfl⟩; simp
  · rintro _ _ ⟨p, rfl⟩ ⟨q, rfl⟩ h1 h2
    have := dlt_total h1 h2
    rw [toPy_cell, toPy_cell] at this
    simp [PySem.W.keyToks, PySem.W.keyToksAll] at this
    have : p = q := Prod.ext this.1 this.2
    rw [this]
  · rintro _ _ ⟨p, rfl⟩ ⟨q, rfl⟩
    rw [toPy_cell, toPy_cell]; simp [PySem.W.alike, PySem.W.alikeAll]
  · rintro _ ⟨p, rfl⟩; exact lay_cell10 p
  · rintro _ ⟨p, rfl⟩; rfl
theorem le_cell {p q : Cell} (h : p.1 < q.1 ∨ (p.1 = q.1 ∧ p.2 < q.2)) : le2 (cellD p) (cellD q) := by
  unfold le2
  have e : ∀ p : Cell, PySem.W.keyToks (toPy (cellD p)) = [.inl 1, .inl p.1, .inl 1, .inl p.2, .inl 0] := fun p => by
    rw [toPy_cell]; simp [PySem.W.keyToks, PySem.W.keyToksAll]
  show PyProof.Rows.lexLt PyProof.Rows.itemOrd (PySem.W.keyToks (toPy (cellD q))) (PySem.W.keyToks (toPy (cellD p))) = false
  rw [e, e]
  refine (PyProof.Rows.lex_self (O := PyProof.Rows.itemOrd) _ _ _).trans ?_
  rcases h with h | ⟨h1, h2⟩
  · refine (PyProof.Rows.lex_diff (O := PyProof.Rows.itemOrd) (fun z => ?_)).trans ?_
    · have : q.1 = p.1 := Sum.inl.inj z
      omega
    · show decide (q.1 < p.1) = false
      exact decide_eq_false (by omega)
  · rw [h1]
    refine (PyProof.Rows.lex_self (O := PyProof.Rows.itemOrd) _ _ _).trans ((PyProof.Rows.lex_self (O := PyProof.Rows.itemOrd) _ _ _).trans ?_)
    refine (PyProof.Rows.lex_diff (O := PyProof.Rows.itemOrd) (fun z => ?_)).trans ?_
    · have : q.2 = p.2 := Sum.inl.inj z
      omega
    · show decide (q.2 < p.2) = false
      exact decide_eq_false (by omega)
theorem cells_ord (R C : Nat) : (cellsL R C).Pairwise fun p q => p.1 < q.1 ∨ (p.1 = q.1 ∧ p.2 < q.2) := by
  simp only [cellsL, blkc, Int.toNat_natCast]
  rw [List.pairwise_flatten]
  refine ⟨fun l hl => ?_, ?_⟩
  · obtain ⟨r, _, rfl⟩ := List.mem_map.mp hl
    unfold rowc
    rw [List.pairwise_map]
    exact List.Pairwise.imp (fun {a b} (h : a < b) => .inr ⟨rfl, by simp; omega⟩) List.pairwise_lt_range
  · rw [List.pairwise_map]
    refine List.Pairwise.imp (fun {a b} (h : a < b) => ?_) List.pairwise_lt_range
    intro x hx y hy
    simp only [rowc, List.mem_map] at hx hy
    obtain ⟨_, _, rfl⟩ := hx
    obtain ⟨_, _, rfl⟩ := hy
    exact .inl (by simp; omega)
/-- a list of cells, none twice, sorted: the cells row by row -/
theorem sort_cells {R C : Nat} {fs : List Cell} (nd : fs.Nodup) (hin : ∀ c ∈ fs, inb R C c = true) : sortD (.lst (fs.map cellD)) = .ok (.lst (((cellsL R C).filter fun c => decide (c ∈ fs)).map cellD)) := by
  have hp : ((cellsL R C).filter fun c => decide (c ∈ fs)).Perm fs := by
    refine perm_of_mem ((nodup_cells R C).filter _) nd fun x => ?_
    rw [List.mem_filter, decide_eq_true_eq]
    exact ⟨fun h => h.2, fun h => ⟨mem_cells (hin x h), h⟩⟩
  refine sort_eq cellPT (fun x hx => ?_) (hp.map cellD) ?_
  · obtain ⟨p, _, rfl⟩ := List.mem_map.mp hx
    exact ⟨p, rfl⟩
  · rw [List.pairwise_map]
    exact ((cells_ord R C).filter _).imp fun h => le_cell h
theorem filter_mem {R C : Nat} {fs fs' : List Cell} (h : ∀ c, c ∈ fs ↔ c ∈ fs') : ((cellsL R C).filter fun c => decide (c ∈ fs)) = (cellsL R C).filter fun c => decide (c ∈ fs') :=
  List.filter_congr fun c _ => by
    rw [Bool.eq_iff_iff, decide_eq_true_eq, decide_eq_true_eq]
    exact h c
/-! the same cells -/
theorem same_cells_eq (l : List Cell) : F_law_same_cells [.lst (l.map cellD), .lst (l.map cellD)] = .ok (.bl true) := by
  have hz : ∀ ρ : Rho, iZp (eVar 0) (eVar 1) (some (.lst (l.map cellD)) :: some (.lst (l.map cellD)) :: ρ) = .ok (l.map fun c => .tup [cellD c, cellD c]) := fun ρ => by
    have : pairsD (l.map cellD) (l.map cellD) = l.map fun c => .tup [cellD c, cellD c] := by
      clear ρ
      induction l with
      | nil => rfl
      | cons b l ih => simp only [List.map_cons, pairsD, List.zipWith_cons_cons] at ih ⊢; rw [ih]
    simp [this]
  have hty : tyN (.lst (l.map cellD)) = some "list" := rfl
  have hln : lenD (.lst (l.map cellD)) = .ok (.int (l.length : Int)) := by simp
  generalize D.lst (l.map cellD) = G at *
  obtain ⟨ρ1, e1, x2, x3, rfl⟩ := for_inv (I := fun ρ => ∃ x2 x3 : Option D, ρ = [some G, some G, x2, x3]) (s := gP 2 3) (g := g_law_same_cells_1) (ds := l.map fun c => .tup [cellD c, cellD c]) (ρ := [some G, some G, none, none]) (fun d hd ρ hI => by
    obtain ⟨x2, x3, rfl⟩ := hI
    obtain ⟨c, _, rfl⟩ := List.mem_map.mp hd
    refine ⟨[some G, some G, some (cellD c), some (cellD c)], ?_, _, _, rfl⟩
    simp [g_law_same_cells_1, isTy, cellD]) ⟨none, none, rfl⟩
  refine runF_rt rfl (by decide) (ρ := [some G, some G, x2, x3]) ?_
  unfold g_law_same_cells
  refine seq_to (ρ1 := [some G, some G, none, none]) (by simp [startD, hty, isTy, hln]) ?_
  exact seq_to (sFor_eq (hz _) e1) (by simp)
theorem fs_few {R C : Nat} {fs : List Cell} (nd : fs.Nodup) (h : ∀ c ∈ fs, inb R C c = true) : fs.length ≤ R * C := by
  rw [← cells_len]
  exact nodup_len nd fun c hc => mem_cells (h c hc)
/-! the law's own levels -/
def tbM (tb : Tb Cell) : List (List Key × D) := tb.map fun e => (keyP e.1, .int e.2)
theorem look_tb (tb : Tb Cell) (c : Cell) : lookD (tbM tb) (keyP c) = (lvT tb c).map .int := by
  rw [tbM, look_gen (fun e : Cell × Int => e.1) (fun e => .int e.2), lvT, Option.map_map]
  rfl
theorem key_dec (p q : Cell) : decide (keyP p = keyP q) = decide (p = q) := by
  by_cases h : p = q
  · rw [h]; simp
  · rw [decide_eq_false h, decide_eq_false fun h' => h (keyP_inj h')]
theorem put_tb (tb : Tb Cell) (c : Cell) (l : Int) : putL (tbM tb) (keyP c) (.int l) = tbM (putT tb c l) := by
  unfold putL putT tbM
  have e : ((tb.map fun e => (keyP e.1, D.int e.2)).any fun kv => decide (kv.1 = keyP c)) = tb.any fun e => decide (e.1 = c) := by
    rw [List.any_map]
    congr 1
    funext x
    exact key_dec _ _
  rw [e]
  split
  · rw [List.map_map, List.map_map]
    refine List.map_congr_left fun x _ => ?_
    show (if keyP x.1 = keyP c then (keyP x.1, D.int l) else (keyP x.1, D.int x.2)) = (fun e : Cell × Int => (keyP e.1, D.int e.2)) (if x.1 = c then (x.1, l) else x)
    by_cases h : x.1 = c
    · rw [if_pos h, if_pos (by rw [h])]
    · rw [if_neg h, if_neg fun z => h (keyP_inj z)]
  · simp
theorem in_tb (neg : Bool) (tb : Tb Cell) (c : Cell) : inD neg (cellD c) (.dct (tbM tb)) = .ok (.bl (neg != (lvT tb c).isSome)) := by
  unfold inD
  rw [dctO_dct, O.bind_ok, keyD_cell, ofO_some, O.bind_ok, look_tb, Option.isSome_map]
theorem ix_tb {tb : Tb Cell} {c : Cell} {l : Int} (h : lvT tb c = some l) : ixD (.dct (tbM tb)) (cellD c) = .ok (.int l) := by
  show ((ofO (keyD (cellD c))).bind fun ks => ofO (lookD (tbM tb) ks)) = _
  rw [keyD_cell, ofO_some, O.bind_ok, look_tb, h]
  rfl
theorem least_eq {g : List (List (Option Int))} {R C : Nat} (hg : GOk g R C) (tb : Tb Cell) {c : Cell} (hc : inb R C c = true) :
    ∃ m : Option Int, F_law_least_beside [.lst (g.map rowD), cellD c, .dct (tbM tb)] = .ok (hD m) ∧ Least (lbes g R C c) (lvT tb) m := by
  have hbe := lbeside_eq hg hc
  generalize D.lst (g.map rowD) = G at *
  obtain ⟨ρ1, e1, m, o4, rfl, q1, q2, q3⟩ := for_pres (s := gN 4) (g := g_law_least_beside_1) cellD
    (I := fun p ρ => ∃ (m : Option Int) (o4 : Option D), ρ = [some G, some (cellD c), some (.dct (tbM tb)), some (hD m), o4] ∧ (m = none → ∀ d ∈ p, lvT tb d = none) ∧ (∀ x, m = some x → ∃ d ∈ p, lvT tb d = some x) ∧ (∀ x, m = some x → ∀ d ∈ p, ∀ y, lvT tb d = some y → x ≤ y))
    (lbes g R C c) [] [some G, some (cellD c), some (.dct (tbM tb)), some (hD none), none] (by
      rintro p b q e ρ ⟨m, o4, rfl, q1, q2, q3⟩
      have hgn : gN 4 (cellD b) [some G, some (cellD c), some (.dct (tbM tb)), some (hD m), o4] = .ok [some G, some (cellD c), some (.dct (tbM tb)), some (hD m), some (cellD b)] := by simp
      rw [hgn, O.bind_ok]
      have hin := in_tb false tb b
      unfold g_law_least_beside_1
      cases hb : lvT tb b with
      | none =>
        rw [hb] at hin
        refine ⟨[some G, some (cellD c), some (.dct (tbM tb)), some (hD m), some (cellD b)], by simp [hin], m, _, rfl, fun hm d hd => ?_, fun x hx => ?_, fun x hx d hd y hy => ?_⟩
        · rcases List.mem_append.mp hd with hd | hd
          · exact q1 hm d hd
          · rw [List.mem_singleton.mp hd]; exact hb
        · obtain ⟨d, d1, d2⟩ := q2 x hx
          exact ⟨d, List.mem_append.mpr (.inl d1), d2⟩
        · rcases List.mem_append.mp hd with hd | hd
          · exact q3 x hx d hd y hy
          · rw [List.mem_singleton.mp hd, hb] at hy; cases hy
      | some y0 =>
        rw [hb] at hin
        have hix := ix_tb hb
        have key : ∀ m' : Option Int, sIf (tAndF (tE (eIn false (eVar 4) (eVar 2))) (tOrF (tE (e2 (isND false) (eVar 3) (eC .non))) (tE (e2 ltD (e2 ixD (eVar 2) (eVar 4)) (eVar 3))))) (sSet 3 (eImm (e2 ixD (eVar 2) (eVar 4)))) sNx [some G, some (cellD c), some (.dct (tbM tb)), some (hD m'), some (cellD b)] =
            .ok (.nx [some G, some (cellD c), some (.dct (tbM tb)), some (hD (match m' with
              | none => some y0
              | some x => if y0 < x then some y0 else some x)), some (cellD b)]) := fun m' => by
          cases m' with
          | none => simp [hin, hix, hD]
          | some x =>
            by_cases hlt : y0 < x
            · simp [hin, hix, hD, hlt]
            · simp [hin, hix, hD, hlt]
        rw [key]
        cases m with
        | none =>
          refine ⟨_, rfl, some y0, _, rfl, fun hm => (by cases hm), fun x hx => ?_, fun x hx d hd y hy => ?_⟩
          · cases hx; exact ⟨b, by simp, hb⟩
          · cases hx
            rcases List.mem_append.mp hd with hd | hd
            · rw [q1 rfl d hd] at hy; cases hy
            · rw [List.mem_singleton.mp hd, hb] at hy; cases hy; omega
        | some x =>
          dsimp only
          by_cases hlt : y0 < x
          · rw [if_pos hlt]
            refine ⟨_, rfl, some y0, _, rfl, fun hm => (by cases hm), fun z hz => ?_, fun z hz d hd y hy => ?_⟩
            · cases hz; exact ⟨b, by simp, hb⟩
            · cases hz
              rcases List.mem_append.mp hd with hd | hd
              · have := q3 x rfl d hd y hy
                omega
              · rw [List.mem_singleton.mp hd, hb] at hy; cases hy; omega
          · rw [if_neg hlt]
            refine ⟨_, rfl, some x, _, rfl, fun hm => (by cases hm), fun z hz => ?_, fun z hz d hd y hy => ?_⟩
            · cases hz
              obtain ⟨d, d1, d2⟩ := q2 x rfl
              exact ⟨d, List.mem_append.mpr (.inl d1), d2⟩
            · cases hz
              rcases List.mem_append.mp hd with hd | hd
              · exact q3 x rfl d hd y hy
              · rw [List.mem_singleton.mp hd, hb] at hy; cases hy; omega) ⟨none, none, rfl, fun _ d hd => by simp at hd, fun x hx => (by cases hx), fun x hx => (by cases hx)⟩
  rw [List.nil_append] at q1 q2 q3
  refine ⟨m, ?_, q1, q2, q3⟩
  refine runF_rt rfl (by decide) (ρ := [some G, some (cellD c), some (.dct (tbM tb)), some (hD m), o4]) ?_
  unfold g_law_least_beside
  refine seq_to (ρ1 := [some G, some (cellD c), some (.dct (tbM tb)), some (hD none), none]) (by simp [startD, hD]) ?_
  refine seq_to (sFor_eq (ds := (lbes g R C c).map cellD) ?_ e1) (by simp)
  rw [iSeq_ap, eCall_ap]
  simp only [aCons_ap, aNil_ap, eVar_s, eVar_zs, O.bind_ok, hbe]
/-- keys none twice, all of them cells -/
def KOk (R C : Nat) (tb : Tb Cell) : Prop := (tb.map (·.1)).Nodup ∧ ∀ c ∈ tb.map (·.1), inb R C c = true
theorem KOk.put {R C : Nat} {tb : Tb Cell} (h : KOk R C tb) {c : Cell} (hc : inb R C c = true) (l : Int) : KOk R C (putT tb c l) := by
  unfold KOk
  rw [putT_keys]
  split
  · exact h
  · rename_i hk
    refine ⟨?_, fun x hx => ?_⟩
    · rw [List.nodup_append]
      exact ⟨h.1, by simp, fun a ha b hb e => by rw [List.mem_singleton] at hb; subst hb; exact hk (e ▸ ha)⟩
    · rcases List.mem_append.mp hx with hx | hx
      · exact h.2 x hx
      · rw [List.mem_singleton.mp hx]; exact hc
theorem KOk.few {R C : Nat} {tb : Tb Cell} (h : KOk R C tb) : tb.length ≤ R * C := by
  have := fs_few h.1 h.2
  rwa [List.length_map] at this
def giveT (tb : Tb Cell) (c : Cell) (nv : Option Int) : Tb Cell := match nv with
  | none => tb
  | some v => putT tb c v
theorem give_lv (tb : Tb Cell) (c : Cell) (nv : Option Int) (d : Cell) : lvT (giveT tb c nv) d = if d = c then nv.or (lvT tb c) else lvT tb d := by
  cases nv with
  | none =>
    show lvT tb d = _
    by_cases h : d = c
    · rw [if_pos h, h]; rfl
    · rw [if_neg h]
  | some v =>
    show lvT (putT tb c v) d = _
    rw [lvT_put]
    rfl
theorem lv_cell {L : LandD} {R C : Nat} (hg : GOk L.g R C) {tb : Tb Cell} (hk : KOk R C tb) (hs : ∀ d, lvT tb d ≠ none → getG L.g d ≠ none) {i j : Nat} (hi : i < R) (hj : j < C) {DD : D} {o3 o7 : Option D} {mv : Bool} :
    ∃ (m : Option Int) (p7 : Option D), Least (besideL R C ((i : Int), (j : Int))) (lvT tb) m ∧ g_law_levels_2 [some (.lst (L.g.map rowD)), some DD, some (.dct (tbM tb)), o3, some (.bl mv), some (.int (i : Int)), some (.int (j : Int)), o7] =
      .ok (.nx [some (.lst (L.g.map rowD)), some DD, some (.dct (tbM (giveT tb ((i : Int), (j : Int)) (newV (fdL L R C) (lvT tb) ((i : Int), (j : Int)) m)))), o3, some (.bl ((newV (fdL L R C) (lvT tb) ((i : Int), (j : Int)) m).isSome || mv)), some (.int (i : Int)), some (.int (j : Int)), p7]) := by
  have hc := inb_mk hi hj
  obtain ⟨m, h1, h2⟩ := least_eq hg tb hc
  obtain ⟨r, hr1, hr2, _⟩ := ix_grid hg hc
  have hL : Least (besideL R C ((i : Int), (j : Int))) (lvT tb) m := by
    refine ⟨fun hm d hd => ?_, fun x hx => ?_, fun x hx d hd y hy => ?_⟩
    · cases hl : lvT tb d with
      | none => rfl
      | some l =>
        have := h2.no hm d (List.mem_filter.mpr ⟨hd, Option.isSome_iff_ne_none.mpr (hs d (by rw [hl]; simp))⟩)
        rw [hl] at this; cases this
    · obtain ⟨d, d1, d2⟩ := h2.mem x hx
      exact ⟨d, (List.mem_filter.mp d1).1, d2⟩
    · exact h2.le x hx d (List.mem_filter.mpr ⟨hd, Option.isSome_iff_ne_none.mpr (hs d (by rw [hy]; simp))⟩) y hy
  have hht : (fdL L R C).ht ((i : Int), (j : Int)) = getG L.g ((i : Int), (j : Int)) := fd_ht hc
  have hfew : decide ((tbM tb).length < 100000) = true := decide_eq_true (by
    have := hk.few
    have : R * C ≤ 900 := Nat.mul_le_mul hg.r30 hg.c30
    simp [tbM]
    omega)
  have h1' : F_law_least_beside [.lst (L.g.map rowD), .tup [.int (i : Int), .int (j : Int)], .dct (tbM tb)] = .ok (hD m) := h1
  have hin := in_tb true tb ((i : Int), (j : Int))
  have hin' : inD true (.tup [.int (i : Int), .int (j : Int)]) (.dct (tbM tb)) = .ok (.bl (true != (lvT tb ((i : Int), (j : Int))).isSome)) := hin
  have hr1' : ixD (.lst (L.g.map rowD)) (.int (i : Int)) = .ok (rowD r) := hr1
  have hr2' : ixD (rowD r) (.int (j : Int)) = .ok (hD (getG L.g ((i : Int), (j : Int)))) := hr2
  have hput : ∀ v : Int, putL (tbM tb) (keyP ((i : Int), (j : Int))) (.int v) = tbM (putT tb ((i : Int), (j : Int)) v) := fun v => put_tb _ _ _
  have hixt : ∀ y, lvT tb ((i : Int), (j : Int)) = some y → ixD (.dct (tbM tb)) (.tup [.int (i : Int), .int (j : Int)]) = .ok (.int y) := fun y hy => ix_tb hy
  generalize D.lst (L.g.map rowD) = G at *
  unfold newV
  rw [hht]
  have s1 : sSet 7 (eCall (aCons (eVar 0) (aCons (eTup (aCons (eVar 5) (aCons (eVar 6) aNil))) (aCons (eVar 2) aNil))) F_law_least_beside) [some G, some DD, some (.dct (tbM tb)), o3, some (.bl mv), some (.int (i : Int)), some (.int (j : Int)), o7] = .ok (.nx [some G, some DD, some (.dct (tbM tb)), o3, some (.bl mv), some (.int (i : Int)), some (.int (j : Int)), some (hD m)]) := by
    simp [h1']
  have tt : (tAndF (tE (e2 (isND true) (e2 ixD (e2 ixD (eVar 0) (eVar 5)) (eVar 6)) (eC .non))) (tE (e2 (isND true) (eVar 7) (eC .non)))) [some G, some DD, some (.dct (tbM tb)), o3, some (.bl mv), some (.int (i : Int)), some (.int (j : Int)), some (hD m)] = .ok ((getG L.g ((i : Int), (j : Int))).isSome && m.isSome) := by
    simp only [tAndF_ap, tE_ap, e2_ap, eVar_s, eVar_zs, eC_ap, O.bind_ok, hr1', hr2', isnt_hD]
    cases (getG L.g ((i : Int), (j : Int))).isSome <;> simp
  cases ho : getG L.g ((i : Int), (j : Int)) with
  | none =>
    rw [ho] at tt
    refine ⟨m, some (hD m), hL, ?_⟩
    unfold g_law_levels_2
    refine seq_to s1 ?_
    rw [sIf_ap, tt]
    simp [giveT]
  | some o =>
    cases hm : m with
    | none =>
      rw [ho, hm] at tt
      rw [hm] at s1 hL
      refine ⟨none, some (hD none), hL, ?_⟩
      unfold g_law_levels_2
      refine seq_to s1 ?_
      rw [sIf_ap, tt]
      simp [giveT]
    | some x =>
      rw [ho, hm] at tt
      rw [hm] at s1 hL
      rw [ho] at hr2'
      refine ⟨some x, some (.int (max x o)), hL, ?_⟩
      unfold g_law_levels_2
      refine seq_to s1 ?_
      rw [sIf_ap, tt]
      simp only [O.bind_ok, Option.isSome_some, Bool.and_self, if_true]
      refine seq_to (ρ1 := [some G, some DD, some (.dct (tbM tb)), o3, some (.bl mv), some (.int (i : Int)), some (.int (j : Int)), some (.int (max x o))]) ?_ ?_
      · have hr2'' : ixD (rowD r) (.int (j : Int)) = .ok (.int o) := hr2'
        simp [hr1', hr2'', hD, max2_int]
      have t2 : (tOrF (tE (eIn true (eTup (aCons (eVar 5) (aCons (eVar 6) aNil))) (eVar 2))) (tE (e2 ltD (eVar 7) (e2 ixD (eVar 2) (eTup (aCons (eVar 5) (aCons (eVar 6) aNil))))))) [some G, some DD, some (.dct (tbM tb)), o3, some (.bl mv), some (.int (i : Int)), some (.int (j : Int)), some (.int (max x o))] = .ok (match lvT tb ((i : Int), (j : Int)) with
        | none => true
        | some y => decide (max x o < y)) := by
        cases hy : lvT tb ((i : Int), (j : Int)) with
        | none =>
          rw [hy] at hin'
          simp [hin']
        | some y =>
          rw [hy] at hin'
          simp [hin', hixt y hy]
      have wr : sSeq (sDput 2 (eTup (aCons (eVar 5) (aCons (eVar 6) aNil))) (eVar 7)) (sSet 4 (eC (.bl true))) [some G, some DD, some (.dct (tbM tb)), o3, some (.bl mv), some (.int (i : Int)), some (.int (j : Int)), some (.int (max x o))] =
          .ok (.nx [some G, some DD, some (.dct (tbM (putT tb ((i : Int), (j : Int)) (max x o)))), o3, some (.bl true), some (.int (i : Int)), some (.int (j : Int)), some (.int (max x o))]) := by
        refine seq_to (ρ1 := [some G, some DD, some (.dct (tbM (putT tb ((i : Int), (j : Int)) (max x o)))), o3, some (.bl mv), some (.int (i : Int)), some (.int (j : Int)), some (.int (max x o))]) ?_ (by simp)
        rw [sDput_ap]
        simp [hfew, hput]
      rw [sIf_ap, t2]
      cases hy : lvT tb ((i : Int), (j : Int)) with
      | none =>
        simp only [O.bind_ok, if_true]
        rw [wr]
        rfl
      | some y =>
        by_cases hlt : max x o < y
        · simp only [O.bind_ok, hlt, decide_true, if_true]
          rw [wr]
          rfl
        · simp only [O.bind_ok, hlt, decide_false, Bool.false_eq_true, if_false]
          rfl
structure PassI (L : LandD) (R C : Nat) (es : Es Cell) (k : Nat) (tb0 : Tb Cell) (p : List Cell) (tb : Tb Cell) (mv : Bool) : Prop where
  ko : KOk R C tb
  ps : Pass (fdL L R C) es (lvT tb) k
  at_ : ∀ c l f, es[k]? = some (c, l, f) → c ∈ p → lvT tb c = lvE es c
  st : mv = false → tb = tb0 ∧ ∀ c ∈ p, ∃ m, Least (besideL R C c) (lvT tb0) m ∧ newV (fdL L R C) (lvT tb0) c m = none
  al : Settled es (lvT tb0) → mv = false
theorem told_stone {L : LandD} {R C : Nat} {es : Es Cell} {lv : Cell → Option Int} {k : Nat} (W : Field (fdL L R C) es) (h : Pass (fdL L R C) es lv k) : ∀ d, lv d ≠ none → getG L.g d ≠ none := fun d hd => by
  cases e : lv d with
  | none => exact absurd e hd
  | some l =>
    obtain ⟨l0, h1, _⟩ := h.lo d l e
    obtain ⟨o, h2, _⟩ := W.dn.lev.own d l0 h1
    obtain ⟨_, h3⟩ := fd_in h2
    rw [h3]; simp
theorem pass_cell {L : LandD} {R C : Nat} (hg : GOk L.g R C) {es : Es Cell} (W : Field (fdL L R C) es) {k : Nat} {tb0 tb : Tb Cell} {p : List Cell} {mv : Bool} (I : PassI L R C es k tb0 p tb mv) {i j : Nat} (hi : i < R) (hj : j < C) {DD : D} {o3 o7 : Option D} :
    ∃ (tb' : Tb Cell) (mv' : Bool) (p7 : Option D), g_law_levels_2 [some (.lst (L.g.map rowD)), some DD, some (.dct (tbM tb)), o3, some (.bl mv), some (.int (i : Int)), some (.int (j : Int)), o7] =
      .ok (.nx [some (.lst (L.g.map rowD)), some DD, some (.dct (tbM tb')), o3, some (.bl mv'), some (.int (i : Int)), some (.int (j : Int)), p7]) ∧ PassI L R C es k tb0 (p ++ [((i : Int), (j : Int))]) tb' mv' := by
  obtain ⟨m, p7, hm, hs⟩ := lv_cell hg I.ko (told_stone W I.ps) hi hj (DD := DD) (o3 := o3) (o7 := o7) (mv := mv)
  have hc := inb_mk hi hj
  obtain ⟨q1, q2, q3⟩ := Pass.one (lv' := lvT (giveT tb ((i : Int), (j : Int)) (newV (fdL L R C) (lvT tb) ((i : Int), (j : Int)) m))) W I.ps hm fun d => give_lv _ _ _ d
  refine ⟨_, _, p7, hs, ⟨?_, q1, fun c l f he hcp => ?_, fun hmv => ?_, fun hS => ?_⟩⟩
  · cases hn : newV (fdL L R C) (lvT tb) ((i : Int), (j : Int)) m with
    | none => exact I.ko
    | some v => exact I.ko.put hc v
  · rcases List.mem_append.mp hcp with hcp | hcp
    · exact q3 c (I.at_ c l f he hcp)
    · rw [List.mem_singleton] at hcp
      subst hcp
      exact q2 l f he
  · rw [Bool.or_eq_false_iff] at hmv
    obtain ⟨h1, h2⟩ := I.st hmv.2
    have hn : newV (fdL L R C) (lvT tb) ((i : Int), (j : Int)) m = none := by simpa using hmv.1
    refine ⟨by rw [hn]; exact h1, fun c hcp => ?_⟩
    rcases List.mem_append.mp hcp with hcp | hcp
    · exact h2 c hcp
    · rw [List.mem_singleton] at hcp
      subst hcp
      rw [h1] at hm hn
      exact ⟨m, hm, hn⟩
  · have h1 := I.al hS
    have h2 := (I.st h1).1
    have hn : newV (fdL L R C) (lvT tb) ((i : Int), (j : Int)) m = none := new_none W I.ps hm (by rw [h2]; exact hS _)
    rw [hn, h1]; rfl
theorem pass_all {L : LandD} {R C : Nat} (hg : GOk L.g R C) {es : Es Cell} (W : Field (fdL L R C) es) {k : Nat} {tb0 : Tb Cell} (hk0 : KOk R C tb0) (hp0 : Pass (fdL L R C) es (lvT tb0) k) {DD : D} {o3 o5 o6 o7 : Option D} :
    ∃ (tb : Tb Cell) (mv : Bool) (p5 p6 p7 : Option D), g_law_levels_5 [some (.lst (L.g.map rowD)), some DD, some (.dct (tbM tb0)), o3, some (.bl true), o5, o6, o7] = .ok (.nx [some (.lst (L.g.map rowD)), some DD, some (.dct (tbM tb)), o3, some (.bl mv), p5, p6, p7]) ∧
      KOk R C tb ∧ Pass (fdL L R C) es (lvT tb) (k + 1) ∧ (mv = false → Settled es (lvT tb)) ∧ (mv = true → k < es.length) := by
  obtain ⟨r0, hr0, hr0l⟩ := grid_row0 hg
  have hlr : lenD (rowD r0) = .ok (.int (C : Int)) := by rw [len_row, hr0l]
  have hlG : lenD (.lst (L.g.map rowD)) = .ok (.int (R : Int)) := by simp [hg.len]
  obtain ⟨ρ1, h1, tb, mv, p5, p6, p7, rfl, I⟩ := for_pres (s := gN 5) (g := g_law_levels_3) (fun (i : Nat) => D.int (i : Int))
    (I := fun p ρ => ∃ (tb : Tb Cell) (mv : Bool) (p5 p6 p7 : Option D), ρ = [some (.lst (L.g.map rowD)), some DD, some (.dct (tbM tb)), o3, some (.bl mv), p5, p6, p7] ∧ PassI L R C es k tb0 (blkc C p) tb mv)
    (List.range R) [] [some (.lst (L.g.map rowD)), some DD, some (.dct (tbM tb0)), o3, some (.bl false), o5, o6, o7] (by
      rintro p b q e ρ ⟨tb, mv, p5, p6, p7, rfl, I⟩
      rw [List.nil_append] at e
      have hb : b < R := by
        have : b ∈ List.range R := by rw [e]; simp
        simpa using this
      obtain ⟨ρ2, h2, tb', mv', q6, q7, rfl, I2⟩ := for_pres (s := gN 6) (g := g_law_levels_2) (fun (i : Nat) => D.int (i : Int))
        (I := fun p2 ρ => ∃ (tb : Tb Cell) (mv : Bool) (p6 p7 : Option D), ρ = [some (.lst (L.g.map rowD)), some DD, some (.dct (tbM tb)), o3, some (.bl mv), some (.int (b : Int)), p6, p7] ∧ PassI L R C es k tb0 (blkc C p ++ p2.map fun (j : Nat) => ((b : Int), (j : Int))) tb mv)
        (List.range C) [] [some (.lst (L.g.map rowD)), some DD, some (.dct (tbM tb)), o3, some (.bl mv), some (.int (b : Int)), p6, p7] (by
          rintro p2 b2 q2 ee ρ ⟨tb, mv, p6, p7, rfl, I⟩
          rw [List.nil_append] at ee
          have hb2 : b2 < C := by
            have : b2 ∈ List.range C := by rw [ee]; simp
            simpa using this
          have hgn : gN 6 (.int (b2 : Int)) [some (.lst (L.g.map rowD)), some DD, some (.dct (tbM tb)), o3, some (.bl mv), some (.int (b : Int)), p6, p7] = .ok [some (.lst (L.g.map rowD)), some DD, some (.dct (tbM tb)), o3, some (.bl mv), some (.int (b : Int)), some (.int (b2 : Int)), p7] := by simp
          obtain ⟨tb', mv', q7, w1, w2⟩ := pass_cell hg W I hb hb2 (DD := DD) (o3 := o3) (o7 := p7)
          refine ⟨_, by rw [hgn, O.bind_ok]; exact w1, tb', mv', _, q7, rfl, ?_⟩
          rw [List.map_append, ← List.append_assoc]
          exact w2) ⟨tb, mv, p6, p7, rfl, by simpa using I⟩
      have hgn : gN 5 (.int (b : Int)) [some (.lst (L.g.map rowD)), some DD, some (.dct (tbM tb)), o3, some (.bl mv), p5, p6, p7] = .ok [some (.lst (L.g.map rowD)), some DD, some (.dct (tbM tb)), o3, some (.bl mv), some (.int (b : Int)), p6, p7] := by simp
      refine ⟨_, ?_, tb', mv', some (.int (b : Int)), q6, q7, rfl, ?_⟩
      · rw [hgn, O.bind_ok]
        refine sFor_eq (rg1_eq (n := C) ?_ (by have := hg.c30; omega)) h2
        simp only [e2_ap, e1_ap, eVar_s, eVar_zs, eC_ap, O.bind_ok, hr0, hlr]
      · rw [blkc_snoc]
        simpa [rowc] using I2) ⟨tb0, false, o5, o6, o7, rfl, hk0, hp0, fun c l f _ hc => by simp at hc, fun _ => ⟨rfl, fun c hc => by simp at hc⟩, fun _ => rfl⟩
  rw [List.nil_append] at I
  have hcells : blkc C (List.range R) = cellsL R C := by simp [cellsL]
  rw [hcells] at I
  have hin : ∀ c, (fdL L R C).ht c ≠ none → c ∈ cellsL R C := fun c hc => by
    cases e : (fdL L R C).ht c with
    | none => exact absurd e hc
    | some o => exact mem_cells (fd_in e).1
  refine ⟨tb, mv, p5, p6, p7, ?_, I.ko, I.ps.more fun c l f he => I.at_ c l f he (hin c ?_), fun hmv => ?_, fun hmv => ?_⟩
  · unfold g_law_levels_5
    refine seq_to (ρ1 := [some (.lst (L.g.map rowD)), some DD, some (.dct (tbM tb0)), o3, some (.bl false), o5, o6, o7]) (by simp) ?_
    refine sFor_eq (rg1_eq (n := R) ?_ (by have := hg.r30; omega)) h1
    simp only [e1_ap, eVar_s, eVar_zs, O.bind_ok, hlG]
  · obtain ⟨o, ho, _⟩ := W.dn.lev.own c l (lv_of W.dn.t.nd (List.mem_of_getElem? he))
    rw [ho]; simp
  · obtain ⟨h2, h3⟩ := I.st hmv
    rw [h2]
    exact hp0.still W fun c hc => h3 c (hin c hc)
  · by_cases hk : k < es.length
    · exact hk
    · have := I.al (hp0.all (by omega))
      rw [hmv] at this; cases this
theorem law_levels_eq {L : LandD} {R C : Nat} (hg : GOk L.g R C) {es : Es Cell} (hd : Done (fdL L R C) es) (hl : es.length ≤ 900) (hDO : DrOk L R C) :
    ∃ tb : Tb Cell, F_law_levels [.lst (L.g.map rowD), .lst ((drainsL L R C).map cellD)] = .ok (.dct (tbM tb)) ∧ KOk R C tb ∧ ∀ c, lvT tb c = lvE es c := by
  have W : Field (fdL L R C) es := ⟨hd, fun c d hc hdn => by
    cases e : (fdL L R C).ht c with
    | none => exact absurd e hc
    | some o => exact beside_sym (fd_in e).1 hdn⟩
  have hdr : ∀ c ∈ drainsL L R C, inb R C c = true ∧ openB L.o c = true := fun c hc => ⟨cells_in R C c (List.mem_filter.mp hc).1, (List.mem_filter.mp hc).2⟩
  have hix : ∀ d, inb R C d = true → ∃ r : List (Option Int), ixD (.lst (L.g.map rowD)) (.int d.1) = .ok (rowD r) ∧ ixD (rowD r) (.int d.2) = .ok (hD (getG L.g d)) ∧ r.length = C := fun d hd => ix_grid hg hd
  obtain ⟨ρ1, h1, tb0, o3, rfl, k0, k1⟩ := for_pres (s := gN 3) (g := g_law_levels_1) cellD
    (I := fun p ρ => ∃ (tb : Tb Cell) (o3 : Option D), ρ = [some (.lst (L.g.map rowD)), some (.lst ((drainsL L R C).map cellD)), some (.dct (tbM tb)), o3, none, none, none, none] ∧ KOk R C tb ∧ ∀ c, lvT tb c = if c ∈ p then getG L.g c else none)
    (drainsL L R C) [] [some (.lst (L.g.map rowD)), some (.lst ((drainsL L R C).map cellD)), some (.dct (tbM [])), none, none, none, none, none] (by
      rintro p b q e ρ ⟨tb, o3, rfl, k0, k1⟩
      rw [List.nil_append] at e
      obtain ⟨b1, b2⟩ := hdr b (by rw [e]; simp)
      obtain ⟨r, hr1, hr2, _⟩ := hix b b1
      have y1 : ixD (cellD b) (.int 0) = .ok (.int b.1) := ix_tup0 _ _
      have y2 : ixD (cellD b) (.int 1) = .ok (.int b.2) := ix_tup1 _ _ _
      cases ho : getG L.g b with
      | none => exact absurd ho (hDO b b1 b2)
      | some o =>
        rw [ho] at hr2
        have hr2' : ixD (rowD r) (.int b.2) = .ok (.int o) := hr2
        have hfew : decide ((tbM tb).length < 100000) = true := decide_eq_true (by
          have := k0.few
          have : R * C ≤ 900 := Nat.mul_le_mul hg.r30 hg.c30
          simp [tbM]
          omega)
        refine ⟨[some (.lst (L.g.map rowD)), some (.lst ((drainsL L R C).map cellD)), some (.dct (tbM (putT tb b o))), some (cellD b), none, none, none, none], ?_, _, _, rfl, k0.put b1 o, fun c => ?_⟩
        · generalize D.lst (L.g.map rowD) = G at *
          unfold g_law_levels_1
          have hgn : gN 3 (cellD b) [some G, some (.lst ((drainsL L R C).map cellD)), some (.dct (tbM tb)), o3, none, none, none, none] = .ok [some G, some (.lst ((drainsL L R C).map cellD)), some (.dct (tbM tb)), some (cellD b), none, none, none, none] := by simp
          rw [hgn, O.bind_ok, sDput_ap]
          simp [y1, y2, hr1, hr2', hfew, put_tb]
        · rw [lvT_put, k1]
          by_cases h : c = b
          · subst h
            rw [if_pos rfl, if_pos (by simp), ho]
          · rw [if_neg h]
            simp [h]) ⟨[], none, rfl, ⟨by simp, by simp⟩, fun c => by simp [lvT]⟩
  rw [List.nil_append] at k1
  have hmem : ∀ c, c ∈ drainsL L R C ↔ (fdL L R C).dr c = true := fun c => by
    show _ ↔ (inb R C c && openB L.o c) = true
    rw [Bool.and_eq_true]
    exact ⟨hdr c, fun h => List.mem_filter.mpr ⟨mem_cells h.1, h.2⟩⟩
  have hdrl : ∀ c, (fdL L R C).dr c = true → lvT tb0 c = lvE es c := fun c hc => by
    rw [k1, if_pos ((hmem c).mpr hc)]
    obtain ⟨l, hlc⟩ := hd.lev.dr c hc
    obtain ⟨o, ho, _, h3⟩ := hd.lev.own c l hlc
    obtain ⟨_, h4⟩ := fd_in ho
    rw [hlc, h4, h3 hc]
  have p0 : Pass (fdL L R C) es (lvT tb0) 0 := by
    refine ⟨fun c l hcl => ?_, hdrl, fun i c l f hi => by omega⟩
    by_cases hc : (fdL L R C).dr c = true
    · rw [hdrl c hc] at hcl
      exact ⟨l, hcl, Int.le_refl _⟩
    · rw [k1, if_neg (fun z => hc ((hmem c).mp z))] at hcl
      cases hcl
  have hw := while_inv (t := g_law_levels_4) (g := g_law_levels_5) (f := 100000) (n := es.length + 2) (ρ := [some (.lst (L.g.map rowD)), some (.lst ((drainsL L R C).map cellD)), some (.dct (tbM tb0)), o3, some (.bl true), none, none, none])
    (I := fun n ρ => ∃ (k : Nat) (tb : Tb Cell) (mv : Bool) (p5 p6 p7 : Option D), ρ = [some (.lst (L.g.map rowD)), some (.lst ((drainsL L R C).map cellD)), some (.dct (tbM tb)), o3, some (.bl mv), p5, p6, p7] ∧ n + k = es.length + 2 ∧ KOk R C tb ∧ Pass (fdL L R C) es (lvT tb) k ∧ (mv = true → k ≤ es.length) ∧ (mv = false → Settled es (lvT tb)))
    (E := fun o => ∃ (tb : Tb Cell) (p4 p5 p6 p7 : Option D), o = .nx [some (.lst (L.g.map rowD)), some (.lst ((drainsL L R C).map cellD)), some (.dct (tbM tb)), o3, p4, p5, p6, p7] ∧ KOk R C tb ∧ Settled es (lvT tb)) (by
      rintro n ρ ⟨k, tb, mv, p5, p6, p7, rfl, e1, e2, e3, e4, e5⟩
      cases hmv : mv with
      | false => exact .inl ⟨by simp [g_law_levels_4], tb, _, _, _, _, rfl, e2, e5 hmv⟩
      | true =>
        have hk := e4 hmv
        obtain ⟨tb', mv', q5, q6, q7, w1, w2, w3, w4, w5⟩ := pass_all hg W e2 e3 (DD := .lst ((drainsL L R C).map cellD)) (o3 := o3) (o5 := p5) (o6 := p6) (o7 := p7)
        refine .inr ⟨by simp [g_law_levels_4], .inl ⟨_, n - 1, by omega, .inl w1, k + 1, tb', mv', q5, q6, q7, rfl, by omega, w2, w3, fun z => ?_, w4⟩⟩
        have := w5 z
        omega) (by omega) ⟨0, tb0, true, none, none, none, rfl, by omega, k0, p0, fun _ => by omega, fun z => by cases z⟩
  obtain ⟨o, ho, tb, p4, p5, p6, p7, rfl, c1, c2⟩ := hw
  refine ⟨tb, ?_, c1, c2⟩
  refine runF_rt rfl (by decide) (ρ := [some (.lst (L.g.map rowD)), some (.lst ((drainsL L R C).map cellD)), none, o3, p4, p5, p6, p7]) ?_
  unfold g_law_levels
  refine seq_to (ρ1 := [some (.lst (L.g.map rowD)), some (.lst ((drainsL L R C).map cellD)), some (.dct (tbM [])), none, none, none, none, none]) (by simp [startD]; rfl) ?_
  refine seq_to (sFor_eq (ds := (drainsL L R C).map cellD) (by simp) h1) ?_
  refine seq_to (ρ1 := [some (.lst (L.g.map rowD)), some (.lst ((drainsL L R C).map cellD)), some (.dct (tbM tb0)), o3, some (.bl true), none, none, none]) (by simp) ?_
  refine seq_to ho ?_
  simp
/-! the law's land, asked ahead -/
theorem setG_h {g : List (List (Option Int))} {R C : Nat} (hg : GOk g R C) (hh : gOk g) {p : Cell} {h : Option Int} (ho : hOk h = true) : gOk (setG g p h) := fun r hr x hx => by
  unfold setG at hr
  rcases List.mem_or_eq_of_mem_set hr with h1 | h1
  · exact hh r h1 x hx
  · rw [h1] at hx
    rcases List.mem_or_eq_of_mem_set hx with h2 | h2
    · by_cases hi : p.1.toNat < g.length
      · rw [List.getD_eq_getElem?_getD, List.getElem?_eq_getElem hi] at h2
        exact hh _ (List.getElem_mem hi) x h2
      · rw [List.getD_eq_getElem?_getD, List.getElem?_eq_none (by omega)] at h2
        simp at h2
    · rw [h2]; exact ho
theorem land_law2 {g : List (List (Option Int))} {R C : Nat} (hg : GOk g R C) (hh : gOk g) (hask : ∀ L : LandD, GOk L.g R C → gOk L.g → DrOk L R C → ∃ t : Int, F_law_asked [.land L] = .ok (.int t)) {ds : List Cell} (hd : ∀ c ∈ ds, inb R C c = true ∧ getG g c ≠ none) (hl : ds.length ≤ 900) :
    ∃ o, F_law_land [.lst (g.map rowD), .lst (ds.map cellD)] = .ok (.land ⟨g, o⟩) ∧ ∀ c, openB o c = decide (c ∈ ds) := by
  have h00 : inb R C (0, 0) = true := by
    have := hg.r1; have := hg.c1
    simp [inb]; omega
  obtain ⟨h0, ht, gt, hcons⟩ := cons2 hg
  have hg1 := setG_ok hg (0, 0) (some 7)
  have hh1 : gOk (setG g (0, 0) (some 7)) := setG_h hg hh rfl
  have hget1 : getG (setG g (0, 0) (some 7)) (0, 0) = some 7 := by rw [get_set hg h00 h00]; simp
  have hback : setG (setG g (0, 0) (some 7)) (0, 0) (getG g (0, 0)) = g := by
    refine grid_ext (setG_ok hg1 _ _) hg fun p hp => ?_
    rw [get_set hg1 h00 hp, get_set hg h00 hp]
    by_cases e : p = (0, 0)
    · rw [if_pos e, e]
    · rw [if_neg e, if_neg e]
  have hok0 : hOk (getG g (0, 0)) = true := by
    obtain ⟨r, e1, e2, e3⟩ := get_at hg (i := 0) (j := 0) (by have := hg.r1; omega) (by have := hg.c1; omega)
    exact hh r (List.mem_of_getElem? e1) _ (List.mem_of_getElem? e2)
  have op1 := opened_eq (L := ⟨setG g (0, 0) (some 7), []⟩) hg1 h00 (by rw [show (LandD.mk (setG g (0, 0) (some 7)) []).g = setG g (0, 0) (some 7) from rfl, hget1]; simp) (by simp)
  have b1 : ∀ c, openB (putL [] (keyP (0, 0)) true) c = decide (c = (0, 0)) := fun c => by
    rw [open_put]
    by_cases e : c = (0, 0) <;> simp [e]
  obtain ⟨t1, ask1⟩ := hask ⟨setG g (0, 0) (some 7), putL [] (keyP (0, 0)) true⟩ hg1 hh1 fun c hc ho => by
    have ho : openB (putL [] (keyP (0, 0)) true) c = true := ho
    rw [b1, decide_eq_true_eq] at ho
    rw [ho]
    show getG (setG g (0, 0) (some 7)) (0, 0) ≠ none
    rw [hget1]; simp
  have sh := shut_eq (L := ⟨setG g (0, 0) (some 7), putL [] (keyP (0, 0)) true⟩) hg1 h00 (by show openB (putL [] (keyP (0, 0)) true) (0, 0) = true; rw [b1]; simp) (Nat.lt_of_le_of_lt (putL_len ([] : List (List Key × Bool)) (keyP (0, 0)) true) (by decide))
  generalize ho2 : putL (putL [] (keyP (0, 0)) true) (keyP (0, 0)) false = o2 at sh
  have l2 : o2.length ≤ 2 := by
    have e1 := putL_len ([] : List (List Key × Bool)) (keyP (0, 0)) true
    have e2 := putL_len (putL [] (keyP (0, 0)) true) (keyP (0, 0)) false
    rw [ho2] at e2
    simp at e1
    omega
  have b2 : ∀ c, openB o2 c = false := fun c => by
    rw [← ho2, open_put, b1]
    by_cases e : c = (0, 0) <;> simp [e]
  obtain ⟨t2, ask2⟩ := hask ⟨setG g (0, 0) (some 7), o2⟩ hg1 hh1 fun c hc ho => by
    have ho : openB o2 c = true := ho
    rw [b2] at ho; cases ho
  have ra := raised_eq (L := ⟨setG g (0, 0) (some 7), o2⟩) hg1 h00 hok0 (by show o2.length < 100000; omega)
  dsimp only at ra
  rw [hback] at ra
  generalize ho3 : (if getG g (0, 0) = none then putL o2 (keyP (0, 0)) false else o2) = o3 at ra
  have b3 : ∀ c, openB o3 c = false := fun c => by
    rw [← ho3]
    split
    · rw [open_put, b2]; simp
    · exact b2 c
  have l3 : o3.length ≤ 3 := by
    rw [← ho3]
    split
    · have := putL_len o2 (keyP (0, 0)) false
      omega
    · omega
  obtain ⟨t3, ask3⟩ := hask ⟨g, o3⟩ hg hh fun c hc ho => by
    have ho : openB o3 c = true := ho
    rw [b3] at ho; cases ho
  obtain ⟨ρ1, h1, o, o5, rfl, h2, h3⟩ := for_pres (s := gN 5) (g := g_law_land_2) cellD
    (I := fun p ρ => ∃ (o : List (List Key × Bool)) (o5 : Option D), ρ = [some (.lst (g.map rowD)), some (.lst (ds.map cellD)), some (.lst ((setG g (0, 0) (some 7)).map rowD)), none, some (.land ⟨g, o⟩), o5] ∧ o.length ≤ p.length + 3 ∧ ∀ c, openB o c = decide (c ∈ p))
    ds [] [some (.lst (g.map rowD)), some (.lst (ds.map cellD)), some (.lst ((setG g (0, 0) (some 7)).map rowD)), none, some (.land ⟨g, o3⟩), none] (by
      rintro p b q e ρ ⟨o, o5, rfl, h2, h3⟩
      rw [List.nil_append] at e
      obtain ⟨z1, z2⟩ := hd b (by rw [e]; simp)
      have hpl := pre_len e
      have ho := opened_eq (L := ⟨g, o⟩) hg z1 z2 (by show o.length < 100000; omega)
      refine ⟨[some (.lst (g.map rowD)), some (.lst (ds.map cellD)), some (.lst ((setG g (0, 0) (some 7)).map rowD)), none, some (.land ⟨g, putL o (keyP b) true⟩), some (cellD b)], ?_, _, _, rfl, ?_, fun c => ?_⟩
      · simp [g_law_land_2, ho]
      · have := putL_len o (keyP b) true
        simp
        omega
      · rw [open_put, h3]
        by_cases e : c = b
        · simp [e]
        · simp [e]) ⟨o3, none, rfl, by simpa using l3, fun c => by rw [b3]; simp⟩
  rw [List.nil_append] at h2 h3
  refine ⟨o, ?_, h3⟩
  have hix0 : ∀ ρ : Rho, (e2 ixD (e2 ixD (eVar 0) (eC (.int 0))) (eC (.int 0))) (some (.lst (g.map rowD)) :: ρ) = .ok (hD (getG g (0, 0))) := fun ρ => by
    obtain ⟨r, q1, q2, _⟩ := ix_grid hg h00
    rw [e2_ap, e2_ap, eVar_zs, O.bind_ok, eC_ap, O.bind_ok]
    show ((ixD (.lst (g.map rowD)) (.int 0)).bind _) = _
    rw [show ixD (.lst (g.map rowD)) (.int 0) = .ok (rowD r) from q1, O.bind_ok]
    exact q2
  refine runF_rt rfl (by decide) (ρ := [some (.lst (g.map rowD)), some (.lst (ds.map cellD)), some (.lst ((setG g (0, 0) (some 7)).map rowD)), none, none, o5]) ?_
  unfold g_law_land
  refine seq_to (ρ1 := [some (.lst (g.map rowD)), some (.lst (ds.map cellD)), some (.lst (g.map rowD)), none, none, none]) ?_ ?_
  · refine set_eq (eLc_eq (ds := g.map rowD) rfl (by simp [startD]) (by rw [List.length_map, hg.len]; have := hg.r30; omega) ?_) (by simp [startD])
    rw [cGo_map rowD (fun _ => true) rowD]
    · rw [List.filter_eq_self.mpr fun _ _ => rfl]
    · intro r _; simp
    · intro r _ _
      simp [g_law_land_1, rowD, listD, startD]
  refine seq_to (ρ1 := [some (.lst (g.map rowD)), some (.lst (ds.map cellD)), some (.lst ((setG g (0, 0) (some 7)).map rowD)), none, none, none]) ?_ ?_
  · rw [store00 (h0 := h0) (ht := ht) (gt := gt) (x := 7) (hi := by rw [hcons]; rfl), hcons]
    rfl
  refine seq_to (ρ1 := [some (.lst (g.map rowD)), some (.lst (ds.map cellD)), some (.lst ((setG g (0, 0) (some 7)).map rowD)), none, some (.land ⟨setG g (0, 0) (some 7), []⟩), none]) ?_ ?_
  · simp [init_eq hg1 hh1]
  have c00 : eTup (aCons (eC (.int 0)) (aCons (eC (.int 0)) aNil)) = fun _ => .ok (cellD (0, 0)) := rfl
  rw [c00]
  have asub : ∀ (L : LandD) (t : Int), F_law_asked [.land L] = .ok (.int t) → ∀ ρ0 ρ1 ρ2 ρ3 ρ5 : Option D, sDrop (eCall (aCons (eVar 4) aNil) F_law_asked) [ρ0, ρ1, ρ2, ρ3, some (.land L), ρ5] = .ok (.nx [ρ0, ρ1, ρ2, ρ3, some (.land L), ρ5]) := fun L t h ρ0 ρ1 ρ2 ρ3 ρ5 => by simp [h]
  refine seq_to (ρ1 := [some (.lst (g.map rowD)), some (.lst (ds.map cellD)), some (.lst ((setG g (0, 0) (some 7)).map rowD)), none, some (.land ⟨setG g (0, 0) (some 7), putL [] (keyP (0, 0)) true⟩), none]) ?_ ?_
  · simp [op1]
  refine seq_to (asub _ _ ask1 _ _ _ _ _) ?_
  refine seq_to (ρ1 := [some (.lst (g.map rowD)), some (.lst (ds.map cellD)), some (.lst ((setG g (0, 0) (some 7)).map rowD)), none, some (.land ⟨setG g (0, 0) (some 7), o2⟩), none]) ?_ ?_
  · simp [sh]
  refine seq_to (asub _ _ ask2 _ _ _ _ _) ?_
  refine seq_to (ρ1 := [some (.lst (g.map rowD)), some (.lst (ds.map cellD)), some (.lst ((setG g (0, 0) (some 7)).map rowD)), none, some (.land ⟨g, o3⟩), none]) ?_ ?_
  · have hx := hix0 [some (.lst (ds.map cellD)), some (.lst ((setG g (0, 0) (some 7)).map rowD)), none, some (.land ⟨setG g (0, 0) (some 7), o2⟩), none]
    rw [sDropX_ap, sX_ap, xMe_ap]
    rw [aCons_ap, aCons_ap, hx]
    simp only [eOwn_ap, eVar_s, eVar_zs, O.bind_ok, kdsl, imml, gd_true, kdl, aNil_ap, ra]
    rfl
  refine seq_to (asub _ _ ask3 _ _ _ _ _) ?_
  refine seq_to (sFor_eq (ds := ds.map cellD) (by simp) h1) ?_
  simp
/-! depths -/
def dctM (f : Cell → Int) (ks : List Cell) : List (List Key × D) := ks.map fun c => (keyP c, .int (f c))
theorem find_id (ks : List Cell) (c : Cell) : (ks.find? fun e => decide (e = c)) = if c ∈ ks then some c else none := by
  induction ks with
  | nil => simp
  | cons k ks ih =>
    rw [List.find?_cons]
    by_cases h : k = c
    · simp [h]
    · rw [decide_eq_false h]
      have h' : ¬ c = k := fun e => h e.symm
      simp [ih, h']
theorem look_dm (f : Cell → Int) (ks : List Cell) (c : Cell) : lookD (dctM f ks) (keyP c) = if c ∈ ks then some (.int (f c)) else none := by
  unfold dctM
  rw [look_gen (fun c => c) (fun c => .int (f c)) ks c, find_id]
  split <;> rfl
theorem ix_dm {f : Cell → Int} {ks : List Cell} {c : Cell} (h : c ∈ ks) : ixD (.dct (dctM f ks)) (cellD c) = .ok (.int (f c)) := by
  show (ofO (keyD (cellD c))).bind (fun k => ofO (lookD (dctM f ks) k)) = _
  rw [keyD_cell, ofO_some, O.bind_ok, look_dm, if_pos h, ofO_some]
theorem ixF_dm {f : Cell → Int} {ks : List Cell} {c : Cell} (h : c ∈ ks) : ixF (.fd (dctM f ks)) (cellD c) = .ok (.int (f c)) := by
  show (ofO (keyD (cellD c))).bind (fun k => ofO (lookD (dctM f ks) k)) = _
  rw [keyD_cell, ofO_some, O.bind_ok, look_dm, if_pos h, ofO_some]
theorem in_dm (neg : Bool) (f : Cell → Int) (ks : List Cell) (c : Cell) : inD neg (cellD c) (.dct (dctM f ks)) = .ok (.bl (neg != decide (c ∈ ks))) := by
  show (ofO (keyD (cellD c))).bind (fun k => O.ok (D.bl (neg != (lookD (dctM f ks) k).isSome))) = _
  rw [keyD_cell, ofO_some, O.bind_ok, look_dm]
  by_cases h : c ∈ ks <;> simp [h]
theorem get_dm (f : Cell → Int) (ks : List Cell) (c : Cell) : ((lookD (dctM f ks) (keyP c)).getD (.int 0)) = .int (if c ∈ ks then f c else 0) := by
  rw [look_dm]
  by_cases h : c ∈ ks <;> simp [h]
theorem put_dm {f : Cell → Int} {ks : List Cell} {c : Cell} (h : c ∉ ks) : putL (dctM f ks) (keyP c) (.int (f c)) = dctM f (ks ++ [c]) := by
  unfold dctM
  rw [putL_new fun p hp e => ?_, List.map_append]
  · rfl
  · obtain ⟨k, hk, rfl⟩ := List.mem_map.mp hp
    exact h (by rw [← keyP_inj e]; exact hk)
theorem keys_dm (f : Cell → Int) (ks : List Cell) : ((dctM f ks).map fun p => keyT p.1) = ks.map cellD := by
  unfold dctM
  rw [List.map_map]
  rfl
theorem len_dm (f : Cell → Int) (ks : List Cell) : (dctM f ks).length = ks.length := by simp [dctM]
def dpF (L : LandD) (es : Es Cell) (c : Cell) : Int := (lvE es c).getD 0 - (getG L.g c).getD 0
def dpK (R C : Nat) (es : Es Cell) : List Cell := (cellsL R C).filter fun c => (lvE es c).isSome
structure Dp (L : LandD) (R C : Nat) (es : Es Cell) : Prop where
  hg : GOk L.g R C
  sp : ∃ on, F_spread [.land L] = .ok (.tup [.dct (lvM es), on])
  hd : Done (fdL L R C) es
theorem Dp.low {L : LandD} {R C : Nat} {es : Es Cell} (h : Dp L R C es) {c : Cell} {l : Int} (hc : lvE es c = some l) : ∃ o, getG L.g c = some o ∧ o ≤ l ∧ inb R C c = true := by
  obtain ⟨o, h1, h2, _⟩ := h.hd.lev.own c l hc
  exact ⟨o, (fd_in h1).2, h2, (fd_in h1).1⟩
theorem mem_dpK {R C : Nat} {es : Es Cell} {c : Cell} : c ∈ dpK R C es ↔ inb R C c = true ∧ (lvE es c).isSome = true := by
  unfold dpK
  rw [List.mem_filter]
  exact ⟨fun x => ⟨cells_in R C c x.1, x.2⟩, fun x => ⟨mem_cells x.1, x.2⟩⟩
theorem few_dpK {R C : Nat} {es : Es Cell} (r : R ≤ 30) (c : C ≤ 30) : (dpK R C es).length ≤ 900 := Nat.le_trans (List.length_filter_le _ _) (cells_few r c)
theorem nd_dpK {R C : Nat} {es : Es Cell} : (dpK R C es).Nodup := (nodup_cells R C).filter _
theorem depths_eq {L : LandD} {R C : Nat} {es : Es Cell} (h : Dp L R C es) : F_depths [.land L] = .ok (.dct (dctM (dpF L es) (dpK R C es))) := by
  have hg := h.hg
  obtain ⟨on, hsp⟩ := h.sp
  have hrows : rowsD (.land L) = .ok (.int (R : Int)) := by rw [rowsD_land, hg.len]
  have hcols : colsD (.land L) = .ok (.int (C : Int)) := by rw [colsD_land, hg.hd]
  have hhe : ∀ p, inb R C p = true → F_Land_height [.land L, cellD p] = .ok (hD (getG L.g p)) := fun p hp => height_eq hg hp
  have ha := all_cells_eq (R : Int) (C : Int) (by have := hg.r30; omega) (by have := hg.c30; omega) (by omega) (by omega)
  have kL : Kd.land.is (.land L) = true := rfl
  have hlow : ∀ c l, lvE es c = some l → ∃ o, getG L.g c = some o := fun c l hc => let ⟨o, h1, _⟩ := h.low hc; ⟨o, h1⟩
  generalize hf : dpF L es = f
  have hfc : ∀ c l o, lvE es c = some l → getG L.g c = some o → f c = l - o := fun c l o h1 h2 => by rw [← hf]; unfold dpF; rw [h1, h2]; rfl
  generalize D.land L = LD at *
  obtain ⟨ρ1, h1, x3, rfl⟩ := for_pres (s := gN 3) (g := g_depths_1) cellD
    (I := fun p ρ => ∃ x3 : Option D, ρ = [some LD, some (.dct (lvM es)), some (.dct (dctM f (p.filter fun c => (lvE es c).isSome))), x3])
    (cellsL R C) [] [some LD, some (.dct (lvM es)), some (.dct (dctM f [])), none] (by
      rintro p b q e ρ ⟨x3, rfl⟩
      rw [List.nil_append] at e
      have hb : inb R C b = true := cells_in R C b (by rw [e]; simp)
      have hpl := pre_len e
      have h9 : (cellsL R C).length ≤ 900 := cells_few hg.r30 hg.c30
      have hnd := nodup_cells R C
      rw [e] at hnd
      have hbp : b ∉ p := fun z => (List.nodup_append.mp hnd).2.2 b z b (by simp) rfl
      have hin := in_lv false es b
      have hll : (p.filter fun c => (lvE es c).isSome).length ≤ p.length := List.length_filter_le _ _
      refine ⟨[some LD, some (.dct (lvM es)), some (.dct (dctM f ((p ++ [b]).filter fun c => (lvE es c).isSome))), some (cellD b)], ?_, _, rfl⟩
      have hgn : ∀ X Y : D, gN 3 (cellD b) [some LD, some X, some Y, x3] = .ok [some LD, some X, some Y, some (cellD b)] := fun X Y => by simp
      rw [hgn, O.bind_ok]
      unfold g_depths_1
      rw [Bool.false_bne, ← lv_isSome] at hin
      rw [List.filter_append]
      have htest : ∀ Y : D, (tE (eIn false (eVar 3) (eVar 1))) [some LD, some (.dct (lvM es)), some Y, some (cellD b)] = .ok (lvE es b).isSome := fun Y => by
        rw [tE_ap]
        unfold eIn
        simp only [eVar_s, eVar_zs, O.bind_ok, hin]
      rw [sIf_ap, htest, O.bind_ok]
      cases hl : lvE es b with
      | none => simp [hl]
      | some l =>
        obtain ⟨o, ho⟩ := hlow b l hl
        have hh := hhe b hb
        rw [ho] at hh
        have hh' : F_Land_height [LD, cellD b] = .ok (.int o) := hh
        have hix : ixD (.dct (lvM es)) (cellD b) = .ok (.int l) := by
          show (ofO (keyD (cellD b))).bind (fun k => ofO (lookD (lvM es) k)) = _
          rw [keyD_cell, ofO_some, O.bind_ok, look_lv, hl]
          rfl
        have hz : decide ((dctM f (p.filter fun c => (lvE es c).isSome)).length < 100000) = true := decide_eq_true (by rw [len_dm]; omega)
        have hput := put_dm (f := f) (ks := p.filter fun c => (lvE es c).isSome) (c := b) (fun z => hbp (List.mem_filter.mp z).1)
        rw [hfc b l o hl ho] at hput
        simp only [Option.isSome_some, if_true]
        rw [sDput_ap]
        have hval : (e2 subD (e2 ixD (eVar 1) (eVar 3)) (eMe .land (eVar 0) (aCons (eVar 3) aNil) F_Land_height)) [some LD, some (.dct (lvM es)), some (.dct (dctM f (p.filter fun c => (lvE es c).isSome))), some (cellD b)] = .ok (.int (l - o)) := by
          generalize dctM f (p.filter fun c => (lvE es c).isSome) = m at *
          generalize D.dct (lvM es) = T at *
          simp [hix, kL, hh']
        rw [hval]
        have hfl : ([b].filter fun c => (lvE es c).isSome) = [b] := by simp [hl]
        rw [hfl]
        generalize dctM f (p.filter fun c => (lvE es c).isSome) = m at *
        simp [hz, hput]) ⟨none, rfl⟩
  rw [List.nil_append] at h1
  refine runF_rt rfl (by decide) (ρ := [some LD, some (.dct (lvM es)), none, x3]) ?_
  unfold g_depths
  have hix0 : ixD (.tup [.dct (lvM es), on]) (.int 0) = .ok (.dct (lvM es)) := ix_tup0 _ _
  refine seq_to (ρ1 := [some LD, some (.dct (lvM es)), none, none]) (by simp [startD, hsp, hix0]) ?_
  refine seq_to (ρ1 := [some LD, some (.dct (lvM es)), some (.dct (dctM f [])), none]) rfl ?_
  refine seq_to (sFor_eq (ds := (cellsL R C).map cellD) ?_ h1) ?_
  · rw [iSeq_ap]
    simp [hrows, hcols, ha]
  · simp [dpK]
/-! all that stands -/
theorem ints_dm (f : Cell → Int) (ks : List Cell) : intsL (ks.map fun c => D.int (f c)) = some (ks.map f) := by
  induction ks with
  | nil => rfl
  | cons k ks ih =>
    rw [List.map_cons, List.map_cons]
    show (match intsL (ks.map fun c => D.int (f c)) with
      | some l => some (f k :: l)
      | none => none) = _
    rw [ih]
theorem sum_dm {f : Cell → Int} {ks : List Cell} {i : Nat} {g : EF} {ρ : Rho} {fa : EF} (hl : ks.length ≤ 900) (hi : i < ρ.length) (hfa : fa ρ = .ok (.fd (dctM f ks))) (hg : ∀ c ∈ ks, g (ρ.set i (some (cellD c))) = .ok (.int (f c))) : (e1 sumD (eLc (iFd fa) i tTr g)) ρ = .ok (.int (ks.map f).sum) := by
  have h1 : eLc (iFd fa) i tTr g ρ = .ok (.lst (ks.map fun c => D.int (f c))) := by
    refine eLc_eq (ds := ks.map cellD) ?_ hi (by rw [List.length_map]; omega) ?_
    · unfold iFd
      rw [hfa, O.bind_ok]
      show O.ok ((dctM f ks).map fun p => keyT p.1) = _
      rw [keys_dm]
    · rw [cGo_map cellD (fun _ => true) (fun c => D.int (f c))]
      · rw [List.filter_eq_self.mpr fun _ _ => rfl]
      · intro c _; simp
      · intro c hc _
        exact hg c hc
  rw [e1_ap, h1, O.bind_ok]
  simp only [sumD, ints_dm]
theorem volume_eq {L : LandD} {R C : Nat} {es : Es Cell} (h : Dp L R C es) : F_volume [.land L] = .ok (.int ((dpK R C es).map (dpF L es)).sum) := by
  have hde := depths_eq h
  have hfew := few_dpK (es := es) h.hg.r30 h.hg.c30
  generalize D.land L = LD at *
  generalize dpK R C es = ks at *
  generalize dpF L es = f at *
  refine runF_rt rfl (by decide) (ρ := [some LD, some (.fd (dctM f ks)), none]) ?_
  unfold g_volume
  refine seq_to (ρ1 := [some LD, some (.dct (dctM f ks)), none]) (by
    generalize dctM f ks = m at *
    simp [startD, hde]) ?_
  unfold sLock
  show (gd (decide (1 < 3)) (sRet (e1 sumD (eLc (iFd (eVar 1)) 2 tTr g_volume_1)) [some LD, some (.fd (dctM f ks)), none])) = _
  rw [decide_eq_true (by decide), gd_true]
  refine ret_eq (sum_dm hfew (by simp) rfl fun c hc => ?_)
  have := ixF_dm (f := f) hc
  generalize dctM f ks = m at *
  unfold g_volume_1
  rw [e2_ap]
  simp only [List.set_cons_zero, List.set_cons_succ, eVar_s, eVar_zs, O.bind_ok, this]
theorem same_depths_eq {f : Cell → Int} {ks ks' : List Cell} (hm : ∀ c, c ∈ ks ↔ c ∈ ks') (hl : ks.length = ks'.length) : F_law_same_depths [.dct (dctM f ks), .fd (dctM f ks')] = .ok (.bl true) := by
  have hty : tyN (.dct (dctM f ks)) = some "dict" := rfl
  have hl1 : lenD (.dct (dctM f ks)) = .ok (.int (ks.length : Int)) := by
    show O.ok (D.int ((dctM f ks).length : Int)) = _
    rw [len_dm]
  have hl2 : lenF (.fd (dctM f ks')) = .ok (.int (ks.length : Int)) := by
    show O.ok (D.int ((dctM f ks').length : Int)) = _
    rw [len_dm, hl]
  obtain ⟨ρ1, h1, x2, rfl⟩ := for_inv (I := fun ρ => ∃ x2 : Option D, ρ = [some (.dct (dctM f ks)), some (.fd (dctM f ks')), x2]) (s := gN 2) (g := g_law_same_depths_1) (ds := ks'.map cellD) (ρ := [some (.dct (dctM f ks)), some (.fd (dctM f ks')), none]) (fun d hd ρ hI => by
    obtain ⟨x2, rfl⟩ := hI
    obtain ⟨c, hc, rfl⟩ := List.mem_map.mp hd
    have hk := (hm c).mpr hc
    have q1 := ix_dm (f := f) hk
    have q2 := ixF_dm (f := f) hc
    have q3 := in_dm true f ks c
    rw [decide_eq_true hk] at q3
    have q4 : F_law_whole [.int (f c)] = .ok (.bl true) := by simp [F_law_whole, runF, g_law_whole, startD, isTy]
    generalize D.dct (dctM f ks) = A at *
    generalize D.fd (dctM f ks') = B at *
    refine ⟨[some A, some B, some (cellD c)], ?_, _, rfl⟩
    rw [show gN 2 (cellD c) [some A, some B, x2] = .ok [some A, some B, some (cellD c)] from by simp, O.bind_ok]
    unfold g_law_same_depths_1
    have hin : (tE (eIn true (eVar 2) (eVar 0))) [some A, some B, some (cellD c)] = .ok false := by
      rw [tE_ap]
      unfold eIn
      simp only [eVar_s, eVar_zs, O.bind_ok, q3]
      rfl
    simp [q3, q1, q2, q4]) ⟨none, rfl⟩
  have hit : iFd (eVar 1) [some (.dct (dctM f ks)), some (.fd (dctM f ks')), none] = .ok (ks'.map cellD) := by
    show O.ok ((dctM f ks').map fun p => keyT p.1) = _
    rw [keys_dm]
  generalize D.dct (dctM f ks) = A at *
  generalize D.fd (dctM f ks') = B at *
  refine runF_rt rfl (by decide) (ρ := [some A, some B, x2]) ?_
  unfold g_law_same_depths
  refine seq_to (ρ1 := [some A, some B, none]) ?_ (seq_to (sFor_eq hit h1) (by simp))
  simp [startD, hty, isTy, hl1, hl2]
/-! pools -/
theorem imm_cells : ∀ l : List Cell, immA (l.map cellD) = true
  | [] => by simp
  | c :: l => by rw [List.map_cons, immA_cons, imm_cell, imm_cells l]; rfl
def fdM (fs : List Cell) : List (List Key × D) := fs.map fun c => (keyP c, D.bl true)
theorem look_fdM (fs : List Cell) (c : Cell) : (lookD (fdM fs) (keyP c)).isSome = decide (c ∈ fs) := by
  unfold fdM
  rw [look_gen (fun c => c) (fun _ => D.bl true) fs c, find_id]
  by_cases h : c ∈ fs <;> simp [h]
theorem in_fdM (neg : Bool) (fs : List Cell) (c : Cell) : inD neg (cellD c) (.dct (fdM fs)) = .ok (.bl (neg != decide (c ∈ fs))) := by
  show (ofO (keyD (cellD c))).bind (fun k => O.ok (D.bl (neg != (lookD (fdM fs) k).isSome))) = _
  rw [keyD_cell, ofO_some, O.bind_ok, look_fdM]
theorem put_fdM {fs : List Cell} {c : Cell} (h : c ∉ fs) : putL (fdM fs) (keyP c) (.bl true) = fdM (fs ++ [c]) := by
  unfold fdM
  rw [putL_new fun p hp e => ?_, List.map_append]
  · rfl
  · obtain ⟨k, hk, rfl⟩ := List.mem_map.mp hp
    exact h (by rw [← keyP_inj e]; exact hk)
theorem len_fdM (fs : List Cell) : (fdM fs).length = fs.length := by simp [fdM]
section
variable {R C : Nat} {ok : Cell → Bool} (hok : ∀ c, ok c = true → inb R C c = true)
include hok
theorem Rch.back {c x : Cell} (h : Rch (besideL R C) ok (· ∈ [c]) x) : Rch (besideL R C) ok (· ∈ [x]) c := by
  have tr : ∀ {a b d : Cell}, Rch (besideL R C) ok (· ∈ [a]) b → Rch (besideL R C) ok (· ∈ [b]) d → Rch (besideL R C) ok (· ∈ [a]) d := fun {a b d} h1 h2 => by
    induction h2 with
    | st hs ho => rw [List.mem_singleton.mp hs]; exact h1
    | nx _ hn ho ih => exact .nx ih hn ho
  have hok' : ∀ {a b : Cell}, Rch (besideL R C) ok (· ∈ [a]) b → ok b = true := fun {a b} h => by cases h <;> assumption
  induction h with
  | st hs ho =>
    rw [List.mem_singleton.mp hs] at ho ⊢
    exact .st (by simp) ho
  | nx h1 hn ho ih =>
    rename_i y d
    have hy := hok' h1
    refine tr ?_ ih
    exact .nx (.st (by simp) ho) (beside_sym (hok _ hy) hn) hy
theorem Rch.trans' {a b d : Cell} (h1 : Rch (besideL R C) ok (· ∈ [a]) b) (h2 : Rch (besideL R C) ok (· ∈ [b]) d) : Rch (besideL R C) ok (· ∈ [a]) d := by
  induction h2 with
  | st hs ho => rw [List.mem_singleton.mp hs]; exact h1
  | nx _ hn ho ih => exact .nx ih hn ho
end
/-- the pool of a cell -/
noncomputable def poolP (R C : Nat) (ok : Cell → Bool) (c : Cell) : List Cell := (cellsL R C).filter fun x => @decide (Rch (besideL R C) ok (· ∈ [c]) x) (Classical.propDecidable _)
theorem mem_pool {R C : Nat} {ok : Cell → Bool} (hok : ∀ c, ok c = true → inb R C c = true) {c x : Cell} : x ∈ poolP R C ok c ↔ Rch (besideL R C) ok (· ∈ [c]) x := by
  unfold poolP
  rw [List.mem_filter, @decide_eq_true_eq _ (Classical.propDecidable _)]
  exact ⟨fun h => h.2, fun h => ⟨mem_cells (hok _ (by cases h <;> assumption)), h⟩⟩
theorem pool_filter {R C : Nat} {ok : Cell → Bool} {c : Cell} {fs : List Cell} (h : ∀ x, x ∈ fs ↔ Rch (besideL R C) ok (· ∈ [c]) x) : ((cellsL R C).filter fun x => decide (x ∈ fs)) = poolP R C ok c := by
  unfold poolP
  refine List.filter_congr fun x _ => ?_
  rw [Bool.eq_iff_iff, decide_eq_true_eq, @decide_eq_true_eq _ (Classical.propDecidable _)]
  exact h x
theorem pool_few {R C : Nat} {ok : Cell → Bool} {c : Cell} (r : R ≤ 30) (h : C ≤ 30) : (poolP R C ok c).length ≤ 900 := Nat.le_trans (List.length_filter_le _ _) (cells_few r h)
/-- the pools, by their first cells -/
noncomputable def stepP (R C : Nat) (ok : Cell → Bool) (acc : List (List Cell)) (c : Cell) : List (List Cell) := if ok c = true ∧ ∀ P ∈ acc, c ∉ P then acc ++ [poolP R C ok c] else acc
noncomputable def poolsP (R C : Nat) (ok : Cell → Bool) (l : List Cell) : List (List Cell) := l.foldl (stepP R C ok) []
theorem pools_snoc (R C : Nat) (ok : Cell → Bool) (l : List Cell) (c : Cell) : poolsP R C ok (l ++ [c]) = stepP R C ok (poolsP R C ok l) c := by
  unfold poolsP
  rw [List.foldl_append]
  rfl
theorem pools_len (R C : Nat) (ok : Cell → Bool) (l : List Cell) : (poolsP R C ok l).length ≤ l.length := by
  have : ∀ (l : List Cell) (acc : List (List Cell)), (l.foldl (stepP R C ok) acc).length ≤ acc.length + l.length := by
    intro l
    induction l with
    | nil => intro acc; simp
    | cons c l ih =>
      intro acc
      rw [List.foldl_cons]
      have h1 := ih (stepP R C ok acc c)
      have h2 : (stepP R C ok acc c).length ≤ acc.length + 1 := by
        unfold stepP
        split <;> simp
      rw [List.length_cons]
      omega
  simpa [poolsP] using this l []
theorem pools_filter (R C : Nat) (ok : Cell → Bool) (q : Cell → Bool) (hq : ∀ c, ok c = true → q c = true) (l : List Cell) : poolsP R C ok (l.filter q) = poolsP R C ok l := by
  have : ∀ (l : List Cell) (acc : List (List Cell)), (l.filter q).foldl (stepP R C ok) acc = l.foldl (stepP R C ok) acc := by
    intro l
    induction l with
    | nil => intro acc; rfl
    | cons c l ih =>
      intro acc
      rw [List.filter_cons]
      cases hc : q c with
      | true =>
        rw [if_pos rfl, List.foldl_cons, List.foldl_cons]
        exact ih _
      | false =>
        rw [if_neg (by decide), List.foldl_cons]
        have : stepP R C ok acc c = acc := by
          unfold stepP
          rw [if_neg fun z => by rw [hq c z.1] at hc; cases hc]
        rw [this]
        exact ih _
  exact this l []
/-- each pool is one of a cell -/
theorem pools_of (R C : Nat) (ok : Cell → Bool) (l : List Cell) : ∀ P ∈ poolsP R C ok l, ∃ c ∈ l, ok c = true ∧ P = poolP R C ok c := by
  have : ∀ (l : List Cell) (acc : List (List Cell)) (m : List Cell), (∀ P ∈ acc, ∃ c ∈ m, ok c = true ∧ P = poolP R C ok c) → ∀ P ∈ l.foldl (stepP R C ok) acc, ∃ c ∈ m ++ l, ok c = true ∧ P = poolP R C ok c := by
    intro l
    induction l with
    | nil => intro acc m h P hP; simpa using h P hP
    | cons c l ih =>
      intro acc m h P hP
      rw [List.foldl_cons] at hP
      have := ih (stepP R C ok acc c) (m ++ [c]) (fun Q hQ => by
        unfold stepP at hQ
        split at hQ
        · rename_i hc
          rcases List.mem_append.mp hQ with h1 | h1
          · obtain ⟨x, hx, r⟩ := h Q h1
            exact ⟨x, List.mem_append.mpr (.inl hx), r⟩
          · rw [List.mem_singleton.mp h1]
            exact ⟨c, by simp, hc.1, rfl⟩
        · obtain ⟨x, hx, r⟩ := h Q hQ
          exact ⟨x, List.mem_append.mpr (.inl hx), r⟩) P hP
      rw [List.append_assoc] at this
      exact this
  intro P hP
  simpa using this l [] [] (by simp) P hP
/-- what is not in the pools so far has a pool beside them -/
theorem pool_apart {R C : Nat} {ok : Cell → Bool} (hok : ∀ c, ok c = true → inb R C c = true) {l : List Cell} {c x : Cell} (hc : ∀ P ∈ poolsP R C ok l, c ∉ P) (hx : x ∈ poolP R C ok c) : ∀ P ∈ poolsP R C ok l, x ∉ P := fun P hP hxP => by
  obtain ⟨c', _, _, rfl⟩ := pools_of R C ok l P hP
  have h1 := (mem_pool hok).mp hx
  have h2 := (mem_pool hok).mp hxP
  exact hc _ hP ((mem_pool hok).mpr (h2.trans' hok (h1.back hok)))
/-! the program's pools -/
def okD (f : Cell → Int) (ks : List Cell) (c : Cell) : Bool := decide (c ∈ ks) && decide (0 < f c)
def lstC (P : List Cell) : D := .lst (P.map cellD)
theorem okD_iff {f : Cell → Int} {ks : List Cell} {c : Cell} : okD f ks c = true ↔ c ∈ ks ∧ 0 < f c := by
  unfold okD
  rw [Bool.and_eq_true, decide_eq_true_eq, decide_eq_true_eq]
theorem deep_get {f : Cell → Int} {ks : List Cell} {c : Cell} {ρ : Rho} {i : Nat} (h1 : eVar 1 ρ = .ok (.dct (dctM f ks))) (hi : eVar i ρ = .ok (cellD c)) : (tE (e2 gtD (eGet2 (eVar 1) (eVar i) (eC (.int 0))) (eC (.int 0)))) ρ = .ok (okD f ks c) := by
  have hg : eGet2 (eVar 1) (eVar i) (eC (.int 0)) ρ = .ok (.int (if c ∈ ks then f c else 0)) := by
    unfold eGet2
    rw [h1, O.bind_ok]
    show ((eVar i ρ).bind fun k => (eC (.int 0) ρ).bind fun z => (ofO (keyD k)).bind fun ks' => O.ok ((lookD (dctM f ks) ks').getD z)) = _
    rw [hi, O.bind_ok]
    show (ofO (keyD (cellD c))).bind (fun ks' => O.ok ((lookD (dctM f ks) ks').getD (.int 0))) = _
    rw [keyD_cell, ofO_some, O.bind_ok, get_dm]
  rw [tE_ap, e2_ap, hg]
  simp only [eC_ap, O.bind_ok]
  unfold okD
  by_cases h : c ∈ ks <;> simp [h]
section
variable {L : LandD} {R C : Nat} {f : Cell → Int} {ks S fs ws : List Cell}
def okS (f : Cell → Int) (ks S : List Cell) (c : Cell) : Bool := okD f ks c && decide (c ∉ S)
theorem okS_iff {c : Cell} : okS f ks S c = true ↔ okD f ks c = true ∧ c ∉ S := by
  unfold okS
  rw [Bool.and_eq_true, decide_eq_true_eq]
theorem addS_in (hk : ∀ c ∈ ks, inb R C c = true) {ds : List Cell} (h : ∀ c ∈ fs, inb R C c = true) : ∀ c ∈ addN (okS f ks S) fs ds, inb R C c = true := fun c hc => by
  obtain ⟨xs, e, hx⟩ := addN_app (okS f ks S) ds fs
  rw [e] at hc
  rcases List.mem_append.mp hc with hc | hc
  · exact h c hc
  · exact hk c (okD_iff.mp (okS_iff.mp (hx c hc).2.1).1).1
theorem pool_many (h9 : R * C ≤ 900) (hk : ∀ c ∈ ks, inb R C c = true) (hS : S.length ≤ 900) (ds : List Cell) (nd : fs.Nodup) (hf : ∀ c ∈ fs, inb R C c = true) (lw : ws.length ≤ fs.length) {LD FD : D} {o4 o7 o8 : Option D} :
    ∃ (xs : List Cell) (p8 : Option D), sFor.go (gN 8) g_pools_1 (ds.map cellD) [some LD, some (.dct (dctM f ks)), some FD, some (.dct (fdM (S ++ fs))), o4, some (.lst (ws.map cellD)), some (.dct (fdM fs)), o7, o8] = .ok (.nx [some LD, some (.dct (dctM f ks)), some FD, some (.dct (fdM (S ++ (fs ++ xs)))), o4, some (.lst ((ws ++ xs).map cellD)), some (.dct (fdM (fs ++ xs))), o7, p8]) ∧ fs ++ xs = addN (okS f ks S) fs ds := by
  have few : ∀ (xs p : List Cell), fs ++ xs = addN (okS f ks S) fs p → (fs ++ xs).length ≤ 900 := fun xs p e => by
    rw [e]
    exact Nat.le_trans (fs_few (addN_nd _ _ _ nd) (addS_in hk hf)) h9
  obtain ⟨ρ1, h1, xs, p8, rfl, h2⟩ := for_pres (s := gN 8) (g := g_pools_1) cellD
    (I := fun p ρ => ∃ (xs : List Cell) (p8 : Option D), ρ = [some LD, some (.dct (dctM f ks)), some FD, some (.dct (fdM (S ++ (fs ++ xs)))), o4, some (.lst ((ws ++ xs).map cellD)), some (.dct (fdM (fs ++ xs))), o7, p8] ∧ fs ++ xs = addN (okS f ks S) fs p)
    ds [] [some LD, some (.dct (dctM f ks)), some FD, some (.dct (fdM (S ++ fs))), o4, some (.lst (ws.map cellD)), some (.dct (fdM fs)), o7, o8] (by
      rintro p b q e ρ ⟨xs, p8, rfl, h2⟩
      rw [List.nil_append] at e
      have hl := few xs p h2
      have hl' := hl
      rw [List.length_append] at hl'
      have hgn : gN 8 (cellD b) [some LD, some (.dct (dctM f ks)), some FD, some (.dct (fdM (S ++ (fs ++ xs)))), o4, some (.lst ((ws ++ xs).map cellD)), some (.dct (fdM (fs ++ xs))), o7, p8] = .ok [some LD, some (.dct (dctM f ks)), some FD, some (.dct (fdM (S ++ (fs ++ xs)))), o4, some (.lst ((ws ++ xs).map cellD)), some (.dct (fdM (fs ++ xs))), o7, some (cellD b)] := by simp
      have ht1 := deep_get (f := f) (ks := ks) (c := b) (i := 8) (ρ := [some LD, some (.dct (dctM f ks)), some FD, some (.dct (fdM (S ++ (fs ++ xs)))), o4, some (.lst ((ws ++ xs).map cellD)), some (.dct (fdM (fs ++ xs))), o7, some (cellD b)]) rfl rfl
      have hin := in_fdM true (S ++ (fs ++ xs)) b
      have ht2 : (tE (eIn true (eVar 8) (eVar 3))) [some LD, some (.dct (dctM f ks)), some FD, some (.dct (fdM (S ++ (fs ++ xs)))), o4, some (.lst ((ws ++ xs).map cellD)), some (.dct (fdM (fs ++ xs))), o7, some (cellD b)] = .ok (!decide (b ∈ S ++ (fs ++ xs))) := by
        rw [tE_ap]
        unfold eIn
        simp only [eVar_s, eVar_zs, O.bind_ok, hin, Bool.true_bne]
      rw [hgn, O.bind_ok, addN_snoc, ← h2]
      unfold g_pools_1
      rw [sIf_ap, tAndF_ap, ht1, O.bind_ok]
      by_cases hk2 : okS f ks S b = true ∧ b ∉ fs ++ xs
      · obtain ⟨k1, k2⟩ := okS_iff.mp hk2.1
        have k3 : b ∉ S ++ (fs ++ xs) := fun z => (List.mem_append.mp z).elim k2 hk2.2
        rw [if_pos hk2, k1, if_pos rfl, ht2, decide_eq_false k3, O.bind_ok]
        simp only [Bool.not_false, if_true]
        have hp1 := put_fdM k3
        have hp2 := put_fdM hk2.2
        have z1 : decide ((fdM (S ++ (fs ++ xs))).length < 100000) = true := decide_eq_true (by rw [len_fdM, List.length_append]; omega)
        have z2 : decide ((fdM (fs ++ xs)).length < 100000) = true := decide_eq_true (by rw [len_fdM]; omega)
        have z3 : decide (((ws ++ xs).map cellD).length < 100000) = true := decide_eq_true (by rw [List.length_map, List.length_append]; omega)
        refine ⟨[some LD, some (.dct (dctM f ks)), some FD, some (.dct (fdM (S ++ (fs ++ (xs ++ [b]))))), o4, some (.lst ((ws ++ (xs ++ [b])).map cellD)), some (.dct (fdM (fs ++ (xs ++ [b])))), o7, some (cellD b)], ?_, xs ++ [b], some (cellD b), rfl, by simp⟩
        rw [show S ++ (fs ++ (xs ++ [b])) = S ++ (fs ++ xs) ++ [b] from by simp, show fs ++ (xs ++ [b]) = fs ++ xs ++ [b] from by simp, show ws ++ (xs ++ [b]) = ws ++ xs ++ [b] from by simp, ← hp1, ← hp2, List.map_append (l₁ := ws ++ xs)]
        generalize fdM (S ++ (fs ++ xs)) = m1 at *
        generalize fdM (fs ++ xs) = m2 at *
        generalize (ws ++ xs).map cellD = wl at *
        generalize dctM f ks = m0 at *
        refine seq_to (ρ1 := [some LD, some (.dct m0), some FD, some (.dct (putL m1 (keyP b) (.bl true))), o4, some (.lst wl), some (.dct m2), o7, some (cellD b)]) (by rw [sDput_ap]; simp [z1]) ?_
        refine seq_to (ρ1 := [some LD, some (.dct m0), some FD, some (.dct (putL m1 (keyP b) (.bl true))), o4, some (.lst wl), some (.dct (putL m2 (keyP b) (.bl true))), o7, some (cellD b)]) (by rw [sDput_ap]; simp [z2]) ?_
        rw [sApp_ap]
        simp only [eVar_s, eVar_zs, O.bind_ok, lstD_lst, z3, gd_true]
        rfl
      · rw [if_neg hk2]
        refine ⟨_, ?_, xs, some (cellD b), rfl, rfl⟩
        cases k1 : okD f ks b with
        | false => rfl
        | true =>
          have k3 : b ∈ S ++ (fs ++ xs) := by
            by_cases k2 : b ∈ S
            · exact List.mem_append.mpr (.inl k2)
            · refine List.mem_append.mpr (.inr ?_)
              by_cases k4 : b ∈ fs ++ xs
              · exact k4
              · exact absurd ⟨okS_iff.mpr ⟨k1, k2⟩, k4⟩ hk2
          rw [if_pos rfl, ht2, decide_eq_true k3]
          rfl) ⟨[], o8, by simp, by simp [addN]⟩
  exact ⟨xs, p8, h1, by simpa using h2⟩
/-- all that is come to from a cell -/
theorem pool_while (hg : GOk L.g R C) (h9 : R * C ≤ 900) (hk : ∀ c ∈ ks, inb R C c = true) (hS : S.length ≤ 900) {b : Cell} (hb : okS f ks S b = true) {FD : D} {o4 o7 o8 : Option D} :
    ∃ (fs : List Cell) (q5 q7 q8 : Option D), sWhile g_pools_2 g_pools_3 100000 [some (.land L), some (.dct (dctM f ks)), some FD, some (.dct (fdM (S ++ [b]))), o4, some (.lst ([b].map cellD)), some (.dct (fdM [b])), o7, o8] = .ok (.nx [some (.land L), some (.dct (dctM f ks)), some FD, some (.dct (fdM (S ++ fs))), o4, q5, some (.dct (fdM fs)), q7, q8]) ∧ fs.Nodup ∧ (∀ c ∈ fs, inb R C c = true) ∧ ∀ x, x ∈ fs ↔ Rch (besideL R C) (okS f ks S) (· ∈ [b]) x := by
  have hbi := hk b (okD_iff.mp (okS_iff.mp hb).1).1
  have hw := while_inv (t := g_pools_2) (g := g_pools_3) (f := 100000) (n := 1 + 2 * (R * C - 1)) (ρ := [some (.land L), some (.dct (dctM f ks)), some FD, some (.dct (fdM (S ++ [b]))), o4, some (.lst ([b].map cellD)), some (.dct (fdM [b])), o7, o8])
    (I := fun n ρ => ∃ (fs ws : List Cell) (p7 p8 : Option D), ρ = [some (.land L), some (.dct (dctM f ks)), some FD, some (.dct (fdM (S ++ fs))), o4, some (.lst (ws.map cellD)), some (.dct (fdM fs)), p7, p8] ∧ Clo (besideL R C) (okS f ks S) (· ∈ [b]) fs (· ∈ ws) ∧ (∀ c ∈ fs, inb R C c = true) ∧ (∀ c ∈ ws, c ∈ fs) ∧ ws.length ≤ fs.length ∧ ws.length + 2 * (R * C - fs.length) = n)
    (E := fun o => ∃ (fs : List Cell) (q5 q7 q8 : Option D), o = .nx [some (.land L), some (.dct (dctM f ks)), some FD, some (.dct (fdM (S ++ fs))), o4, q5, some (.dct (fdM fs)), q7, q8] ∧ Clo (besideL R C) (okS f ks S) (· ∈ [b]) fs (fun _ => False) ∧ ∀ c ∈ fs, inb R C c = true) (by
      rintro n ρ ⟨fs, ws, p7, p8, rfl, b1, b2, b3, b4, b5⟩
      rcases List.eq_nil_or_concat ws with rfl | ⟨w0, c, rfl⟩
      · exact .inl ⟨by simp [g_pools_2], fs, _, _, _, rfl, ⟨b1.nd, b1.rc, b1.st, fun x hx _ => b1.dn x hx (by simp)⟩, b2⟩
      · rw [List.concat_eq_append] at *
        have hcf : c ∈ fs := b3 c (by simp)
        have hci := b2 c hcf
        have hl0 : w0.length ≤ fs.length := by rw [List.length_append] at b4; omega
        obtain ⟨ys, q8, d1, d2⟩ := pool_many (f := f) (ks := ks) (S := S) (fs := fs) (ws := w0) h9 hk hS (besideL R C c) b1.nd b2 hl0 (LD := .land L) (FD := FD) (o4 := o4) (o7 := some (cellD c)) (o8 := p8)
        have in1 : ∀ x ∈ fs ++ ys, inb R C x = true := by rw [d2]; exact addS_in hk b2
        have nd1 : (fs ++ ys).Nodup := by rw [d2]; exact addN_nd _ _ _ b1.nd
        have few := fs_few nd1 in1
        rw [List.length_append] at few
        refine .inr ⟨?_, .inl ⟨_, (w0 ++ ys).length + 2 * (R * C - (fs ++ ys).length), ?_, .inl ?_, fs ++ ys, w0 ++ ys, some (cellD c), q8, rfl, ?_, in1, fun x hx => ?_, ?_, rfl⟩⟩
        · simp [g_pools_2]
        · rw [← b5]
          simp only [List.length_append, List.length_singleton]
          omega
        · unfold g_pools_3
          have im2 := imm_cells (w0 ++ [c])
          refine seq_to (ρ1 := [some (.land L), some (.dct (dctM f ks)), some FD, some (.dct (fdM (S ++ fs))), o4, some (.lst (w0.map cellD)), some (.dct (fdM fs)), some (cellD c), p8]) ?_ ?_
          · have hlast : ((w0 ++ [c]).map cellD)[((w0 ++ [c]).map cellD).length - 1]? = some (cellD c) := by simp
            have hdl : ((w0 ++ [c]).map cellD).dropLast = w0.map cellD := by simp
            rw [sSetX_ap, sX_ap, xPop_ap, gVar_ap]
            simp only [eVar_s, eVar_zs, O.bind_ok, lstD_lst, im2, gd_true, hlast, ofO_some, hdl, pVar]
            rfl
          · refine sFor_eq (ds := (besideL R C c).map cellD) ?_ d1
            have hrows : rowsD (.land L) = .ok (.int (R : Int)) := by rw [rowsD_land, hg.len]
            have hcols : colsD (.land L) = .ok (.int (C : Int)) := by rw [colsD_land, hg.hd]
            have hbe := beside_eq (R : Int) (C : Int) c
            generalize D.land L = LD at *
            generalize dctM f ks = m0 at *
            generalize fdM (S ++ fs) = m1 at *
            generalize fdM fs = m2 at *
            simp [hrows, hcols, hbe]
        · rw [d2]
          refine b1.step hcf (fun x hx hne => ?_) fun x hx hxf => ?_
          · rcases List.mem_append.mp hx with hx | hx
            · exact List.mem_append.mpr (.inl hx)
            · exact absurd (List.mem_singleton.mp hx) hne
          · rw [← d2] at hx
            rcases List.mem_append.mp hx with hx | hx
            · exact absurd hx hxf
            · exact List.mem_append.mpr (.inr hx)
        · rcases List.mem_append.mp hx with hx | hx
          · exact List.mem_append.mpr (.inl (b3 x (List.mem_append.mpr (.inl hx))))
          · exact List.mem_append.mpr (.inr hx)
        · simp only [List.length_append]; omega) (by omega) ⟨[b], [b], o7, o8, rfl, .start (by simp) (fun c hc => by rw [List.mem_singleton.mp hc]; exact ⟨by simp, hb⟩) (fun c hs _ => hs) (fun c hc => hc), fun c hc => by rw [List.mem_singleton.mp hc]; exact hbi, fun c hc => hc, Nat.le_refl _, rfl⟩
  obtain ⟨o, ho, fs, q5, q7, q8, rfl, hclo, hin⟩ := hw
  exact ⟨fs, q5, q7, q8, ho, hclo.nd, hin, hclo.all⟩
end
theorem few_seen {R C : Nat} {S : List Cell} (h9 : R * C ≤ 900) (nd : S.Nodup) (h : ∀ c ∈ S, inb R C c = true) : S.length ≤ 900 := Nat.le_trans (fs_few nd h) h9
/-- over what is seen no way leads to another pool -/
theorem rch_seen {R C : Nat} {f : Cell → Int} {ks S l : List Cell} (hok : ∀ c, okD f ks c = true → inb R C c = true) (hS : ∀ x, x ∈ S ↔ ∃ P ∈ poolsP R C (okD f ks) l, x ∈ P) {b : Cell} (hb : b ∉ S) {x : Cell} : Rch (besideL R C) (okS f ks S) (· ∈ [b]) x ↔ Rch (besideL R C) (okD f ks) (· ∈ [b]) x := by
  have hbl : ∀ P ∈ poolsP R C (okD f ks) l, b ∉ P := fun P hP z => hb ((hS b).mpr ⟨P, hP, z⟩)
  have out : ∀ y, Rch (besideL R C) (okD f ks) (· ∈ [b]) y → y ∉ S := fun y hy z => by
    obtain ⟨P, hP, hyP⟩ := (hS y).mp z
    exact pool_apart hok hbl ((mem_pool hok).mpr hy) P hP hyP
  constructor
  · exact Rch.mono (fun c hc => (okS_iff.mp hc).1) fun c hc _ => hc
  · intro h
    induction h with
    | st hs ho => exact .st hs (okS_iff.mpr ⟨ho, out _ (.st hs ho)⟩)
    | nx h1 hn ho ih => exact .nx ih hn (okS_iff.mpr ⟨ho, out _ (.nx h1 hn ho)⟩)
theorem pools_eq {L : LandD} {R C : Nat} {es : Es Cell} (h : Dp L R C es) : F_pools [.land L] = .ok (.lst ((poolsP R C (okD (dpF L es) (dpK R C es)) (cellsL R C)).map lstC)) := by
  have hg := h.hg
  have hde := depths_eq h
  have h9 : R * C ≤ 900 := Nat.mul_le_mul hg.r30 hg.c30
  have hk : ∀ c ∈ dpK R C es, inb R C c = true := fun c hc => (mem_dpK.mp hc).1
  have hrows : rowsD (.land L) = .ok (.int (R : Int)) := by rw [rowsD_land, hg.len]
  have hcols : colsD (.land L) = .ok (.int (C : Int)) := by rw [colsD_land, hg.hd]
  have ha := all_cells_eq (R : Int) (C : Int) (by have := hg.r30; omega) (by have := hg.c30; omega) (by omega) (by omega)
  generalize dpK R C es = ks at *
  generalize dpF L es = f at *
  have hok : ∀ c, okD f ks c = true → inb R C c = true := fun c hc => hk c (okD_iff.mp hc).1
  obtain ⟨ρ1, h1, S, x4, x5, x6, x7, x8, rfl, hS, hnS, hiS⟩ := for_pres (s := gN 4) (g := g_pools_4) cellD
    (I := fun p ρ => ∃ (S : List Cell) (x4 x5 x6 x7 x8 : Option D), ρ = [some (.land L), some (.dct (dctM f ks)), some (.lst ((poolsP R C (okD f ks) p).map lstC)), some (.dct (fdM S)), x4, x5, x6, x7, x8] ∧ (∀ x, x ∈ S ↔ ∃ P ∈ poolsP R C (okD f ks) p, x ∈ P) ∧ S.Nodup ∧ ∀ x ∈ S, inb R C x = true)
    (cellsL R C) [] [some (.land L), some (.dct (dctM f ks)), some (.lst []), some (.dct (fdM [])), none, none, none, none, none] (by
      rintro p b q e ρ ⟨S, x4, x5, x6, x7, x8, rfl, hS, hnS, hiS⟩
      rw [List.nil_append] at e
      have hpl := pre_len e
      have hcl : (cellsL R C).length ≤ 900 := cells_few hg.r30 hg.c30
      have hSl := few_seen h9 hnS hiS
      have hpo := pools_len R C (okD f ks) p
      have hsn := pools_snoc R C (okD f ks) p b
      generalize hacc : poolsP R C (okD f ks) p = acc at *
      have hgn : ∀ X Y Z W : D, gN 4 (cellD b) [some X, some Y, some Z, some W, x4, x5, x6, x7, x8] = .ok [some X, some Y, some Z, some W, some (cellD b), x5, x6, x7, x8] := fun X Y Z W => by simp
      rw [hgn, O.bind_ok]
      have ht1 := deep_get (f := f) (ks := ks) (c := b) (i := 4) (ρ := [some (.land L), some (.dct (dctM f ks)), some (.lst (acc.map lstC)), some (.dct (fdM S)), some (cellD b), x5, x6, x7, x8]) rfl rfl
      have hin := in_fdM true S b
      have ht2 : (tE (eIn true (eVar 4) (eVar 3))) [some (.land L), some (.dct (dctM f ks)), some (.lst (acc.map lstC)), some (.dct (fdM S)), some (cellD b), x5, x6, x7, x8] = .ok (!decide (b ∈ S)) := by
        rw [tE_ap]
        unfold eIn
        simp only [eVar_s, eVar_zs, O.bind_ok, hin, Bool.true_bne]
      unfold g_pools_4
      rw [sIf_ap, tAndF_ap, ht1, O.bind_ok]
      have hcond : (okD f ks b = true ∧ b ∉ S) ↔ (okD f ks b = true ∧ ∀ P ∈ acc, b ∉ P) := ⟨fun z => ⟨z.1, fun P hP y => z.2 ((hS b).mpr ⟨P, hP, y⟩)⟩, fun z => ⟨z.1, fun y => by obtain ⟨P, hP, y⟩ := (hS b).mp y; exact z.2 P hP y⟩⟩
      by_cases hc : okD f ks b = true ∧ b ∉ S
      · rw [hc.1, if_pos rfl, ht2, decide_eq_false hc.2, O.bind_ok]
        simp only [Bool.not_false, if_true]
        obtain ⟨fs, q5, q7, q8, w1, w2, w3, w4⟩ := pool_while (L := L) (f := f) (ks := ks) (S := S) (b := b) hg h9 hk hSl (okS_iff.mpr hc) (FD := .lst (acc.map lstC)) (o4 := some (cellD b)) (o7 := x7) (o8 := x8)
        have hr : ∀ x, x ∈ fs ↔ Rch (besideL R C) (okD f ks) (· ∈ [b]) x := fun x => (w4 x).trans (rch_seen (l := p) hok (by rw [hacc]; exact hS) hc.2)
        have hpo2 := pool_filter (R := R) (C := C) hr
        have hsort := sort_cells w2 w3
        rw [hpo2] at hsort
        have hstep : stepP R C (okD f ks) acc b = acc ++ [poolP R C (okD f ks) b] := if_pos (hcond.mp hc)
        rw [hstep] at hsn
        have hp1 := put_fdM hc.2
        have z1 : decide ((fdM S).length < 100000) = true := decide_eq_true (by rw [len_fdM]; omega)
        have z2 : decide ((acc.map lstC).length < 100000) = true := decide_eq_true (by rw [List.length_map]; omega)
        refine ⟨[some (.land L), some (.dct (dctM f ks)), some (.lst ((poolsP R C (okD f ks) (p ++ [b])).map lstC)), some (.dct (fdM (S ++ fs))), some (cellD b), q5, some (.dct (fdM fs)), q7, q8], ?_, S ++ fs, some (cellD b), q5, some (.dct (fdM fs)), q7, q8, rfl, fun x => ?_, ?_, fun x hx => ?_⟩
        · rw [hsn]
          refine seq_to (ρ1 := [some (.land L), some (.dct (dctM f ks)), some (.lst (acc.map lstC)), some (.dct (fdM (S ++ [b]))), some (cellD b), x5, x6, x7, x8]) ?_ ?_
          · rw [← hp1]
            generalize fdM S = m1 at *
            generalize dctM f ks = m0 at *
            generalize acc.map lstC = al at *
            generalize D.land L = LD at *
            rw [sDput_ap]
            simp [z1]
          refine seq_to (ρ1 := [some (.land L), some (.dct (dctM f ks)), some (.lst (acc.map lstC)), some (.dct (fdM (S ++ [b]))), some (cellD b), some (.lst ([b].map cellD)), x6, x7, x8]) rfl ?_
          refine seq_to (ρ1 := [some (.land L), some (.dct (dctM f ks)), some (.lst (acc.map lstC)), some (.dct (fdM (S ++ [b]))), some (cellD b), some (.lst ([b].map cellD)), some (.dct (fdM [b])), x7, x8]) ?_ ?_
          · refine (set_eq (i := 6) (d := .dct (fdM [b])) ?_ (by simp)).trans rfl
            unfold eDct1
            simp only [eVar_s, eVar_zs, O.bind_ok, keyD_cell, ofO_some, eC_ap, imm_bl, gd_true]
            rfl
          refine seq_to w1 ?_
          have hl : listDct (.dct (fdM fs)) = .ok (.lst (fs.map cellD)) := by
            show O.ok (D.lst ((fdM fs).map fun p => keyT p.1)) = _
            unfold fdM
            rw [List.map_map]
            rfl
          rw [sAppO_ap, e1_ap, e1_ap]
          simp only [eVar_s, eVar_zs, O.bind_ok, lstD_lst, hl, hsort, z2, gd_true]
          rw [List.map_append]
          rfl
        · rw [hsn, List.mem_append]
          constructor
          · rintro (hx | hx)
            · obtain ⟨P, hP, hy⟩ := (hS x).mp hx
              exact ⟨P, List.mem_append.mpr (.inl hP), hy⟩
            · exact ⟨_, List.mem_append.mpr (.inr (List.mem_singleton.mpr rfl)), (mem_pool hok).mpr ((hr x).mp hx)⟩
          · rintro ⟨P, hP, hy⟩
            rcases List.mem_append.mp hP with hP | hP
            · exact .inl ((hS x).mpr ⟨P, hP, hy⟩)
            · rw [List.mem_singleton.mp hP] at hy
              exact .inr ((hr x).mpr ((mem_pool hok).mp hy))
        · rw [List.nodup_append]
          refine ⟨hnS, w2, fun x hx y hy e => ?_⟩
          subst e
          have := (w4 x).mp hy
          have ho : okS f ks S x = true := by cases this <;> assumption
          exact (okS_iff.mp ho).2 hx
        · rcases List.mem_append.mp hx with hx | hx
          · exact hiS x hx
          · exact w3 x hx
      · have hstep : stepP R C (okD f ks) acc b = acc := if_neg fun z => hc (hcond.mpr z)
        rw [hstep] at hsn
        rw [hsn]
        refine ⟨[some (.land L), some (.dct (dctM f ks)), some (.lst (acc.map lstC)), some (.dct (fdM S)), some (cellD b), x5, x6, x7, x8], ?_, S, _, _, _, _, _, rfl, hS, hnS, hiS⟩
        cases k1 : okD f ks b with
        | false => rfl
        | true =>
          have k3 : b ∈ S := by
            by_cases k2 : b ∈ S
            · exact k2
            · exact absurd ⟨k1, k2⟩ hc
          rw [if_pos rfl, ht2, decide_eq_true k3]
          rfl) ⟨[], none, none, none, none, none, rfl, fun x => by simp [poolsP], by simp, by simp⟩
  rw [List.nil_append] at h1
  refine runF_rt rfl (by decide) (ρ := [some (.land L), some (.dct (dctM f ks)), none, some (.dct (fdM S)), x4, x5, x6, x7, x8]) ?_
  unfold g_pools
  refine seq_to (ρ1 := [some (.land L), some (.dct (dctM f ks)), none, none, none, none, none, none, none]) (by
    generalize dctM f ks = m0 at *
    generalize D.land L = LD at *
    simp [startD, hde]) ?_
  refine seq_to (ρ1 := [some (.land L), some (.dct (dctM f ks)), some (.lst []), none, none, none, none, none, none]) rfl ?_
  refine seq_to (ρ1 := [some (.land L), some (.dct (dctM f ks)), some (.lst []), some (.dct (fdM [])), none, none, none, none, none]) rfl ?_
  refine seq_to (sFor_eq (ds := (cellsL R C).map cellD) ?_ h1) ?_
  · rw [iSeq_ap]
    generalize dctM f ks = m0 at *
    generalize D.land L = LD at *
    simp [hrows, hcols, ha]
  · rfl
/-! the law's pools -/
theorem lrg_nat {n : Nat} (h : n ≤ 100000) : lrgD (.int (n : Int)) = O.ok (D.lst (rngD 0 n)) := by
  have hz : (decide (0 ≤ (n : Int)) && decide ((n : Int) ≤ 100000)) = true := by
    rw [Bool.and_eq_true, decide_eq_true_eq, decide_eq_true_eq]
    omega
  show gd (decide (0 ≤ (n : Int)) && decide ((n : Int) ≤ 100000)) (O.ok (D.lst (rngD 0 (n : Int).toNat))) = _
  rw [hz]
  rfl
theorem deep_getF {f : Cell → Int} {ks : List Cell} {c : Cell} {ρ : Rho} {i : Nat} (h1 : eVar 1 ρ = .ok (.fd (dctM f ks))) (hi : eVar i ρ = .ok (cellD c)) : (tE (e2 gtD (eGetF (eVar 1) (eVar i) (eC (.int 0))) (eC (.int 0)))) ρ = .ok (okD f ks c) := by
  have hg : eGetF (eVar 1) (eVar i) (eC (.int 0)) ρ = .ok (.int (if c ∈ ks then f c else 0)) := by
    unfold eGetF
    rw [h1, O.bind_ok]
    show ((eVar i ρ).bind fun k => (eC (.int 0) ρ).bind fun z => (ofO (keyD k)).bind fun ks' => O.ok ((lookD (dctM f ks) ks').getD z)) = _
    rw [hi, O.bind_ok]
    show (ofO (keyD (cellD c))).bind (fun ks' => O.ok ((lookD (dctM f ks) ks').getD (.int 0))) = _
    rw [keyD_cell, ofO_some, O.bind_ok, get_dm]
  rw [tE_ap, e2_ap, hg]
  simp only [eC_ap, O.bind_ok]
  unfold okD
  by_cases h : c ∈ ks <;> simp [h]
theorem law_pool_eq {g : List (List (Option Int))} {R C : Nat} (hg : GOk g R C) {f : Cell → Int} {ks : List Cell} (hk : ∀ c ∈ ks, inb R C c = true) (hst : ∀ c, okD f ks c = true → (getG g c).isSome = true) {cc : Cell} (hcc : okD f ks cc = true) :
    F_law_pool [.lst (g.map rowD), .fd (dctM f ks), cellD cc] = .ok (lstC (poolP R C (okD f ks) cc)) := by
  have h900 : R * C ≤ 900 := Nat.mul_le_mul hg.r30 hg.c30
  have hok : ∀ c, okD f ks c = true → inb R C c = true := fun c hc => hk c (okD_iff.mp hc).1
  obtain ⟨r0, hr0, hr0l⟩ := grid_row0 hg
  have hlr : lenD (rowD r0) = .ok (.int (C : Int)) := by rw [len_row, hr0l]
  have hlG : lenD (.lst (g.map rowD)) = .ok (.int (R : Int)) := by simp [hg.len]
  have hbe : ∀ p, inb R C p = true → F_law_beside [.lst (g.map rowD), cellD p] = .ok (.lst ((lbes g R C p).map cellD)) := fun p hp => lbeside_eq hg hp
  have addIn : ∀ {fs ds : List Cell}, (∀ c ∈ fs, inb R C c = true) → ∀ c ∈ addN (okD f ks) fs ds, inb R C c = true := fun {fs ds} h c hc => by
    obtain ⟨xs, e, hx⟩ := addN_app (okD f ks) ds fs
    rw [e] at hc
    rcases List.mem_append.mp hc with hc | hc
    · exact h c hc
    · exact hok c (hx c hc).2.1
  have addE : ∀ (fs : List Cell) (p : Cell), addN (okD f ks) fs (lbes g R C p) = addN (okD f ks) fs (besideL R C p) := fun fs p => addN_filter _ _ (fun y hy => hst y hy) _ _
  generalize D.lst (g.map rowD) = G at *
  have inner : ∀ (ns : List Cell) (fs : List Cell) (o4 o5 : Option D), fs.Nodup → (∀ c ∈ fs, inb R C c = true) → ∃ p5 : Option D, sFor.go (gN 5) g_law_pool_1 (ns.map cellD) [some G, some (.fd (dctM f ks)), some (cellD cc), some (.lst (fs.map cellD)), o4, o5] = .ok (.nx [some G, some (.fd (dctM f ks)), some (cellD cc), some (.lst ((addN (okD f ks) fs ns).map cellD)), o4, p5]) := fun ns fs o4 o5 nd hf => by
    obtain ⟨ρ1, h1, p5, rfl⟩ := for_pres (s := gN 5) (g := g_law_pool_1) cellD
      (I := fun p ρ => ∃ p5 : Option D, ρ = [some G, some (.fd (dctM f ks)), some (cellD cc), some (.lst ((addN (okD f ks) fs p).map cellD)), o4, p5])
      ns [] [some G, some (.fd (dctM f ks)), some (cellD cc), some (.lst (fs.map cellD)), o4, o5] (by
        rintro p b q e ρ ⟨p5, rfl⟩
        rw [List.nil_append] at e
        have hl : (addN (okD f ks) fs p).length ≤ 900 := Nat.le_trans (fs_few (addN_nd _ _ _ nd) (addIn hf)) h900
        have hz : decide (((addN (okD f ks) fs p).map cellD).length < 100000) = true := decide_eq_true (by rw [List.length_map]; omega)
        have hsn := addN_snoc (okD f ks) p fs b
        generalize addN (okD f ks) fs (p ++ [b]) = zs at hsn ⊢
        generalize addN (okD f ks) fs p = ys at hl hz hsn ⊢
        have hgn : gN 5 (cellD b) [some G, some (.fd (dctM f ks)), some (cellD cc), some (.lst (ys.map cellD)), o4, p5] = .ok [some G, some (.fd (dctM f ks)), some (cellD cc), some (.lst (ys.map cellD)), o4, some (cellD b)] := by simp
        have ht := deep_getF (f := f) (ks := ks) (c := b) (i := 5) (ρ := [some G, some (.fd (dctM f ks)), some (cellD cc), some (.lst (ys.map cellD)), o4, some (cellD b)]) rfl rfl
        have hin := in_cells true b ys
        rw [hgn, O.bind_ok]
        unfold g_law_pool_1
        have ht1 : (tE (e2 (inL true) (eVar 5) (eVar 3))) [some G, some (.fd (dctM f ks)), some (cellD cc), some (.lst (ys.map cellD)), o4, some (cellD b)] = .ok (!decide (b ∈ ys)) := by
          rw [tE_ap, e2_ap]
          simp only [eVar_s, eVar_zs, O.bind_ok, hin, Bool.true_bne]
        rw [sIf_ap, tAndF_ap, ht1, O.bind_ok]
        by_cases hk2 : okD f ks b = true ∧ b ∉ ys
        · rw [if_pos hk2] at hsn
          rw [hsn, decide_eq_false hk2.2]
          simp only [Bool.not_false, if_true]
          rw [ht, hk2.1, O.bind_ok]
          refine ⟨_, ?_, some (cellD b), rfl⟩
          simp only [if_true]
          rw [sApp_ap]
          simp only [eVar_s, eVar_zs, O.bind_ok, lstD_lst, hz, gd_true]
          rw [List.map_append]
          rfl
        · rw [if_neg hk2] at hsn
          rw [hsn]
          refine ⟨_, ?_, some (cellD b), rfl⟩
          by_cases hy : b ∈ ys
          · rw [decide_eq_true hy]
            rfl
          · rw [decide_eq_false hy]
            simp only [Bool.not_false, if_true]
            have ho : okD f ks b = false := by
              cases ho : okD f ks b with
              | false => rfl
              | true => exact absurd ⟨ho, hy⟩ hk2
            rw [ht, ho, O.bind_ok]
            rfl) ⟨o5, rfl⟩
    exact ⟨p5, by simpa using h1⟩
  obtain ⟨ρ1, h1, fs, p4, p5, rfl, c1, c2⟩ := for_pres (s := gN 4) (g := g_law_pool_2) (fun (i : Nat) => D.int (0 + (i : Int)))
    (I := fun p ρ => ∃ (fs : List Cell) (p4 p5 : Option D), ρ = [some G, some (.fd (dctM f ks)), some (cellD cc), some (.lst (fs.map cellD)), p4, p5] ∧ Clo (besideL R C) (okD f ks) (· ∈ [cc]) fs (fun c => ∃ i, p.length ≤ i ∧ fs[i]? = some c) ∧ ∀ c ∈ fs, inb R C c = true)
    (List.range (R * C)) [] [some G, some (.fd (dctM f ks)), some (cellD cc), some (.lst ([cc].map cellD)), none, none] (by
      rintro p b q e ρ ⟨fs, p4, p5, rfl, c1, c2⟩
      rw [List.nil_append] at e
      have hbp : b = p.length := by
        have h1 : (List.range (R * C))[p.length]? = some b := by rw [e]; simp
        rw [List.getElem?_range (by rw [← List.length_range (n := R * C), e]; simp)] at h1
        exact (Option.some.inj h1).symm
      have hgn : gN 4 (.int (0 + (b : Int))) [some G, some (.fd (dctM f ks)), some (cellD cc), some (.lst (fs.map cellD)), p4, p5] = .ok [some G, some (.fd (dctM f ks)), some (cellD cc), some (.lst (fs.map cellD)), some (.int (b : Int)), p5] := by simp
      rw [hgn, O.bind_ok]
      unfold g_law_pool_2
      rw [sIf_ap]
      rw [show (tE (e2 ltD (eVar 4) (e1 lenD (eVar 3)))) [some G, some (.fd (dctM f ks)), some (cellD cc), some (.lst (fs.map cellD)), some (.int (b : Int)), p5] = .ok (decide (b < fs.length)) from by simp]
      rw [O.bind_ok]
      by_cases hlt : b < fs.length
      · rw [decide_eq_true hlt, if_pos rfl]
        have hat : fs[b]? = some fs[b] := List.getElem?_eq_getElem hlt
        have hci := c2 fs[b] (List.getElem_mem hlt)
        obtain ⟨q5, hin⟩ := inner (lbes g R C fs[b]) fs (some (.int (b : Int))) p5 c1.nd c2
        refine ⟨_, sFor_eq (ds := (lbes g R C fs[b]).map cellD) ?_ hin, _, _, _, rfl, ?_, addIn c2⟩
        · have : ixD (.lst (fs.map cellD)) (.int (b : Int)) = .ok (cellD fs[b]) := by
            rw [ix_lst_nat, List.getElem?_map, hat]; rfl
          rw [iSeq_ap, eCall_ap]
          simp only [aCons_ap, aNil_ap, e2_ap, eVar_s, eVar_zs, O.bind_ok, this, hbe _ hci]
        · rw [addE]
          obtain ⟨xs, ex, hx⟩ := addN_app (okD f ks) (besideL R C fs[b]) fs
          refine c1.step (List.getElem_mem hlt) (fun y hy hne => ?_) fun y hy hyf => ?_
          · obtain ⟨i, hi, hyi⟩ := hy
            have : i ≠ p.length := fun z => hne (by rw [z, ← hbp, hat] at hyi; exact (Option.some.inj hyi).symm)
            refine ⟨i, by simp; omega, ?_⟩
            rw [ex, List.getElem?_append_left (List.getElem?_eq_some_iff.mp hyi).1]
            exact hyi
          · rw [ex] at hy ⊢
            rcases List.mem_append.mp hy with hy | hy
            · exact absurd hy hyf
            · obtain ⟨i, hi⟩ := List.getElem?_of_mem hy
              refine ⟨fs.length + i, by simp; omega, ?_⟩
              rw [List.getElem?_append_right (by omega)]
              simpa using hi
      · rw [decide_eq_false hlt]
        refine ⟨[some G, some (.fd (dctM f ks)), some (cellD cc), some (.lst (fs.map cellD)), some (.int (b : Int)), p5], by simp, fs, _, _, rfl, c1.imp fun y _ hy => ?_, c2⟩
        obtain ⟨i, hi, hyi⟩ := hy
        have := (List.getElem?_eq_some_iff.mp hyi).1
        omega) ⟨_, none, none, rfl, .start (by simp) (fun c hc => by rw [List.mem_singleton.mp hc]; exact ⟨by simp, hcc⟩) (fun c hs _ => hs) (fun c hc => by
        obtain ⟨i, hi⟩ := List.getElem?_of_mem hc
        exact ⟨i, by simp, hi⟩), fun c hc => by rw [List.mem_singleton.mp hc]; exact hok _ hcc⟩
  rw [List.nil_append] at c1
  have cl : Clo (besideL R C) (okD f ks) (· ∈ [cc]) fs fun _ => False := c1.imp fun y _ hy => by
    obtain ⟨i, hi, hyi⟩ := hy
    have h1 := (List.getElem?_eq_some_iff.mp hyi).1
    have h2 := fs_few c1.nd c2
    simp at hi
    omega
  have hpf := pool_filter (R := R) (C := C) cl.all
  have hsort := sort_cells c1.nd c2
  rw [hpf] at hsort
  refine runF_rt rfl (by decide) (ρ := [some G, some (.fd (dctM f ks)), some (cellD cc), some (.lst (fs.map cellD)), p4, p5]) ?_
  unfold g_law_pool
  refine seq_to (ρ1 := [some G, some (.fd (dctM f ks)), some (cellD cc), some (.lst ([cc].map cellD)), none, none]) (by
    generalize dctM f ks = m0 at *
    simp [startD]) ?_
  have hmul : ((decide (-(2 ^ 64) < (R : Int)) && decide ((R : Int) < 2 ^ 64)) || (decide (-(2 ^ 64) < (C : Int)) && decide ((C : Int) < 2 ^ 64))) = true := by
    have : (decide (-(2 ^ 64) < (R : Int)) && decide ((R : Int) < 2 ^ 64)) = true := by
      have := hg.r30
      rw [Bool.and_eq_true, decide_eq_true_eq, decide_eq_true_eq]
      omega
    rw [this]; rfl
  refine seq_to (sFor_eq (ds := (List.range (R * C)).map fun (i : Nat) => D.int (0 + (i : Int))) ?_ h1) ?_
  · have hp : (R : Int) * (C : Int) = ((R * C : Nat) : Int) := by simp
    rw [iSeq_ap, e1_ap, e2_ap, e1_ap]
    simp only [e2_ap, e1_ap, eVar_s, eVar_zs, eC_ap, O.bind_ok, hlG, hr0, hlr, mulD_int, hmul, gd_true, hp]
    rw [lrg_nat (by omega)]
    rfl
  · refine ret_eq ?_
    rw [e1_ap]
    simp only [eVar_s, eVar_zs, O.bind_ok]
    exact hsort
theorem last_ix (xs : List D) (x : D) : ixD (.lst (xs ++ [x])) (.int (-1)) = .ok x := by
  show ofO (atI (xs ++ [x]) (-1)) = _
  have h1 : (1 : Int) ≤ (xs.length : Int) + 1 := by omega
  have h2 : (-1 + ((xs.length : Int) + 1)).toNat = xs.length := by omega
  rw [show atI (xs ++ [x]) (-1) = some x from by
    unfold atI ixN
    simp [h1, h2]]
  rfl
theorem law_pools_eq {g : List (List (Option Int))} {R C : Nat} (hg : GOk g R C) {f : Cell → Int} {ks : List Cell} (hk : ∀ c ∈ ks, inb R C c = true) (hnk : ks.Nodup) (hst : ∀ c, okD f ks c = true → (getG g c).isSome = true) :
    F_law_pools [.lst (g.map rowD), .fd (dctM f ks)] = .ok (.lst ((poolsP R C (okD f ks) (cellsL R C)).map lstC)) := by
  have h9 : R * C ≤ 900 := Nat.mul_le_mul hg.r30 hg.c30
  have hok : ∀ c, okD f ks c = true → inb R C c = true := fun c hc => hk c (okD_iff.mp hc).1
  have hpool : ∀ c, okD f ks c = true → F_law_pool [.lst (g.map rowD), .fd (dctM f ks), cellD c] = .ok (lstC (poolP R C (okD f ks) c)) := fun c hc => law_pool_eq hg hk hst hc
  have hpf := pools_filter R C (okD f ks) (fun c => decide (c ∈ ks)) (fun c hc => decide_eq_true (okD_iff.mp hc).1) (cellsL R C)
  have hsort := sort_cells hnk hk
  have hml : ∀ c ∈ (cellsL R C).filter (fun c => decide (c ∈ ks)), c ∈ ks := fun c hc => by simpa using (List.mem_filter.mp hc).2
  have hll : ((cellsL R C).filter fun c => decide (c ∈ ks)).length ≤ 900 := Nat.le_trans (List.length_filter_le _ _) (cells_few hg.r30 hg.c30)
  rw [← hpf]
  generalize (cellsL R C).filter (fun c => decide (c ∈ ks)) = l at *
  generalize D.lst (g.map rowD) = G at *
  obtain ⟨ρ1, h1, S, x4, x5, rfl, hS, hnS, hiS⟩ := for_pres (s := gN 4) (g := g_law_pools_2) cellD
    (I := fun p ρ => ∃ (S : List Cell) (x4 x5 : Option D), ρ = [some G, some (.fd (dctM f ks)), some (.lst ((poolsP R C (okD f ks) p).map lstC)), some (.dct (fdM S)), x4, x5] ∧ (∀ x, x ∈ S ↔ ∃ P ∈ poolsP R C (okD f ks) p, x ∈ P) ∧ S.Nodup ∧ ∀ x ∈ S, inb R C x = true)
    l [] [some G, some (.fd (dctM f ks)), some (.lst []), some (.dct (fdM [])), none, none] (by
      rintro p b q e ρ ⟨S, x4, x5, rfl, hS, hnS, hiS⟩
      rw [List.nil_append] at e
      have hbk : b ∈ ks := hml b (by rw [e]; simp)
      have hpl := pre_len e
      have hSl := few_seen h9 hnS hiS
      have hpo := pools_len R C (okD f ks) p
      have hsn := pools_snoc R C (okD f ks) p b
      have hap : b ∉ S → ∀ x ∈ poolP R C (okD f ks) b, x ∉ S := fun hb x hx z => by
        obtain ⟨P, hP, hy⟩ := (hS x).mp z
        exact pool_apart hok (fun Q hQ y => hb ((hS b).mpr ⟨Q, hQ, y⟩)) hx P hP hy
      generalize hacc : poolsP R C (okD f ks) p = acc at *
      have hgn : ∀ X Y Z W : D, gN 4 (cellD b) [some X, some Y, some Z, some W, x4, x5] = .ok [some X, some Y, some Z, some W, some (cellD b), x5] := fun X Y Z W => by simp
      rw [hgn, O.bind_ok]
      have hix := ixF_dm (f := f) hbk
      have ht1 : (tE (e2 gtD (e2 ixF (eVar 1) (eVar 4)) (eC (.int 0)))) [some G, some (.fd (dctM f ks)), some (.lst (acc.map lstC)), some (.dct (fdM S)), some (cellD b), x5] = .ok (okD f ks b) := by
        rw [tE_ap, e2_ap, e2_ap]
        simp only [eVar_s, eVar_zs, eC_ap, O.bind_ok, hix]
        unfold okD
        simp [hbk]
      have hin := in_fdM true S b
      have ht2 : (tE (eIn true (eVar 4) (eVar 3))) [some G, some (.fd (dctM f ks)), some (.lst (acc.map lstC)), some (.dct (fdM S)), some (cellD b), x5] = .ok (!decide (b ∈ S)) := by
        rw [tE_ap]
        unfold eIn
        simp only [eVar_s, eVar_zs, O.bind_ok, hin, Bool.true_bne]
      unfold g_law_pools_2
      rw [sIf_ap, tAndF_ap, ht1, O.bind_ok]
      have hcond : (okD f ks b = true ∧ b ∉ S) ↔ (okD f ks b = true ∧ ∀ P ∈ acc, b ∉ P) := ⟨fun z => ⟨z.1, fun P hP y => z.2 ((hS b).mpr ⟨P, hP, y⟩)⟩, fun z => ⟨z.1, fun y => by obtain ⟨P, hP, y⟩ := (hS b).mp y; exact z.2 P hP y⟩⟩
      by_cases hc : okD f ks b = true ∧ b ∉ S
      · rw [hc.1, if_pos rfl, ht2, decide_eq_false hc.2, O.bind_ok]
        simp only [Bool.not_false, if_true]
        have hcall := hpool b hc.1
        have hstep : stepP R C (okD f ks) acc b = acc ++ [poolP R C (okD f ks) b] := if_pos (hcond.mp hc)
        rw [hstep] at hsn
        have z2 : decide ((acc.map lstC).length < 100000) = true := decide_eq_true (by rw [List.length_map]; omega)
        have hPn : (poolP R C (okD f ks) b).Nodup := (nodup_cells R C).filter _
        have hPS := hap hc.2
        have hPl : (poolP R C (okD f ks) b).length ≤ 900 := pool_few hg.r30 hg.c30
        have hPi : ∀ x ∈ poolP R C (okD f ks) b, inb R C x = true := fun x hx => cells_in R C x (List.mem_filter.mp hx).1
        have hPm : ∀ x, x ∈ poolP R C (okD f ks) b ↔ x ∈ poolP R C (okD f ks) b := fun x => Iff.rfl
        generalize poolP R C (okD f ks) b = P at *
        obtain ⟨ρ2, h2, y5, rfl⟩ := for_pres (s := gN 5) (g := g_law_pools_1) cellD
          (I := fun p2 ρ => ∃ y5 : Option D, ρ = [some G, some (.fd (dctM f ks)), some (.lst (acc.map lstC ++ [lstC P])), some (.dct (fdM (S ++ p2))), some (cellD b), y5])
          P [] [some G, some (.fd (dctM f ks)), some (.lst (acc.map lstC ++ [lstC P])), some (.dct (fdM S)), some (cellD b), x5] (by
            rintro p2 b2 q2 e2' ρ ⟨y5, rfl⟩
            rw [List.nil_append] at e2'
            have hpl2 := pre_len e2'
            have hn2 := hPn
            rw [e2'] at hn2
            have hb2 : b2 ∉ S ++ p2 := fun z => by
              rcases List.mem_append.mp z with z | z
              · exact hPS b2 (by rw [e2']; simp) z
              · exact (List.nodup_append.mp hn2).2.2 b2 z b2 (by simp) rfl
            have hp1 := put_fdM hb2
            have z1 : decide ((fdM (S ++ p2)).length < 100000) = true := decide_eq_true (by rw [len_fdM, List.length_append]; omega)
            refine ⟨[some G, some (.fd (dctM f ks)), some (.lst (acc.map lstC ++ [lstC P])), some (.dct (fdM (S ++ (p2 ++ [b2])))), some (cellD b), some (cellD b2)], ?_, _, rfl⟩
            rw [← List.append_assoc, ← hp1]
            generalize fdM (S ++ p2) = m1 at *
            generalize dctM f ks = m0 at *
            generalize acc.map lstC ++ [lstC P] = al at *
            rw [show gN 5 (cellD b2) [some G, some (.fd m0), some (.lst al), some (.dct m1), some (cellD b), y5] = .ok [some G, some (.fd m0), some (.lst al), some (.dct m1), some (cellD b), some (cellD b2)] from by simp, O.bind_ok]
            unfold g_law_pools_1
            rw [sDput_ap]
            simp [z1]) ⟨x5, by simp⟩
        rw [List.nil_append] at h2
        refine ⟨[some G, some (.fd (dctM f ks)), some (.lst ((poolsP R C (okD f ks) (p ++ [b])).map lstC)), some (.dct (fdM (S ++ P))), some (cellD b), y5], ?_, S ++ P, some (cellD b), y5, rfl, fun x => ?_, ?_, fun x hx => ?_⟩
        · rw [hsn, List.map_append]
          refine seq_to (ρ1 := [some G, some (.fd (dctM f ks)), some (.lst (acc.map lstC ++ [lstC P])), some (.dct (fdM S)), some (cellD b), x5]) ?_ ?_
          · rw [sApp_ap]
            rw [show (eCall (aCons (eVar 0) (aCons (eVar 1) (aCons (eVar 4) aNil))) F_law_pool) [some G, some (.fd (dctM f ks)), some (.lst (acc.map lstC)), some (.dct (fdM S)), some (cellD b), x5] = .ok (lstC P) from by
              generalize dctM f ks = m0 at *
              simp [hcall]]
            simp only [eVar_s, eVar_zs, O.bind_ok, lstD_lst, z2, gd_true]
            rfl
          · refine sFor_eq (ds := P.map cellD) ?_ h2
            have hl := last_ix (acc.map lstC) (lstC P)
            unfold iLs
            rw [e2_ap]
            rw [show (e1 negD (eC (.int 1))) [some G, some (.fd (dctM f ks)), some (.lst (acc.map lstC ++ [lstC P])), some (.dct (fdM S)), some (cellD b), x5] = .ok (.int (-1)) from rfl]
            simp only [eVar_s, eVar_zs, O.bind_ok, hl]
            rfl
        · rw [hsn, List.mem_append]
          constructor
          · rintro (hx | hx)
            · obtain ⟨Q, hQ, hy⟩ := (hS x).mp hx
              exact ⟨Q, List.mem_append.mpr (.inl hQ), hy⟩
            · exact ⟨P, List.mem_append.mpr (.inr (List.mem_singleton.mpr rfl)), hx⟩
          · rintro ⟨Q, hQ, hy⟩
            rcases List.mem_append.mp hQ with hQ | hQ
            · exact .inl ((hS x).mpr ⟨Q, hQ, hy⟩)
            · rw [List.mem_singleton.mp hQ] at hy
              exact .inr hy
        · rw [List.nodup_append]
          refine ⟨hnS, hPn, fun x hx y hy e => ?_⟩
          subst e
          exact hPS x hy hx
        · rcases List.mem_append.mp hx with hx | hx
          · exact hiS x hx
          · exact hPi x hx
      · have hstep : stepP R C (okD f ks) acc b = acc := if_neg fun z => hc (hcond.mpr z)
        rw [hstep] at hsn
        rw [hsn]
        refine ⟨[some G, some (.fd (dctM f ks)), some (.lst (acc.map lstC)), some (.dct (fdM S)), some (cellD b), x5], ?_, S, _, _, rfl, hS, hnS, hiS⟩
        cases k1 : okD f ks b with
        | false => rfl
        | true =>
          have k3 : b ∈ S := by
            by_cases k2 : b ∈ S
            · exact k2
            · exact absurd ⟨k1, k2⟩ hc
          rw [if_pos rfl, ht2, decide_eq_true k3]
          rfl) ⟨[], none, none, rfl, fun x => by simp [poolsP], by simp, by simp⟩
  rw [List.nil_append] at h1
  refine runF_rt rfl (by decide) (ρ := [some G, some (.fd (dctM f ks)), none, some (.dct (fdM S)), x4, x5]) ?_
  unfold g_law_pools
  refine seq_to (ρ1 := [some G, some (.fd (dctM f ks)), some (.lst []), none, none, none]) rfl ?_
  refine seq_to (ρ1 := [some G, some (.fd (dctM f ks)), some (.lst []), some (.dct (fdM [])), none, none]) rfl ?_
  refine seq_to (sFor_eq (ds := l.map cellD) ?_ h1) rfl
  have hl : listF (.fd (dctM f ks)) = .ok (.lst (ks.map cellD)) := by
    show O.ok (D.lst ((dctM f ks).map fun p => keyT p.1)) = _
    rw [keys_dm]
  rw [iSeq_ap, e1_ap, e1_ap]
  simp only [eVar_s, eVar_zs, O.bind_ok, hl, hsort]
/-! the law -/
theorem perm_sum {l m : List Int} (h : l.Perm m) : l.sum = m.sum := by
  induction h with
  | nil => rfl
  | cons x _ ih => simp [ih]
  | swap x y l => simp; omega
  | trans _ _ a b => exact a.trans b
theorem lvT_mem {tb : Tb Cell} {c : Cell} : (lvT tb c).isSome = true ↔ c ∈ tb.map (·.1) := by
  unfold lvT
  rw [Option.isSome_map, List.find?_isSome]
  constructor
  · rintro ⟨e, he, h⟩
    exact List.mem_map.mpr ⟨e, he, of_decide_eq_true h⟩
  · intro h
    obtain ⟨e, he, h⟩ := List.mem_map.mp h
    exact ⟨e, he, decide_eq_true h⟩
theorem keys_tb (tb : Tb Cell) : ((tbM tb).map fun p => keyT p.1) = (tb.map (·.1)).map cellD := by
  unfold tbM
  rw [List.map_map, List.map_map]
  rfl
theorem ixF_tb {tb : Tb Cell} {c : Cell} {l : Int} (h : lvT tb c = some l) : ixF (.fd (tbM tb)) (cellD c) = .ok (.int l) := by
  show ((ofO (keyD (cellD c))).bind fun ks => ofO (lookD (tbM tb) ks)) = _
  rw [keyD_cell, ofO_some, O.bind_ok, look_tb, h]
  rfl
theorem okD_same {f : Cell → Int} {ks ks' : List Cell} (h : ∀ c, c ∈ ks ↔ c ∈ ks') : okD f ks = okD f ks' := by
  funext c
  rw [Bool.eq_iff_iff, okD_iff, okD_iff, h c]
theorem lay_lstC (P : List Cell) : (toPy (lstC P)).canLay0 = true ∧ (toPy (lstC P)).depth ≤ 60 := by
  obtain ⟨h1, h2⟩ := laid_list cellD 10 lay_cell10 P
  simp only [lstC, toPy_lst, PyData.canLay0, PyData.depth]
  exact ⟨h1, by omega⟩
theorem eqv_lstC (a b : List Cell) : PyData.eqv (toPy (lstC a)) (toPy (lstC b)) = decide (a = b) := by
  simp only [lstC, toPy_lst, PyData.eqv]
  exact eqv_list cellD eqv_cell a b
theorem eq_pools (neg : Bool) (l l' : List (List Cell)) : eqD neg (.lst (l.map lstC)) (.lst (l'.map lstC)) = .ok (.bl (neg != decide (l = l'))) := eq_list lstC lay_lstC eqv_lstC neg l l'
theorem zc_same {j l : Nat} {t : TF} {fe : EF} {ρ0 : Rho} : ∀ {ps : List (D × D)}, (∀ p ∈ ps, t ((ρ0.set j (some p.1)).set l (some p.2)) = .ok false) → zcGo j l t fe ρ0 ps = .ok (.nx ρ0)
  | [], _ => rfl
  | (x, y) :: r, h => by
    have h1 : t ((ρ0.set j (some x)).set l (some y)) = .ok false := h (x, y) (by simp)
    unfold zcGo
    rw [h1, O.bind_ok, if_neg (by decide)]
    exact zc_same fun p hp => h p (List.mem_cons_of_mem _ hp)
theorem deep_loop {L : LandD} {R C : Nat} {es : Es Cell} (h : Dp L R C es) {tb : Tb Cell} (hko : KOk R C tb) (htb : ∀ c, lvT tb c = lvE es c) {S DD LD : D} :
    ∃ p6 : Option D, sFor.go (gN 6) g_law_1 ((tb.map (·.1)).map cellD) [some S, some (.lst (L.g.map rowD)), some DD, some LD, some (.fd (tbM tb)), some (.dct []), none, none, none, none, none, none, none] = .ok (.nx [some S, some (.lst (L.g.map rowD)), some DD, some LD, some (.fd (tbM tb)), some (.dct (dctM (dpF L es) (tb.map (·.1)))), p6, none, none, none, none, none, none]) := by
  have hg := h.hg
  have hks : ∀ c ∈ tb.map (·.1), ∃ l o, lvT tb c = some l ∧ getG L.g c = some o ∧ dpF L es c = l - o := fun c hc => by
    have h1 := lvT_mem.mpr hc
    rw [htb] at h1
    obtain ⟨l, hl⟩ := Option.isSome_iff_exists.mp h1
    obtain ⟨o, ho, _⟩ := h.low hl
    exact ⟨l, o, by rw [htb]; exact hl, ho, by unfold dpF; rw [hl, ho]; rfl⟩
  have hin := hko.2
  have hnd := hko.1
  have hfew : (tb.map (·.1)).length ≤ 900 := Nat.le_trans (fs_few hnd hin) (Nat.mul_le_mul hg.r30 hg.c30)
  have hixg : ∀ c, inb R C c = true → ∃ r : List (Option Int), ixD (.lst (L.g.map rowD)) (.int c.1) = .ok (rowD r) ∧ ixD (rowD r) (.int c.2) = .ok (hD (getG L.g c)) ∧ r.length = C := fun c hc => ix_grid hg hc
  generalize hf : dpF L es = f at *
  generalize hkk : tb.map (·.1) = ks at *
  generalize D.lst (L.g.map rowD) = G at *
  obtain ⟨ρ1, h1, p6, rfl⟩ := for_pres (s := gN 6) (g := g_law_1) cellD
    (I := fun p ρ => ∃ p6 : Option D, ρ = [some S, some G, some DD, some LD, some (.fd (tbM tb)), some (.dct (dctM f p)), p6, none, none, none, none, none, none])
    ks [] [some S, some G, some DD, some LD, some (.fd (tbM tb)), some (.dct (dctM f [])), none, none, none, none, none, none, none] (by
      rintro p b q e ρ ⟨p6, rfl⟩
      rw [List.nil_append] at e
      have hpl := pre_len e
      have hbk : b ∈ ks := by rw [e]; simp
      obtain ⟨l, o, w1, w2, w3⟩ := hks b hbk
      obtain ⟨r, x1, x2, _⟩ := hixg b (hin b hbk)
      rw [w2] at x2
      have x2' : ixD (rowD r) (.int b.2) = .ok (.int o) := x2
      have hn2 := hnd
      rw [e] at hn2
      have hbp : b ∉ p := fun z => (List.nodup_append.mp hn2).2.2 b z b (by simp) rfl
      have hput := put_dm (f := f) hbp
      rw [w3] at hput
      have hix := ixF_tb w1
      have hz : decide ((dctM f p).length < 100000) = true := decide_eq_true (by rw [len_dm]; omega)
      have hc1 : ixD (cellD b) (.int 0) = .ok (.int b.1) := by simp [cellD]
      have hc2 : ixD (cellD b) (.int 1) = .ok (.int b.2) := by simp [cellD]
      have hkd := keyD_cell b
      refine ⟨[some S, some G, some DD, some LD, some (.fd (tbM tb)), some (.dct (dctM f (p ++ [b]))), some (cellD b), none, none, none, none, none, none], ?_, _, rfl⟩
      rw [← hput]
      generalize dctM f p = m0 at *
      generalize D.fd (tbM tb) = T at *
      generalize cellD b = B at *
      generalize rowD r = RW at *
      rw [show gN 6 B [some S, some G, some DD, some LD, some T, some (.dct m0), p6, none, none, none, none, none, none] = .ok [some S, some G, some DD, some LD, some T, some (.dct m0), some B, none, none, none, none, none, none] from by simp, O.bind_ok]
      unfold g_law_1
      rw [sDput_ap]
      simp only [e2_ap, eVar_s, eVar_zs, eC_ap, O.bind_ok, hix, hc1, hc2, x1, x2', subD_int, imm_int, gd_true, dctO_dct, hkd, ofO_some, hz]
      rfl) ⟨none, rfl⟩
  rw [List.nil_append] at h1
  exact ⟨p6, h1⟩
theorem asked10 {L : LandD} {R C : Nat} (hg : GOk L.g R C) (hd : DrOk L R C) : ∃ t : Int, F_law_asked [.land L] = .ok (.int t) := by
  obtain ⟨es, hsp, hdone, hes⟩ := spread_eq hg hd
  have D1 : Dp L R C es := ⟨hg, ⟨_, hsp⟩, hdone⟩
  have e1 := depths_eq D1
  have e2 := pools_eq D1
  have e3 := volume_eq D1
  refine ⟨((dpK R C es).map (dpF L es)).sum, ?_⟩
  generalize D.land L = LD at *
  refine runF_rt rfl (by decide) (ρ := [some LD]) ?_
  unfold g_law_asked
  refine seq_to (ρ1 := [some LD]) (by simp [startD, e1]) ?_
  refine seq_to (ρ1 := [some LD]) (by simp [e2]) ?_
  exact ret_eq (by simp [e3])
theorem lock_to {i : Nat} {g : SF} {ρ : Rho} {m : List (List Key × D)} {r : O Out} (h : eVar i ρ = .ok (.dct m)) (hi : i < ρ.length) (hg : g (ρ.set i (some (.fd m))) = r) : sLock i g ρ = r := by
  unfold sLock
  rw [h, O.bind_ok, dctO_dct, O.bind_ok, decide_eq_true hi, gd_true, hg]
theorem zip_to {i j l : Nat} {fz fe : EF} {t : TF} {ρ : Rho} {ds es : List D} {r : O Out} (h1 : eVar i ρ = .ok (.lst ds)) (h2 : fz ρ = .ok (.lst es)) (hb : (decide (i < ρ.length) && (decide (j < ρ.length) && (decide (l < ρ.length) && (decide (i ≠ j) && (decide (i ≠ l) && decide (j ≠ l)))))) = true) (h : zcGo j l t fe (((ρ.set j none).set l none).set i none) (ds.zip es) = r) : sZipClr i j l fz t fe ρ = r := by
  unfold sZipClr
  rw [h1, O.bind_ok, lstD_lst, O.bind_ok, h2, O.bind_ok, lstD_lst, O.bind_ok, hb, gd_true, h]
theorem law_true (ns : List Int) (h : ns.length ≤ 63) : F_law [.lst (ns.map .int)] = .ok (.bl true) := by
  obtain ⟨g, R, C, hgr, hg, hgo, hrc⟩ := grid_eq ns
  obtain ⟨q, hdr, hq⟩ := drains_law ns hg
  have hds : ∀ c ∈ (cellsL R C).filter q, inb R C c = true ∧ getG g c ≠ none := fun c hc => ⟨cells_in R C c (List.mem_filter.mp hc).1, hq c (List.mem_filter.mp hc).2⟩
  have hdl : ((cellsL R C).filter q).length ≤ 900 := Nat.le_trans (List.length_filter_le _ _) (cells_few hg.r30 hg.c30)
  obtain ⟨o, hland, hop⟩ := land_law2 hg hgo (fun L h1 _ h3 => asked10 h1 h3) hds hdl
  have hDr : drainsL ⟨g, o⟩ R C = (cellsL R C).filter q := by
    unfold drainsL
    refine List.filter_congr fun c hc => ?_
    rw [hop]
    rw [Bool.eq_iff_iff, decide_eq_true_eq]
    exact ⟨fun x => (List.mem_filter.mp x).2, fun x => List.mem_filter.mpr ⟨hc, x⟩⟩
  have hDO : DrOk ⟨g, o⟩ R C := fun c hc ho => by
    have : openB o c = true := ho
    rw [hop, decide_eq_true_eq] at this
    exact (hds c this).2
  obtain ⟨es, hsp, hdone, hes⟩ := spread_eq (L := ⟨g, o⟩) hg hDO
  have D1 : Dp ⟨g, o⟩ R C es := ⟨hg, ⟨_, hsp⟩, hdone⟩
  obtain ⟨tb, hlv, hko, htb⟩ := law_levels_eq (L := ⟨g, o⟩) hg hdone hes hDO
  rw [hDr] at hlv
  have hheights := heights_eq (L := ⟨g, o⟩) hg
  have hdrains := drains_eq (L := ⟨g, o⟩) hg
  rw [hDr] at hdrains
  have hneg := eq_rows false g g
  have hned := eq_cells false ((cellsL R C).filter q) ((cellsL R C).filter q)
  have hdep := depths_eq D1
  have hvol := volume_eq D1
  have hpoo := pools_eq D1
  -- the keys of both
  have hmem : ∀ c, c ∈ dpK R C es ↔ c ∈ tb.map (·.1) := fun c => by
    rw [mem_dpK, ← lvT_mem, htb]
    exact ⟨fun x => x.2, fun x => ⟨hko.2 c (lvT_mem.mp (by rw [htb]; exact x)), x⟩⟩
  have hpm : (dpK R C es).Perm (tb.map (·.1)) := perm_of_mem nd_dpK hko.1 hmem
  have hfew : (tb.map (·.1)).length ≤ 900 := Nat.le_trans (fs_few hko.1 hko.2) (Nat.mul_le_mul hg.r30 hg.c30)
  have hsum : ((dpK R C es).map (dpF ⟨g, o⟩ es)).sum = ((tb.map (·.1)).map (dpF ⟨g, o⟩ es)).sum := perm_sum (hpm.map _)
  have hsd := same_depths_eq (f := dpF ⟨g, o⟩ es) hmem hpm.length_eq
  have hlp := law_pools_eq hg (f := dpF ⟨g, o⟩ es) hko.2 hko.1 (fun c hc => by
    have h1 := lvT_mem.mpr (okD_iff.mp hc).1
    rw [htb] at h1
    obtain ⟨l, hl⟩ := Option.isSome_iff_exists.mp h1
    obtain ⟨x, hx, _⟩ := D1.low hl
    rw [show getG g c = some x from hx]
    rfl)
  rw [okD_same hmem] at hpoo
  have hdl1 := fun S DD LD => deep_loop D1 hko htb (S := S) (DD := DD) (LD := LD)
  have hkeys := keys_tb tb
  generalize poolsP R C (okD (dpF ⟨g, o⟩ es) (tb.map (·.1))) (cellsL R C) = Ps at *
  have hep := eq_pools true Ps Ps
  have hlen : lenD (.lst (Ps.map lstC)) = .ok (.int (Ps.length : Int)) := by simp
  have hty : tyN (.lst (Ps.map lstC)) = some "list" := rfl
  have hzip : ∀ p ∈ (Ps.map lstC).zip (Ps.map lstC), ∃ P : List Cell, p = (lstC P, lstC P) := fun p hp => by
    rw [List.zip_map'] at hp
    obtain ⟨P, _, rfl⟩ := List.mem_map.mp hp
    exact ⟨P, rfl⟩
  have hsame : ∀ P : List Cell, F_law_same_cells [lstC P, lstC P] = .ok (.bl true) := same_cells_eq
  have hwh : ∀ x : Int, F_law_whole [.int x] = .ok (.bl true) := fun x => by simp [F_law_whole, runF, g_law_whole, startD, isTy]
  generalize hks : tb.map (·.1) = ks at *
  generalize hks' : dpK R C es = ks' at *
  generalize dpF ⟨g, o⟩ es = f at *
  obtain ⟨p6, hdl1⟩ := hdl1 (.lst (ns.map .int)) (.lst (((cellsL R C).filter q).map cellD)) (.land ⟨g, o⟩)
  have kL : Kd.land.is (.land ⟨g, o⟩) = true := rfl
  generalize hS : D.lst (ns.map .int) = S at *
  generalize D.lst (g.map rowD) = G at *
  generalize D.lst (((cellsL R C).filter q).map cellD) = DD at *
  generalize D.land ⟨g, o⟩ = L at *
  generalize hV : (ks'.map f).sum = V at *
  let st : D → Option D → Option D → Option D → Option D → Option D → Rho := fun d5 o6 o7 o8 o9 o10 => [some S, some G, some DD, some L, some (.fd (tbM tb)), some d5, o6, o7, o8, o9, o10, none, none]
  -- asked twice
  obtain ⟨ρ2, h2, q7, q8, rfl⟩ := for_inv (I := fun ρ => ∃ o7 o8 : Option D, ρ = st (.fd (dctM f ks)) p6 o7 o8 none none) (s := gN 7) (g := g_law_2) (ds := (List.range 2).map fun (i : Nat) => D.int (i : Int)) (ρ := st (.fd (dctM f ks)) p6 none none none none) (fun d hd ρ hI => by
    obtain ⟨o7, o8, rfl⟩ := hI
    refine ⟨st (.fd (dctM f ks)) p6 (some d) (some (.dct [])) none none, ?_, _, _, rfl⟩
    generalize D.fd (dctM f ks) = T5 at *
    rw [show gN 7 d (st T5 p6 o7 o8 none none) = .ok (st T5 p6 (some d) o8 none none) from by simp [st], O.bind_ok]
    unfold g_law_2
    refine seq_to (ρ1 := st T5 p6 (some d) (some (.dct (dctM f ks'))) none none) (by simp [st, hdep]) ?_
    refine seq_to (ρ1 := st T5 p6 (some d) (some (.dct (dctM f ks'))) none none) (by simp [st, hsd]) ?_
    rfl) ⟨none, none, rfl⟩
  have hzc := zc_same (j := 11) (l := 12) (t := g_law_4) (fe := eC (.bl false)) (ρ0 := [some S, some G, some DD, some L, some (.fd (tbM tb)), some (.fd (dctM f ks)), p6, q7, none, some (.int V), some (.lst (Ps.map lstC)), none, none]) (ps := (Ps.map lstC).zip (Ps.map lstC)) (fun p hp => by
    obtain ⟨P, rfl⟩ := hzip p hp
    have := hsame P
    generalize lstC P = p at *
    simp [g_law_4, this])
  refine runF_rt rfl (by decide) (ρ := [some S, some G, some DD, some L, some (.fd (tbM tb)), some (.fd (dctM f ks)), p6, q7, none, some (.int V), some (.lst (Ps.map lstC)), none, none]) ?_
  unfold g_law
  refine seq_to (ρ1 := [some S, some G, none, none, none, none, none, none, none, none, none, none, none]) (by simp [startD, hgr]) ?_
  refine seq_to (ρ1 := [some S, some G, some DD, none, none, none, none, none, none, none, none, none, none]) (by simp [hdr]) ?_
  refine seq_to (ρ1 := [some S, some G, some DD, some L, none, none, none, none, none, none, none, none, none]) (by simp [hland]) ?_
  refine seq_to (ρ1 := [some S, some G, some DD, some L, some (.dct (tbM tb)), none, none, none, none, none, none, none, none]) (by simp [hlv]) ?_
  refine seq_to (ρ1 := [some S, some G, some DD, some L, some (.dct (tbM tb)), some (.dct []), none, none, none, none, none, none, none]) rfl ?_
  refine lock_to (i := 4) (m := tbM tb) rfl (by simp) ?_
  refine seq_to (sFor_eq (ds := ks.map cellD) ?_ hdl1) ?_
  · show O.ok ((tbM tb).map fun p => keyT p.1) = _
    rw [hkeys]
  refine lock_to (i := 5) (m := dctM f ks) rfl (by simp) ?_
  refine seq_to (sFor_eq (rg1_eq (n := 2) rfl (by decide)) h2) ?_
  refine seq_to (ρ1 := st (.fd (dctM f ks)) p6 q7 q8 (some (.int V)) none) (by simp [st, hvol]) ?_
  have hsu : (e1 sumD (eLc (iFd (eVar 5)) 6 tTr g_law_3)) (st (.fd (dctM f ks)) p6 q7 q8 (some (.int V)) none) = .ok (.int V) := by
    rw [sum_dm (f := f) (ks := ks) hfew (by simp [st]) rfl fun c hc => ?_, ← hsum]
    have := ixF_dm (f := f) hc
    generalize dctM f ks = m at *
    unfold g_law_3
    rw [e2_ap]
    simp only [st, List.set_cons_zero, List.set_cons_succ, eVar_s, eVar_zs, O.bind_ok, this]
  refine seq_to (ρ1 := st (.fd (dctM f ks)) p6 q7 q8 (some (.int V)) none) ?_ ?_
  · have hw := hwh V
    have hv9 : eVar 9 (st (.fd (dctM f ks)) p6 q7 q8 (some (.int V)) none) = .ok (.int V) := rfl
    have c1 : (tNotF (tE (eCall (aCons (eVar 9) aNil) F_law_whole))) (st (.fd (dctM f ks)) p6 q7 q8 (some (.int V)) none) = .ok false := by
      generalize st (.fd (dctM f ks)) p6 q7 q8 (some (.int V)) none = ρ at *
      simp [hw, hv9]
    have c2 : (tE (e2 (eqD true) (eVar 9) (e1 sumD (eLc (iFd (eVar 5)) 6 tTr g_law_3)))) (st (.fd (dctM f ks)) p6 q7 q8 (some (.int V)) none) = .ok false := by
      generalize st (.fd (dctM f ks)) p6 q7 q8 (some (.int V)) none = ρ at *
      rw [tE_ap, e2_ap, hv9, O.bind_ok, hsu, O.bind_ok]
      simp
    rw [sIf_ap, tOrF_ap, c1, O.bind_ok, if_neg (by decide), c2]
    rfl
  refine seq_to (ρ1 := st (.fd (dctM f ks)) p6 q7 (some (.lst (Ps.map lstC))) (some (.int V)) none) (by
    generalize D.fd (dctM f ks) = T5 at *
    generalize D.lst (Ps.map lstC) = PD at *
    simp [st, hpoo]) ?_
  refine seq_to (ρ1 := st (.fd (dctM f ks)) p6 q7 (some (.lst (Ps.map lstC))) (some (.int V)) (some (.lst (Ps.map lstC)))) (by
    generalize D.fd (dctM f ks) = T5 at *
    generalize D.lst (Ps.map lstC) = PD at *
    simp [st, hlp]) ?_
  refine seq_to (ρ1 := st (.fd (dctM f ks)) p6 q7 (some (.lst (Ps.map lstC))) (some (.int V)) (some (.lst (Ps.map lstC)))) (by
    generalize D.fd (dctM f ks) = T5 at *
    generalize D.lst (Ps.map lstC) = PD at *
    simp [st, hty, hlen, isTy]) ?_
  refine seq_to (ρ1 := [some S, some G, some DD, some L, some (.fd (tbM tb)), some (.fd (dctM f ks)), p6, q7, none, some (.int V), some (.lst (Ps.map lstC)), none, none]) ?_ ?_
  · exact zip_to (ds := Ps.map lstC) (es := Ps.map lstC) rfl rfl rfl hzc
  generalize D.fd (dctM f ks) = T5 at *
  generalize D.lst (Ps.map lstC) = PD at *
  refine seq_to (ρ1 := [some S, some G, some DD, some L, some (.fd (tbM tb)), some T5, p6, q7, none, some (.int V), some PD, none, none]) (by simp [hpoo, hep]) ?_
  refine ret_eq ?_
  simp [kL, hheights, hdrains, hneg, hned]
end VS
set_option Elab.async false
set_option linter.all false
set_option maxRecDepth 100000
set_option maxHeartbeats 2000000
namespace Pg
open PySem L2 VS
theorem fin {P : Program} {w : World} {K : PySem.W.Frag} {mg : Str → Option Value} {fa : Addr} {CL CP e_NoLand e_NoHeight e_NoDrain e_NoCell : Addr} (hfa : mg "law" = some (.ref fa)) (bn : Bn mg) (lk : LandK K CL) (pk : PileK K CP)
    (f_law_size : Fact K mg "_law_size" s_law_size ["_law_cell"])
    (f_law_cell_at : Fact K mg "_law_cell_at" s_law_cell_at ["_law_script", "_law_k"])
    (f_law_number : Fact K mg "_law_number" s_law_number ["_law_script", "_law_k"])
    (f_law_height_by : Fact K mg "_law_height_by" s_law_height_by ["_law_number_here", "_law_kind"])
    (f_law_grid : Fact K mg "_law_grid" s_law_grid ["_law_script"])
    (f_law_drains : Fact K mg "_law_drains" s_law_drains ["_law_script", "_law_rows"])
    (f_is_whole : Fact K mg "is_whole" s_is_whole ["thing"])
    (f_is_height : Fact K mg "is_height" s_is_height ["thing"])
    (f_Land_init : FactI K mg "Land" CL "Land.__init__" s_Land_init ["self", "heights"])
    (f_lies_in : Fact K mg "lies_in" s_lies_in ["rows", "columns", "cell"])
    (f_Land_need : FactM K CL "need" "Land.need" s_Land_need ["self", "cell"])
    (f_Land_opened : FactM K CL "opened" "Land.opened" s_Land_opened ["self", "cell"])
    (f_Pile_init : FactI K mg "Pile" CP "Pile.__init__" s_Pile_init ["self"])
    (f_all_cells : Fact K mg "all_cells" s_all_cells ["rows", "columns"])
    (f_Land_is_drain : FactM K CL "is_drain" "Land.is_drain" s_Land_is_drain ["self", "cell"])
    (f_Land_drains : FactM K CL "drains" "Land.drains" s_Land_drains ["self"])
    (f_Pile_put : FactM K CP "put" "Pile.put" s_Pile_put ["self", "value"])
    (f_Land_height : FactM K CL "height" "Land.height" s_Land_height ["self", "cell"])
    (f_Pile_many : FactM K CP "many" "Pile.many" s_Pile_many ["self"])
    (f_Pile_sink : FactM K CP "sink" "Pile.sink" s_Pile_sink ["self"])
    (f_Pile_take : FactM K CP "take" "Pile.take" s_Pile_take ["self"])
    (f_beside : Fact K mg "beside" s_beside ["rows", "columns", "cell"])
    (f_spread : Fact K mg "spread" s_spread ["land"])
    (f_depths : Fact K mg "depths" s_depths ["land"])
    (f_pools : Fact K mg "pools" s_pools ["land"])
    (f_volume : Fact K mg "volume" s_volume ["land"])
    (f_law_asked : Fact K mg "_law_asked" s_law_asked ["_law_land_here"])
    (f_Land_shut : FactM K CL "shut" "Land.shut" s_Land_shut ["self", "cell"])
    (f_Land_raised : FactM K CL "raised" "Land.raised" s_Land_raised ["self", "cell", "height"])
    (f_law_land : Fact K mg "_law_land" s_law_land ["_law_rows", "_law_drains_here"])
    (f_law_beside : Fact K mg "_law_beside" s_law_beside ["_law_rows", "_law_cell"])
    (f_law_least_beside : Fact K mg "_law_least_beside" s_law_least_beside ["_law_rows", "_law_cell", "_law_level"])
    (f_law_levels : Fact K mg "_law_levels" s_law_levels ["_law_rows", "_law_drains_here"])
    (f_law_whole : Fact K mg "_law_whole" s_law_whole ["_law_found"])
    (f_law_same_depths : Fact K mg "_law_same_depths" s_law_same_depths ["_law_found", "_law_deep"])
    (f_law_pool : Fact K mg "_law_pool" s_law_pool ["_law_rows", "_law_deep", "_law_cell"])
    (f_law_pools : Fact K mg "_law_pools" s_law_pools ["_law_rows", "_law_deep"])
    (f_law_same_cells : Fact K mg "_law_same_cells" s_law_same_cells ["_law_found", "_law_due"])
    (f_Land_heights : FactM K CL "heights" "Land.heights" s_Land_heights ["self"])
    (f_law : Fact K mg "law" s_law ["_law_script"]) {t_MOST_SIDE : Tok} (c_MOST_SIDE : mg "MOST_SIDE" = some (.int 30 t_MOST_SIDE)) {t_MOST_HEIGHT : Tok} (c_MOST_HEIGHT : mg "MOST_HEIGHT" = some (.int 1000000000 t_MOST_HEIGHT)) (x_NoLand : ExK K mg "NoLand" e_NoLand) (x_NoHeight : ExK K mg "NoHeight" e_NoHeight) (x_NoDrain : ExK K mg "NoDrain" e_NoDrain) (x_NoCell : ExK K mg "NoCell" e_NoCell) :
    ∃ fd : FuncData, (∀ (s : Shared) (u : Value), BindsTo s fd ⟨[u], []⟩ [("_law_script", u)]) ∧ ∃ (c : Ct) (F : List D → O D), c.K = K ∧ (∀ ns : List Int, ns.length ≤ 63 → F [.lst (ns.map .int)] = .ok (.bl true)) ∧ ∀ base : Heap, FnOk P w K mg base (L2N.CX P w) 11 fa fd ["_law_script"] (spP c .fz F) := by
  letI ex : Exs := ⟨0, e_NoLand, e_NoHeight, e_NoCell, e_NoDrain, 0, 0⟩
  obtain ⟨f, fd, F, hm, hb⟩ := f_law.ex
  have e := hfa.symm.trans hm
  cases e
  refine ⟨fd, fun s u => ?_, ⟨K, CL, CP⟩, F_law, rfl, law_true, fun base => ?_⟩
  · obtain ⟨oc, od, kV, doc, pm, an, cdv, ct, osl, rfl, lk, hcd⟩ := F.ex
    exact .of_eq rfl
  have d_law_size := d_law_size (P := P) (w := w) (base := base) (c := ⟨K, CL, CP⟩) rfl bn f_law_size lk pk
  have d_law_cell_at := d_law_cell_at (P := P) (w := w) (base := base) (c := ⟨K, CL, CP⟩) rfl bn f_law_cell_at lk pk
  have d_law_number := d_law_number (P := P) (w := w) (base := base) (c := ⟨K, CL, CP⟩) rfl bn f_law_number lk pk d_law_cell_at
  have d_law_height_by := d_law_height_by (P := P) (w := w) (base := base) (c := ⟨K, CL, CP⟩) rfl bn f_law_height_by lk pk
  have d_law_grid := d_law_grid (P := P) (w := w) (base := base) (c := ⟨K, CL, CP⟩) rfl bn f_law_grid lk pk d_law_size d_law_cell_at d_law_number d_law_height_by
  have d_law_drains := d_law_drains (P := P) (w := w) (base := base) (c := ⟨K, CL, CP⟩) rfl bn f_law_drains lk pk d_law_cell_at
  have d_is_whole := d_is_whole (P := P) (w := w) (base := base) (c := ⟨K, CL, CP⟩) rfl bn f_is_whole lk pk
  have d_is_height := d_is_height (P := P) (w := w) (base := base) (c := ⟨K, CL, CP⟩) rfl bn f_is_height lk pk d_is_whole c_MOST_HEIGHT
  have d_Land_init := d_Land_init (P := P) (w := w) (base := base) (c := ⟨K, CL, CP⟩) rfl bn f_Land_init lk pk d_is_height c_MOST_SIDE x_NoLand x_NoHeight
  have d_lies_in := d_lies_in (P := P) (w := w) (base := base) (c := ⟨K, CL, CP⟩) rfl bn f_lies_in lk pk d_is_whole
  have d_Land_need := d_Land_need (P := P) (w := w) (base := base) (c := ⟨K, CL, CP⟩) rfl bn f_Land_need lk pk d_lies_in x_NoCell
  have d_Land_opened := d_Land_opened (P := P) (w := w) (base := base) (c := ⟨K, CL, CP⟩) rfl bn f_Land_opened lk pk d_Land_need x_NoDrain
  have d_Pile_init := d_Pile_init (P := P) (w := w) (base := base) (c := ⟨K, CL, CP⟩) rfl bn f_Pile_init lk pk
  have d_all_cells := d_all_cells (P := P) (w := w) (base := base) (c := ⟨K, CL, CP⟩) rfl bn f_all_cells lk pk
  have d_Land_is_drain := d_Land_is_drain (P := P) (w := w) (base := base) (c := ⟨K, CL, CP⟩) rfl bn f_Land_is_drain lk pk d_Land_need
  have d_Land_drains := d_Land_drains (P := P) (w := w) (base := base) (c := ⟨K, CL, CP⟩) rfl bn f_Land_drains lk pk d_all_cells d_Land_is_drain
  have d_Pile_put := d_Pile_put (P := P) (w := w) (base := base) (c := ⟨K, CL, CP⟩) rfl bn f_Pile_put lk pk
  have d_Land_height := d_Land_height (P := P) (w := w) (base := base) (c := ⟨K, CL, CP⟩) rfl bn f_Land_height lk pk d_Land_need
  have d_Pile_many := d_Pile_many (P := P) (w := w) (base := base) (c := ⟨K, CL, CP⟩) rfl bn f_Pile_many lk pk
  have d_Pile_sink := d_Pile_sink (P := P) (w := w) (base := base) (c := ⟨K, CL, CP⟩) rfl bn f_Pile_sink lk pk
  have d_Pile_take := d_Pile_take (P := P) (w := w) (base := base) (c := ⟨K, CL, CP⟩) rfl bn f_Pile_take lk pk d_Pile_sink
  have d_beside := d_beside (P := P) (w := w) (base := base) (c := ⟨K, CL, CP⟩) rfl bn f_beside lk pk d_lies_in
  have d_spread := d_spread (P := P) (w := w) (base := base) (c := ⟨K, CL, CP⟩) rfl bn f_spread lk pk d_Pile_init d_Land_drains d_Pile_put d_Land_height d_Pile_many d_Pile_take d_Land_is_drain d_beside
  have d_depths := d_depths (P := P) (w := w) (base := base) (c := ⟨K, CL, CP⟩) rfl bn f_depths lk pk d_spread d_all_cells d_Land_height
  have d_pools := d_pools (P := P) (w := w) (base := base) (c := ⟨K, CL, CP⟩) rfl bn f_pools lk pk d_depths d_all_cells d_beside
  have d_volume := d_volume (P := P) (w := w) (base := base) (c := ⟨K, CL, CP⟩) rfl bn f_volume lk pk d_depths
  have d_law_asked := d_law_asked (P := P) (w := w) (base := base) (c := ⟨K, CL, CP⟩) rfl bn f_law_asked lk pk d_depths d_pools d_volume
  have d_Land_shut := d_Land_shut (P := P) (w := w) (base := base) (c := ⟨K, CL, CP⟩) rfl bn f_Land_shut lk pk d_Land_need d_Land_is_drain x_NoDrain
  have d_Land_raised := d_Land_raised (P := P) (w := w) (base := base) (c := ⟨K, CL, CP⟩) rfl bn f_Land_raised lk pk d_Land_need d_is_height x_NoHeight
  have d_law_land := d_law_land (P := P) (w := w) (base := base) (c := ⟨K, CL, CP⟩) rfl bn f_law_land lk pk d_Land_init d_Land_opened d_law_asked d_Land_shut d_Land_raised
  have d_law_beside := d_law_beside (P := P) (w := w) (base := base) (c := ⟨K, CL, CP⟩) rfl bn f_law_beside lk pk
  have d_law_least_beside := d_law_least_beside (P := P) (w := w) (base := base) (c := ⟨K, CL, CP⟩) rfl bn f_law_least_beside lk pk d_law_beside
  have d_law_levels := d_law_levels (P := P) (w := w) (base := base) (c := ⟨K, CL, CP⟩) rfl bn f_law_levels lk pk d_law_least_beside
  have d_law_whole := d_law_whole (P := P) (w := w) (base := base) (c := ⟨K, CL, CP⟩) rfl bn f_law_whole lk pk
  have d_law_same_depths := d_law_same_depths (P := P) (w := w) (base := base) (c := ⟨K, CL, CP⟩) rfl bn f_law_same_depths lk pk d_law_whole
  have d_law_pool := d_law_pool (P := P) (w := w) (base := base) (c := ⟨K, CL, CP⟩) rfl bn f_law_pool lk pk d_law_beside
  have d_law_pools := d_law_pools (P := P) (w := w) (base := base) (c := ⟨K, CL, CP⟩) rfl bn f_law_pools lk pk d_law_pool
  have d_law_same_cells := d_law_same_cells (P := P) (w := w) (base := base) (c := ⟨K, CL, CP⟩) rfl bn f_law_same_cells lk pk d_law_whole
  have d_Land_heights := d_Land_heights (P := P) (w := w) (base := base) (c := ⟨K, CL, CP⟩) rfl bn f_Land_heights lk pk
  exact d_law rfl bn F lk pk d_law_grid d_law_drains d_law_land d_law_levels d_depths d_law_same_depths d_volume d_law_whole d_pools d_law_pools d_law_same_cells d_Land_heights d_Land_drains
end Pg
open PySem PySem.W PyProof.Rows
set_option maxRecDepth 100000 in
set_option maxHeartbeats 0 in
theorem PySem.Challenge.cw_basin_k10_pools_and_depths_holds : PySem.Challenge.rw_basin_k10_pools_and_depths.Holds := by
  w_on; o_law; k_head; (case hw => w_witness2)
  k_fill
  refine VS.walk_law (l := PySem.Challenge.rw_basin_k10_pools_and_depths) (lv := 11) rfl rfl (by decide) (by decide) (fun w h Y => PySem.W.kIn_of Y) ?F
  case F =>
    intro w mg fa h KX G hmg
    refine' Pg.fin hmg ⟨(PySem.W.mg_none_of KX G ?b0), (PySem.W.mg_none_of KX G ?b1), (PySem.W.mg_none_of KX G ?b2), (PySem.W.mg_none_of KX G ?b3), (PySem.W.mg_none_of KX G ?b4), (PySem.W.mg_none_of KX G ?b5), (PySem.W.mg_none_of KX G ?b6), (PySem.W.mg_none_of KX G ?b7), (PySem.W.mg_none_of KX G ?b8), (PySem.W.mg_none_of KX G ?b9), (PySem.W.mg_none_of KX G ?b10), (PySem.W.mg_none_of KX G ?b11), (PySem.W.mg_none_of KX G ?b12), (PySem.W.mg_none_of KX G ?b13), (PySem.W.mg_none_of KX G ?b14), (PySem.W.mg_none_of KX G ?b15), (PySem.W.mg_none_of KX G ?b16), (PySem.W.mg_none_of KX G ?b17)⟩
      (VS.landK_mk ?Lpg ?Lhd ?Lpo ?Lsa ?Lg ?Lr ?Lc ?Lo)
      (VS.pileK_mk ?Ppg ?Phd ?Ppo ?Psa ?Pw)
      (VS.fact_mk KX G (fun F => F.binds fun _ _ _ _ _ _ us hl => match us, hl with | [_], _ => rfl) ?a0 ?l0 ?c0 ?k0)
      (VS.fact_mk KX G (fun F => F.binds fun _ _ _ _ _ _ us hl => match us, hl with | [_, _], _ => rfl) ?a1 ?l1 ?c1 ?k1)
      (VS.fact_mk KX G (fun F => F.binds fun _ _ _ _ _ _ us hl => match us, hl with | [_, _], _ => rfl) ?a2 ?l2 ?c2 ?k2)
      (VS.fact_mk KX G (fun F => F.binds fun _ _ _ _ _ _ us hl => match us, hl with | [_, _], _ => rfl) ?a3 ?l3 ?c3 ?k3)
      (VS.fact_mk KX G (fun F => F.binds fun _ _ _ _ _ _ us hl => match us, hl with | [_], _ => rfl) ?a4 ?l4 ?c4 ?k4)
      (VS.fact_mk KX G (fun F => F.binds fun _ _ _ _ _ _ us hl => match us, hl with | [_, _], _ => rfl) ?a5 ?l5 ?c5 ?k5)
      (VS.fact_mk KX G (fun F => F.binds fun _ _ _ _ _ _ us hl => match us, hl with | [_], _ => rfl) ?a6 ?l6 ?c6 ?k6)
      (VS.fact_mk KX G (fun F => F.binds fun _ _ _ _ _ _ us hl => match us, hl with | [_], _ => rfl) ?a7 ?l7 ?c7 ?k7)
      (VS.factI_mk (fun F => F.binds fun _ _ _ _ _ _ us hl => match us, hl with | [_, _], _ => rfl) (PySem.W.mg_of KX G ?g8) ?mk8 ?a8 ?i8 ?kc8 ?l8 ?c8 ?k8)
      (VS.fact_mk KX G (fun F => F.binds fun _ _ _ _ _ _ us hl => match us, hl with | [_, _, _], _ => rfl) ?a9 ?l9 ?c9 ?k9)
      (VS.factM_mk (fun F => F.binds fun _ _ _ _ _ _ us hl => match us, hl with | [_, _], _ => rfl) ?a10 ?i10 ?l10 ?c10 ?k10)
      (VS.factM_mk (fun F => F.binds fun _ _ _ _ _ _ us hl => match us, hl with | [_, _], _ => rfl) ?a11 ?i11 ?l11 ?c11 ?k11)
      (VS.factI_mk (fun F => F.binds fun _ _ _ _ _ _ us hl => match us, hl with | [_], _ => rfl) (PySem.W.mg_of KX G ?g12) ?mk12 ?a12 ?i12 ?kc12 ?l12 ?c12 ?k12)
      (VS.fact_mk KX G (fun F => F.binds fun _ _ _ _ _ _ us hl => match us, hl with | [_, _], _ => rfl) ?a13 ?l13 ?c13 ?k13)
      (VS.factM_mk (fun F => F.binds fun _ _ _ _ _ _ us hl => match us, hl with | [_, _], _ => rfl) ?a14 ?i14 ?l14 ?c14 ?k14)
      (VS.factM_mk (fun F => F.binds fun _ _ _ _ _ _ us hl => match us, hl with | [_], _ => rfl) ?a15 ?i15 ?l15 ?c15 ?k15)
      (VS.factM_mk (fun F => F.binds fun _ _ _ _ _ _ us hl => match us, hl with | [_, _], _ => rfl) ?a16 ?i16 ?l16 ?c16 ?k16)
      (VS.factM_mk (fun F => F.binds fun _ _ _ _ _ _ us hl => match us, hl with | [_, _], _ => rfl) ?a17 ?i17 ?l17 ?c17 ?k17)
      (VS.factM_mk (fun F => F.binds fun _ _ _ _ _ _ us hl => match us, hl with | [_], _ => rfl) ?a18 ?i18 ?l18 ?c18 ?k18)
      (VS.factM_mk (fun F => F.binds fun _ _ _ _ _ _ us hl => match us, hl with | [_], _ => rfl) ?a19 ?i19 ?l19 ?c19 ?k19)
      (VS.factM_mk (fun F => F.binds fun _ _ _ _ _ _ us hl => match us, hl with | [_], _ => rfl) ?a20 ?i20 ?l20 ?c20 ?k20)
      (VS.fact_mk KX G (fun F => F.binds fun _ _ _ _ _ _ us hl => match us, hl with | [_, _, _], _ => rfl) ?a21 ?l21 ?c21 ?k21)
      (VS.fact_mk KX G (fun F => F.binds fun _ _ _ _ _ _ us hl => match us, hl with | [_], _ => rfl) ?a22 ?l22 ?c22 ?k22)
      (VS.fact_mk KX G (fun F => F.binds fun _ _ _ _ _ _ us hl => match us, hl with | [_], _ => rfl) ?a23 ?l23 ?c23 ?k23)
      (VS.fact_mk KX G (fun F => F.binds fun _ _ _ _ _ _ us hl => match us, hl with | [_], _ => rfl) ?a24 ?l24 ?c24 ?k24)
      (VS.fact_mk KX G (fun F => F.binds fun _ _ _ _ _ _ us hl => match us, hl with | [_], _ => rfl) ?a25 ?l25 ?c25 ?k25)
      (VS.fact_mk KX G (fun F => F.binds fun _ _ _ _ _ _ us hl => match us, hl with | [_], _ => rfl) ?a26 ?l26 ?c26 ?k26)
      (VS.factM_mk (fun F => F.binds fun _ _ _ _ _ _ us hl => match us, hl with | [_, _], _ => rfl) ?a27 ?i27 ?l27 ?c27 ?k27)
      (VS.factM_mk (fun F => F.binds fun _ _ _ _ _ _ us hl => match us, hl with | [_, _, _], _ => rfl) ?a28 ?i28 ?l28 ?c28 ?k28)
      (VS.fact_mk KX G (fun F => F.binds fun _ _ _ _ _ _ us hl => match us, hl with | [_, _], _ => rfl) ?a29 ?l29 ?c29 ?k29)
      (VS.fact_mk KX G (fun F => F.binds fun _ _ _ _ _ _ us hl => match us, hl with | [_, _], _ => rfl) ?a30 ?l30 ?c30 ?k30)
      (VS.fact_mk KX G (fun F => F.binds fun _ _ _ _ _ _ us hl => match us, hl with | [_, _, _], _ => rfl) ?a31 ?l31 ?c31 ?k31)
      (VS.fact_mk KX G (fun F => F.binds fun _ _ _ _ _ _ us hl => match us, hl with | [_, _], _ => rfl) ?a32 ?l32 ?c32 ?k32)
      (VS.fact_mk KX G (fun F => F.binds fun _ _ _ _ _ _ us hl => match us, hl with | [_], _ => rfl) ?a33 ?l33 ?c33 ?k33)
      (VS.fact_mk KX G (fun F => F.binds fun _ _ _ _ _ _ us hl => match us, hl with | [_, _], _ => rfl) ?a34 ?l34 ?c34 ?k34)
      (VS.fact_mk KX G (fun F => F.binds fun _ _ _ _ _ _ us hl => match us, hl with | [_, _, _], _ => rfl) ?a35 ?l35 ?c35 ?k35)
      (VS.fact_mk KX G (fun F => F.binds fun _ _ _ _ _ _ us hl => match us, hl with | [_, _], _ => rfl) ?a36 ?l36 ?c36 ?k36)
      (VS.fact_mk KX G (fun F => F.binds fun _ _ _ _ _ _ us hl => match us, hl with | [_, _], _ => rfl) ?a37 ?l37 ?c37 ?k37)
      (VS.factM_mk (fun F => F.binds fun _ _ _ _ _ _ us hl => match us, hl with | [_], _ => rfl) ?a38 ?i38 ?l38 ?c38 ?k38)
      (VS.fact_mk KX G (fun F => F.binds fun _ _ _ _ _ _ us hl => match us, hl with | [_], _ => rfl) ?a39 ?l39 ?c39 ?k39)
      (PySem.W.mg_of KX G ?m0)
      (PySem.W.mg_of KX G ?m1)
      ⟨PySem.W.mg_of KX G ?eg0, ?eq0, ?ek0, ?eb0, ?et0⟩
      ⟨PySem.W.mg_of KX G ?eg1, ?eq1, ?ek1, ?eb1, ?et1⟩
      ⟨PySem.W.mg_of KX G ?eg2, ?eq2, ?ek2, ?eb2, ?et2⟩
      ⟨PySem.W.mg_of KX G ?eg3, ?eq3, ?ek3, ?eb3, ?et3⟩
    (case g8 => k_is)
    (case g12 => k_is)
    (case b0 => k_is)
    (case b1 => k_is)
    (case b2 => k_is)
    (case b3 => k_is)
    (case b4 => k_is)
    (case b5 => k_is)
    (case b6 => k_is)
    (case b7 => k_is)
    (case b8 => k_is)
    (case b9 => k_is)
    (case b10 => k_is)
    (case b11 => k_is)
    (case b12 => k_is)
    (case b13 => k_is)
    (case b14 => k_is)
    (case b15 => k_is)
    (case b16 => k_is)
    (case b17 => k_is)
    (case a0 => k_is)
    (case l0 => k_is)
    (case c0 => k_is)
    (case k0 => k_is)
    (case a1 => k_is)
    (case l1 => k_is)
    (case c1 => k_is)
    (case k1 => k_is)
    (case a2 => k_is)
    (case l2 => k_is)
    (case c2 => k_is)
    (case k2 => k_is)
    (case a3 => k_is)
    (case l3 => k_is)
    (case c3 => k_is)
    (case k3 => k_is)
    (case a4 => k_is)
    (case l4 => k_is)
    (case c4 => k_is)
    (case k4 => k_is)
    (case a5 => k_is)
    (case l5 => k_is)
    (case c5 => k_is)
    (case k5 => k_is)
    (case a6 => k_is)
    (case l6 => k_is)
    (case c6 => k_is)
    (case k6 => k_is)
    (case a7 => k_is)
    (case l7 => k_is)
    (case c7 => k_is)
    (case k7 => k_is)
    (case mk8 => k_is)
    (case a8 => k_is)
    (case i8 => k_is)
    (case kc8 => k_is)
    (case l8 => k_is)
    (case c8 => k_is)
    (case k8 => k_is)
    (case a9 => k_is)
    (case l9 => k_is)
    (case c9 => k_is)
    (case k9 => k_is)
    (case a10 => k_is)
    (case i10 => k_is)
    (case l10 => k_is)
    (case c10 => k_is)
    (case k10 => k_is)
    (case a11 => k_is)
    (case i11 => k_is)
    (case l11 => k_is)
    (case c11 => k_is)
    (case k11 => k_is)
    (case mk12 => k_is)
    (case a12 => k_is)
    (case i12 => k_is)
    (case kc12 => k_is)
    (case l12 => k_is)
    (case c12 => k_is)
    (case k12 => k_is)
    (case a13 => k_is)
    (case l13 => k_is)
    (case c13 => k_is)
    (case k13 => k_is)
    (case a14 => k_is)
    (case i14 => k_is)
    (case l14 => k_is)
    (case c14 => k_is)
    (case k14 => k_is)
    (case a15 => k_is)
    (case i15 => k_is)
    (case l15 => k_is)
    (case c15 => k_is)
    (case k15 => k_is)
    (case a16 => k_is)
    (case i16 => k_is)
    (case l16 => k_is)
    (case c16 => k_is)
    (case k16 => k_is)
    (case a17 => k_is)
    (case i17 => k_is)
    (case l17 => k_is)
    (case c17 => k_is)
    (case k17 => k_is)
    (case a18 => k_is)
    (case i18 => k_is)
    (case l18 => k_is)
    (case c18 => k_is)
    (case k18 => k_is)
    (case a19 => k_is)
    (case i19 => k_is)
    (case l19 => k_is)
    (case c19 => k_is)
    (case k19 => k_is)
    (case a20 => k_is)
    (case i20 => k_is)
    (case l20 => k_is)
    (case c20 => k_is)
    (case k20 => k_is)
    (case a21 => k_is)
    (case l21 => k_is)
    (case c21 => k_is)
    (case k21 => k_is)
    (case a22 => k_is)
    (case l22 => k_is)
    (case c22 => k_is)
    (case k22 => k_is)
    (case a23 => k_is)
    (case l23 => k_is)
    (case c23 => k_is)
    (case k23 => k_is)
    (case a24 => k_is)
    (case l24 => k_is)
    (case c24 => k_is)
    (case k24 => k_is)
    (case a25 => k_is)
    (case l25 => k_is)
    (case c25 => k_is)
    (case k25 => k_is)
    (case a26 => k_is)
    (case l26 => k_is)
    (case c26 => k_is)
    (case k26 => k_is)
    (case a27 => k_is)
    (case i27 => k_is)
    (case l27 => k_is)
    (case c27 => k_is)
    (case k27 => k_is)
    (case a28 => k_is)
    (case i28 => k_is)
    (case l28 => k_is)
    (case c28 => k_is)
    (case k28 => k_is)
    (case a29 => k_is)
    (case l29 => k_is)
    (case c29 => k_is)
    (case k29 => k_is)
    (case a30 => k_is)
    (case l30 => k_is)
    (case c30 => k_is)
    (case k30 => k_is)
    (case a31 => k_is)
    (case l31 => k_is)
    (case c31 => k_is)
    (case k31 => k_is)
    (case a32 => k_is)
    (case l32 => k_is)
    (case c32 => k_is)
    (case k32 => k_is)
    (case a33 => k_is)
    (case l33 => k_is)
    (case c33 => k_is)
    (case k33 => k_is)
    (case a34 => k_is)
    (case l34 => k_is)
    (case c34 => k_is)
    (case k34 => k_is)
    (case a35 => k_is)
    (case l35 => k_is)
    (case c35 => k_is)
    (case k35 => k_is)
    (case a36 => k_is)
    (case l36 => k_is)
    (case c36 => k_is)
    (case k36 => k_is)
    (case a37 => k_is)
    (case l37 => k_is)
    (case c37 => k_is)
    (case k37 => k_is)
    (case a38 => k_is)
    (case i38 => k_is)
    (case l38 => k_is)
    (case c38 => k_is)
    (case k38 => k_is)
    (case a39 => k_is)
    (case l39 => k_is)
    (case c39 => k_is)
    (case k39 => k_is)
    (case Lpg => k_is)
    (case Lhd => k_is)
    (case Lpo => k_is)
    (case Lsa => k_is)
    (case Lg => k_is)
    (case Lr => k_is)
    (case Lc => k_is)
    (case Lo => k_is)
    (case Ppg => k_is)
    (case Phd => k_is)
    (case Ppo => k_is)
    (case Psa => k_is)
    (case Pw => k_is)
    (case m0 => k_is)
    (case m1 => k_is)
    (case eg0 => k_is)
    (case eq0 => k_exc)
    (case ek0 => k_is)
    (case eb0 => k_is)
    (case et0 => k_is)
    (case eg1 => k_is)
    (case eq1 => k_exc)
    (case ek1 => k_is)
    (case eb1 => k_is)
    (case et1 => k_is)
    (case eg2 => k_is)
    (case eq2 => k_exc)
    (case ek2 => k_is)
    (case eb2 => k_is)
    (case et2 => k_is)
    (case eg3 => k_is)
    (case eq3 => k_exc)
    (case ek3 => k_is)
    (case eb3 => k_is)
    (case et3 => k_is)
