import PyProof.Rows.All
import Wide.All
import OpenK.AllK
import Wide.FinOn
import HandS.ForMost
import HandS.ForExc
import HandS.IsInst
import HandS.Walk
import HandS.Style
import HandS.Deep
import HandS.TupLen
import PySem.Challenge.RW_basin_k01_what_lies_beside
set_option Elab.async false
set_option linter.all false
set_option maxRecDepth 100000
set_option maxHeartbeats 2000000
/-! VA: data without addresses (D), how they lie in the abstract heap (Is, Own), and the plain meaning of expressions. -/
namespace VS
open PySem L2

/-- a land, told by its rows and its table of drains -/
structure LandD where
  g : List (List (Option Int))
  o : List (List Key × Bool)

/-- data -/
inductive D where
  | non
  | bl (b : Bool)
  | int (i : Int)
  | str (s : Str)
  | lst (l : List D)
  | tup (l : List D)
  | dct (m : List (List Key × D))
  | land (L : LandD)
  | pile (l : List D)

/-- outcomes -/
inductive O (α : Type) where
  | bad
  | exc (k : Value)
  | ok (a : α)
def O.bind {α β : Type} (x : O α) (f : α → O β) : O β := match x with
  | .bad => .bad
  | .exc k => .exc k
  | .ok a => f a
@[simp] theorem O.bind_ok {α β : Type} (a : α) (f : α → O β) : (O.ok a).bind f = f a := rfl
@[simp] theorem O.bind_bad {α β : Type} (f : α → O β) : (O.bad : O α).bind f = .bad := rfl
@[simp] theorem O.bind_exc {α β : Type} (k : Value) (f : α → O β) : (O.exc k : O α).bind f = .exc k := rfl

/-- what is wanted of an outcome -/
def Po {α : Type} (r : O α) (P : α → Prop) (E : Value → Prop) : Prop := match r with
  | .bad => False
  | .exc k => E k
  | .ok a => P a
theorem Po.bind {α β : Type} {r : O α} {f : α → O β} {P : β → Prop} {E : Value → Prop} (h : Po (r.bind f) P E) : Po r (fun a => Po (f a) P E) E := by
  cases r with
  | bad => exact h
  | exc k => exact h
  | ok a => exact h
theorem Po.imp {α : Type} {r : O α} {P P' : α → Prop} {E E' : Value → Prop} (h : Po r P E) (hp : ∀ a, r = .ok a → P a → P' a) (he : ∀ k, r = .exc k → E k → E' k) : Po r P' E' := by
  cases r with
  | bad => exact h
  | exc k => exact he k rfl h
  | ok a => exact hp a rfl h
/-- a condition of the meaning -/
def gd {α : Type} (b : Bool) (x : O α) : O α := bif b then x else .bad
@[simp] theorem gd_true {α : Type} (x : O α) : gd true x = x := rfl
@[simp] theorem gd_false {α : Type} (x : O α) : gd false x = .bad := rfl
theorem Po.gd {α : Type} {b : Bool} {x : O α} {P : α → Prop} {E : Value → Prop} (h : Po (gd b x) P E) : b = true ∧ Po x P E := by
  cases b with
  | true => exact ⟨rfl, h⟩
  | false => exact h.elim
def ofO {α : Type} : Option α → O α
  | some a => .ok a
  | none => .bad
@[simp] theorem ofO_some {α : Type} (a : α) : ofO (some a) = .ok a := rfl
@[simp] theorem ofO_none {α : Type} : ofO (none : Option α) = .bad := rfl
theorem Po.ofO {α : Type} {o : Option α} {P : α → Prop} {E : Value → Prop} (h : Po (ofO o) P E) : ∃ a, o = some a ∧ P a := by
  cases o with
  | some a => exact ⟨a, rfl, h⟩
  | none => exact h.elim
theorem Po.ok {α : Type} {a : α} {P : α → Prop} {E : Value → Prop} (h : P a) : Po (.ok a) P E := h

structure Ct where
  K : PySem.W.Frag
  CL : Addr
  CP : Addr

/-- objects that never change -/
def sta : HO → Prop
  | .tup _ => True
  | .frz _ _ => True
  | _ => False

def hV : Option Int → V
  | none => .non
  | some i => .int i
def rowV (r : List (Option Int)) : List V := r.map hV
/-- a list of the written part -/
def KL (K : PySem.W.Frag) (a : Addr) (xs : List V) : Prop :=
  ∃ (o : Obj) (its : Array Value) (n : Nat), K.lookup a = some o ∧ o.cls = .type "list" ∧ o.dict = none ∧ o.data = .seq its n ∧ its.size ≤ sizeLine ∧ Vals xs its.toList

def landF (L : LandD) (g od : Addr) : List (Str × V) :=
  [("grid", .ref g), ("rows", .int L.g.length), ("columns", .int (L.g.headD []).length), ("open_at", .ref od)]
/-- a land at a, its objects F -/
def LandAt (c : Ct) (H : Hp) (a : Addr) (L : LandD) (F : List Addr) : Prop :=
  ∃ (dx g od : Addr) (rs : List Addr), H a = some (.ins c.CL dx (landF L g od)) ∧ H g = some (.lst (rs.map V.ref)) ∧ H od = some (.dT (L.o.map fun p => (p.1, V.bl p.2))) ∧
    Paired (fun r row => H r = some (.lst (rowV row))) rs L.g ∧ F = a :: g :: od :: rs

mutual
/-- v is the datum d in H; what can change of it lies in W -/
inductive Is (c : Ct) (W : Addr → Prop) (H : Hp) : V → D → Prop
  | non : Is c W H .non .non
  | bl (b : Bool) : Is c W H (.bl b) (.bl b)
  | int (i : Int) : Is c W H (.int i) (.int i)
  | str (x : Str) : Is c W H (.str x) (.str x)
  | lst {a : Addr} {xs : List V} {ds : List D} : W a → Rd H a (.lst xs) → IsA c W H xs ds → Is c W H (.ref a) (.lst ds)
  | lstK {a : Addr} {xs : List V} {ds : List D} : KL c.K a xs → IsA c W H xs ds → Is c W H (.ref a) (.lst ds)
  | tup {a : Addr} {xs : List V} {ds : List D} : H a = some (.tup xs) → IsA c W H xs ds → Is c W H (.ref a) (.tup ds)
  | dct {a : Addr} {ks : List (List Key)} {vs : List V} {ds : List D} : W a → H a = some (.dT (ks.zip vs)) → vs.length = ks.length → IsA c W H vs ds → Is c W H (.ref a) (.dct (ks.zip ds))
  | land {a : Addr} {L : LandD} {F : List Addr} : LandAt c H a L F → (∀ x ∈ F, W x) → Is c W H (.ref a) (.land L)
  | pile {a dx r : Addr} {xs : List V} {ds : List D} : W a → W r → H a = some (.ins c.CP dx [("row", .ref r)]) → H r = some (.lst xs) → IsA c W H xs ds → Is c W H (.ref a) (.pile ds)
inductive IsA (c : Ct) (W : Addr → Prop) (H : Hp) : List V → List D → Prop
  | nil : IsA c W H [] []
  | cons {v : V} {vs : List V} {d : D} {ds : List D} : Is c W H v d → IsA c W H vs ds → IsA c W H (v :: vs) (d :: ds)
end

section
variable {c : Ct} {W W' : Addr → Prop} {H H' : Hp}
theorem Rd.carry {a : Addr} {xs : List V} (k : ∀ a o, (W a ∨ sta o) → H a = some o → H' a = some o) (w : W a) (h : Rd H a (.lst xs)) : Rd H' a (.lst xs) := by
  rcases h with h | ⟨o, h⟩
  · exact .inl (k _ _ (.inl w) h)
  · exact .inr ⟨o, k _ _ (.inl w) h⟩
theorem LandAt.carry {a : Addr} {L : LandD} {F : List Addr} (h : LandAt c H a L F) (k : ∀ x ∈ F, ∀ o, H x = some o → H' x = some o) : LandAt c H' a L F := by
  obtain ⟨dx, g, od, rs, h1, h2, h3, h4, rfl⟩ := h
  refine ⟨dx, g, od, rs, k _ (by simp) _ h1, k _ (by simp) _ h2, k _ (by simp) _ h3, ?_, rfl⟩
  have : ∀ (rs : List Addr) (gg : List (List (Option Int))), (∀ x ∈ rs, ∀ o, H x = some o → H' x = some o) → Paired (fun r row => H r = some (.lst (rowV row))) rs gg → Paired (fun r row => H' r = some (.lst (rowV row))) rs gg := by
    intro rs gg hk hp
    induction hp with
    | nil => exact .nil
    | cons p t ih => exact .cons (hk _ (by simp) _ p) (ih fun x hx => hk x (by simp [hx]))
  exact this rs L.g (fun x hx => k x (by simp [hx])) h4
mutual
theorem Is.mono (w : ∀ a, W a → W' a) (k : ∀ a o, (W a ∨ sta o) → H a = some o → H' a = some o) : ∀ {v : V} {d : D}, Is c W H v d → Is c W' H' v d
  | _, _, .non => .non
  | _, _, .bl b => .bl b
  | _, _, .int i => .int i
  | _, _, .str x => .str x
  | _, _, .lst h1 h2 h3 => .lst (w _ h1) (Rd.carry k h1 h2) (IsA.mono w k h3)
  | _, _, .lstK h2 h3 => .lstK h2 (IsA.mono w k h3)
  | _, _, .tup h1 h2 => .tup (k _ _ (.inr trivial) h1) (IsA.mono w k h2)
  | _, _, .dct h1 h2 h3 h4 => .dct (w _ h1) (k _ _ (.inl h1) h2) h3 (IsA.mono w k h4)
  | _, _, .land h1 h2 => .land (h1.carry fun x hx o => k x o (.inl (h2 x hx))) fun x hx => w x (h2 x hx)
  | _, _, .pile h1 h2 h3 h4 h5 => .pile (w _ h1) (w _ h2) (k _ _ (.inl h1) h3) (k _ _ (.inl h2) h4) (IsA.mono w k h5)
theorem IsA.mono (w : ∀ a, W a → W' a) (k : ∀ a o, (W a ∨ sta o) → H a = some o → H' a = some o) : ∀ {vs : List V} {ds : List D}, IsA c W H vs ds → IsA c W' H' vs ds
  | _, _, .nil => .nil
  | _, _, .cons h t => .cons (Is.mono w k h) (IsA.mono w k t)
end
theorem IsA.length : ∀ {vs : List V} {ds : List D}, IsA c W H vs ds → vs.length = ds.length
  | _, _, .nil => rfl
  | _, _, .cons _ t => by simp [IsA.length t]
theorem IsA.get : ∀ {vs : List V} {ds : List D} {i : Nat} {v : V}, IsA c W H vs ds → vs[i]? = some v → ∃ d, ds[i]? = some d ∧ Is c W H v d
  | _, _, _, _, .nil, e => by simp at e
  | _, _, 0, v, .cons h _, e => by simp at e; subst e; exact ⟨_, rfl, h⟩
  | _, _, i + 1, v, .cons _ t, e => by
    obtain ⟨d, h1, h2⟩ := IsA.get (i := i) (v := v) t (by simpa using e)
    exact ⟨d, by simpa using h1, h2⟩
theorem IsA.getD : ∀ {vs : List V} {ds : List D} {i : Nat} {d : D}, IsA c W H vs ds → ds[i]? = some d → ∃ v, vs[i]? = some v ∧ Is c W H v d
  | _, _, _, _, .nil, e => by simp at e
  | _, _, 0, d, .cons h _, e => by simp at e; subst e; exact ⟨_, rfl, h⟩
  | _, _, i + 1, d, .cons _ t, e => by
    obtain ⟨v, h1, h2⟩ := IsA.getD (i := i) (d := d) t (by simpa using e)
    exact ⟨v, by simpa using h1, h2⟩
theorem IsA.append : ∀ {vs us : List V} {ds es : List D}, IsA c W H vs ds → IsA c W H us es → IsA c W H (vs ++ us) (ds ++ es)
  | _, _, _, _, .nil, h => h
  | _, _, _, _, .cons h t, h' => .cons h (IsA.append t h')
theorem IsA.take (n : Nat) : ∀ {vs : List V} {ds : List D}, IsA c W H vs ds → IsA c W H (vs.take n) (ds.take n) := by
  induction n with
  | zero => intro vs ds _; exact .nil
  | succ n ih =>
    intro vs ds h
    cases h with
    | nil => exact .nil
    | cons h t => exact .cons h (ih t)
theorem IsA.drop (n : Nat) : ∀ {vs : List V} {ds : List D}, IsA c W H vs ds → IsA c W H (vs.drop n) (ds.drop n) := by
  induction n with
  | zero => intro vs ds h; exact h
  | succ n ih =>
    intro vs ds h
    cases h with
    | nil => exact .nil
    | cons h t => exact ih t
theorem IsA.set {v : V} {d : D} (hv : Is c W H v d) : ∀ {vs : List V} {ds : List D} (i : Nat), IsA c W H vs ds → IsA c W H (vs.set i v) (ds.set i d)
  | _, _, _, .nil => .nil
  | _, _, 0, .cons _ t => .cons hv t
  | _, _, i + 1, .cons h t => .cons h (IsA.set hv i t)
theorem IsA.all_mono : ∀ {vs : List V} {ds : List D}, (∀ v d, d ∈ ds → Is c W H v d → Is c W' H' v d) → IsA c W H vs ds → IsA c W' H' vs ds
  | _, _, _, .nil => .nil
  | _, _, f, .cons h t => .cons (f _ _ (by simp) h) (IsA.all_mono (fun v d hd => f v d (by simp [hd])) t)
end

/-! ### what never changes -/
mutual
def D.imm : D → Bool
  | .non => true
  | .bl _ => true
  | .int _ => true
  | .str _ => true
  | .tup l => immA l
  | .lst _ => false
  | .dct _ => false
  | .land _ => false
  | .pile _ => false
def immA : List D → Bool
  | [] => true
  | d :: ds => d.imm && immA ds
end
@[simp] theorem imm_non : D.imm .non = true := by simp only [D.imm]
@[simp] theorem imm_bl (b) : D.imm (.bl b) = true := by simp only [D.imm]
@[simp] theorem imm_int (i) : D.imm (.int i) = true := by simp only [D.imm]
@[simp] theorem imm_str (s) : D.imm (.str s) = true := by simp only [D.imm]
@[simp] theorem imm_tup (l) : D.imm (.tup l) = immA l := by simp only [D.imm]
@[simp] theorem imm_lst (l) : D.imm (.lst l) = false := by simp only [D.imm]
@[simp] theorem imm_dct (l) : D.imm (.dct l) = false := by simp only [D.imm]
@[simp] theorem imm_land (l) : D.imm (.land l) = false := by simp only [D.imm]
@[simp] theorem imm_pile (l) : D.imm (.pile l) = false := by simp only [D.imm]
@[simp] theorem immA_nil : immA [] = true := by simp only [immA]
@[simp] theorem immA_cons (d ds) : immA (d :: ds) = (d.imm && immA ds) := by simp only [immA]
section
variable {c : Ct} {W W' : Addr → Prop} {H H' : Hp}
mutual
theorem Is.imm (k : ∀ a o, sta o → H a = some o → H' a = some o) {v : V} {d : D} (h : Is c W H v d) (e : d.imm = true) : Is c W' H' v d := by
  match h with
  | .non => exact .non
  | .bl b => exact .bl b
  | .int i => exact .int i
  | .str x => exact .str x
  | .tup h1 h2 => exact .tup (k _ _ trivial h1) (IsA.imm k h2 (by rw [imm_tup] at e; exact e))
  | .lst _ _ _ => rw [imm_lst] at e; cases e
  | .lstK _ _ => rw [imm_lst] at e; cases e
  | .dct _ _ _ _ => rw [imm_dct] at e; cases e
  | .land _ _ => rw [imm_land] at e; cases e
  | .pile _ _ _ _ _ => rw [imm_pile] at e; cases e
theorem IsA.imm (k : ∀ a o, sta o → H a = some o → H' a = some o) {vs : List V} {ds : List D} (h : IsA c W H vs ds) (e : immA ds = true) : IsA c W' H' vs ds := by
  match h with
  | .nil => exact .nil
  | .cons h t =>
    rw [immA_cons, Bool.and_eq_true] at e
    exact .cons (Is.imm k h e.1) (IsA.imm k t e.2)
end
end

section
variable {c : Ct} {W W' : Addr → Prop} {H H' : Hp}
mutual
/-- what can change of it stands in H -/
theorem Is.track : ∀ {v : V} {d : D}, Is c W H v d → Is c (fun a => W a ∧ H a ≠ none) H v d
  | _, _, .non => .non
  | _, _, .bl b => .bl b
  | _, _, .int i => .int i
  | _, _, .str x => .str x
  | _, _, .lst h1 h2 h3 => .lst ⟨h1, by rcases h2 with h | ⟨o, h⟩ <;> rw [h] <;> simp⟩ h2 (IsA.track h3)
  | _, _, .lstK h2 h3 => .lstK h2 (IsA.track h3)
  | _, _, .tup h1 h2 => .tup h1 (IsA.track h2)
  | _, _, .dct h1 h2 h3 h4 => .dct ⟨h1, by rw [h2]; simp⟩ h2 h3 (IsA.track h4)
  | _, _, .land h1 h2 => .land h1 fun x hx => ⟨h2 x hx, by
      obtain ⟨dx, g, od, rs, e1, e2, e3, e4, rfl⟩ := h1
      rcases (by simpa using hx : _ ∨ x = g ∨ x = od ∨ x ∈ rs) with e | e | e | e
      · rw [e, e1]; simp
      · rw [e, e2]; simp
      · rw [e, e3]; simp
      · have : ∀ {rs : List Addr} {gg : List (List (Option Int))}, Paired (fun r row => H r = some (.lst (rowV row))) rs gg → x ∈ rs → H x ≠ none := by
          intro rs gg p hm
          induction p with
          | nil => simp at hm
          | cons h t ih =>
            rcases List.mem_cons.mp hm with e | hm
            · rw [e, h]; simp
            · exact ih hm
        exact this e4 e⟩
  | _, _, .pile h1 h2 h3 h4 h5 => .pile ⟨h1, by rw [h3]; simp⟩ ⟨h2, by rw [h4]; simp⟩ h3 h4 (IsA.track h5)
theorem IsA.track : ∀ {vs : List V} {ds : List D}, IsA c W H vs ds → IsA c (fun a => W a ∧ H a ≠ none) H vs ds
  | _, _, .nil => .nil
  | _, _, .cons h t => .cons (Is.track h) (IsA.track t)
end
end

/-! ### data as the library's data -/
mutual
def toPy : D → PyData
  | .non => .none
  | .bl b => .bool b
  | .int i => .int i
  | .str s => .str s
  | .lst l => .list (toPyA l)
  | .tup l => .tuple (toPyA l)
  | .dct _ => .dict []
  | .land _ => .dict []
  | .pile _ => .dict []
def toPyA : List D → List PyData
  | [] => []
  | d :: ds => toPy d :: toPyA ds
end
@[simp] theorem toPy_non : toPy .non = .none := by simp only [toPy]
@[simp] theorem toPy_bl (b) : toPy (.bl b) = .bool b := by simp only [toPy]
@[simp] theorem toPy_int (b) : toPy (.int b) = .int b := by simp only [toPy]
@[simp] theorem toPy_str (b) : toPy (.str b) = .str b := by simp only [toPy]
@[simp] theorem toPy_lst (b) : toPy (.lst b) = .list (toPyA b) := by simp only [toPy]
@[simp] theorem toPy_tup (b) : toPy (.tup b) = .tuple (toPyA b) := by simp only [toPy]
@[simp] theorem toPy_dct (b) : toPy (.dct b) = .dict [] := by simp only [toPy]
@[simp] theorem toPy_land (b) : toPy (.land b) = .dict [] := by simp only [toPy]
@[simp] theorem toPy_pile (b) : toPy (.pile b) = .dict [] := by simp only [toPy]
theorem toPyA_map : ∀ l, toPyA l = l.map toPy
  | [] => by simp only [toPyA, List.map_nil]
  | d :: ds => by simp only [toPyA, List.map_cons, toPyA_map ds]
section
variable {c : Ct} {W W' : Addr → Prop} {H H' : Hp}
mutual
theorem Is.dp : ∀ {v : V} {d : D}, Is c W H v d → (toPy d).canLay0 = true → Dp c.K H v (toPy d)
  | _, _, .non, _ => by rw [toPy_non]; exact .non
  | _, _, .bl b, _ => by rw [toPy_bl]; exact .bl b
  | _, _, .int i, _ => by rw [toPy_int]; exact .int i
  | _, _, .str x, _ => by rw [toPy_str]; exact .str x
  | _, _, .lst h1 h2 h3, e => by
    rw [toPy_lst] at e ⊢
    simp only [PyData.canLay0] at e
    exact .lst (.inl h2) (IsA.dp h3 e)
  | _, _, .lstK h2 h3, e => by
    rw [toPy_lst] at e ⊢
    simp only [PyData.canLay0] at e
    exact .lst (.inr h2) (IsA.dp h3 e)
  | _, _, .tup h1 h2, e => by
    rw [toPy_tup] at e ⊢
    simp only [PyData.canLay0] at e
    exact .tup (.of h1) (IsA.dp h2 e)
  | _, _, .dct _ _ _ _, e => by rw [toPy_dct] at e; simp only [PyData.canLay0] at e; cases e
  | _, _, .land _ _, e => by rw [toPy_land] at e; simp only [PyData.canLay0] at e; cases e
  | _, _, .pile _ _ _ _ _, e => by rw [toPy_pile] at e; simp only [PyData.canLay0] at e; cases e
theorem IsA.dp : ∀ {vs : List V} {ds : List D}, IsA c W H vs ds → PyData.canLayAll0 (toPyA ds) = true → DpAll c.K H vs (toPyA ds)
  | _, _, .nil, _ => by simp only [toPyA]; exact .nil
  | _, _, .cons h t, e => by
    simp only [toPyA, PyData.canLayAll0, Bool.and_eq_true] at e ⊢
    exact .cons (Is.dp h e.1) (IsA.dp t e.2)
end
end

/-! ### what is owned -/
inductive Sh where
  | fz
  | l (s : Sh)
  | d
  | land
  | pile
  deriving DecidableEq
inductive P3 (P : V → D → List Addr → Prop) : List V → List D → List (List Addr) → Prop
  | nil : P3 P [] [] []
  | cons {v vs d ds F Fs} : P v d F → P3 P vs ds Fs → P3 P (v :: vs) (d :: ds) (F :: Fs)
/-- v is d, and the objects F are its own -/
def Own (c : Ct) (W : Addr → Prop) (H : Hp) : Sh → V → D → List Addr → Prop
  | .fz, v, d, F => F = [] ∧ Is c W H v d
  | .l s, v, d, F => ∃ (a : Addr) (xs : List V) (ds : List D) (Gs : List (List Addr)), v = .ref a ∧ d = .lst ds ∧ H a = some (.lst xs) ∧ P3 (Own c W H s) xs ds Gs ∧ F = a :: Gs.flatten
  | .d, v, d, F => ∃ (a : Addr) (ks : List (List Key)) (vs : List V) (ds : List D), v = .ref a ∧ d = .dct (ks.zip ds) ∧ H a = some (.dT (ks.zip vs)) ∧ vs.length = ks.length ∧ IsA c W H vs ds ∧ F = [a]
  | .land, v, d, F => ∃ (a : Addr) (L : LandD), v = .ref a ∧ d = .land L ∧ LandAt c H a L F
  | .pile, v, d, F => ∃ (a dx r : Addr) (xs : List V) (ds : List D), v = .ref a ∧ d = .pile ds ∧ H a = some (.ins c.CP dx [("row", .ref r)]) ∧ H r = some (.lst xs) ∧ IsA c W H xs ds ∧ F = [a, r]
section
variable {c : Ct} {W W' : Addr → Prop} {H H' : Hp} {P P' : V → D → List Addr → Prop}
theorem P3.imp : ∀ {vs ds Fs}, P3 P vs ds Fs → (∀ v d F, F ∈ Fs → P v d F → P' v d F) → P3 P' vs ds Fs
  | _, _, _, .nil, _ => .nil
  | _, _, _, .cons h t, f => .cons (f _ _ _ (by simp) h) (t.imp fun v d F hF => f v d F (by simp [hF]))
theorem P3.toA : ∀ {vs ds Fs}, P3 P vs ds Fs → (∀ v d F, F ∈ Fs → P v d F → Is c W H v d) → IsA c W H vs ds
  | _, _, _, .nil, _ => .nil
  | _, _, _, .cons h t, f => .cons (f _ _ _ (by simp) h) (t.toA fun v d F hF => f v d F (by simp [hF]))
theorem P3.length : ∀ {vs ds Fs}, P3 P vs ds Fs → vs.length = ds.length ∧ Fs.length = ds.length
  | _, _, _, .nil => ⟨rfl, rfl⟩
  | _, _, _, .cons _ t => by simp [t.length.1, t.length.2]
theorem P3.append : ∀ {vs ds Fs us es Gs}, P3 P vs ds Fs → P3 P us es Gs → P3 P (vs ++ us) (ds ++ es) (Fs ++ Gs)
  | _, _, _, _, _, _, .nil, h => h
  | _, _, _, _, _, _, .cons h t, h' => .cons h (t.append h')
theorem P3.get : ∀ {vs ds Fs} {i : Nat} {v : V}, P3 P vs ds Fs → vs[i]? = some v → ∃ d F, ds[i]? = some d ∧ Fs[i]? = some F ∧ P v d F
  | _, _, _, _, _, .nil, e => by simp at e
  | _, _, _, 0, v, .cons h _, e => by simp at e; subst e; exact ⟨_, _, rfl, rfl, h⟩
  | _, _, _, i + 1, v, .cons _ t, e => by
    obtain ⟨d, F, h1, h2, h3⟩ := P3.get (i := i) (v := v) t (by simpa using e)
    exact ⟨d, F, by simpa using h1, by simpa using h2, h3⟩
theorem P3.set {v : V} {d : D} {F : List Addr} (hv : P v d F) : ∀ {vs ds Fs} (i : Nat), P3 P vs ds Fs → P3 P (vs.set i v) (ds.set i d) (Fs.set i F)
  | _, _, _, _, .nil => .nil
  | _, _, _, 0, .cons _ t => .cons hv t
  | _, _, _, i + 1, .cons h t => .cons h (P3.set hv i t)
theorem IsA.toP3 : ∀ {vs ds}, IsA c W H vs ds → ∃ Gs, P3 (Own c W H .fz) vs ds Gs ∧ Gs.flatten = []
  | _, _, .nil => ⟨[], .nil, rfl⟩
  | _, _, .cons h t => by
    obtain ⟨Gs, h1, h2⟩ := IsA.toP3 t
    exact ⟨[] :: Gs, .cons ⟨rfl, h⟩ h1, by simpa using h2⟩
theorem P3.ofFz : ∀ {vs ds Fs}, P3 (Own c W H .fz) vs ds Fs → IsA c W H vs ds ∧ Fs.flatten = []
  | _, _, _, .nil => ⟨.nil, rfl⟩
  | _, _, _, .cons h t => ⟨.cons h.2 t.ofFz.1, by
    have e1 := h.1
    have e2 := t.ofFz.2
    subst e1
    simpa using e2⟩
theorem mem_flat {Gs : List (List Addr)} {G : List Addr} (h : G ∈ Gs) {x : Addr} (hx : x ∈ G) : x ∈ Gs.flatten := List.mem_flatten.mpr ⟨G, h, hx⟩
theorem Own.mono (w : ∀ a, W a → W' a) : ∀ {s : Sh} {v : V} {d : D} {F : List Addr}, (∀ a o, (W a ∨ a ∈ F ∨ sta o) → H a = some o → H' a = some o) → Own c W H s v d F → Own c W' H' s v d F
  | .fz, v, d, F, k, ⟨e, h⟩ => ⟨e, h.mono w fun a o x => k a o (x.elim .inl fun y => .inr (.inr y))⟩
  | .l s, v, d, F, k, ⟨a, xs, ds, Gs, e1, e2, h1, h2, e3⟩ => by
    subst e3
    refine ⟨a, xs, ds, Gs, e1, e2, k _ _ (.inr (.inl (by simp))) h1, h2.imp fun v d F hF h => ?_, rfl⟩
    exact Own.mono w (fun b o x => k b o (by
      rcases x with x | x | x
      · exact .inl x
      · exact .inr (.inl (List.mem_cons_of_mem _ (mem_flat hF x)))
      · exact .inr (.inr x))) h
  | .d, v, d, F, k, ⟨a, ks, vs, ds, e1, e2, h1, h2, h3, e3⟩ => by
    subst e3
    exact ⟨a, ks, vs, ds, e1, e2, k _ _ (.inr (.inl (by simp))) h1, h2, h3.mono w fun a o x => k a o (x.elim .inl fun y => .inr (.inr y)), rfl⟩
  | .land, v, d, F, k, ⟨a, L, e1, e2, h⟩ => ⟨a, L, e1, e2, h.carry fun x hx o => k x o (.inr (.inl hx))⟩
  | .pile, v, d, F, k, ⟨a, dx, r, xs, ds, e1, e2, h1, h2, h3, e3⟩ => by
    subst e3
    exact ⟨a, dx, r, xs, ds, e1, e2, k _ _ (.inr (.inl (by simp))) h1, k _ _ (.inr (.inl (by simp))) h2, h3.mono w fun a o x => k a o (x.elim .inl fun y => .inr (.inr y)), rfl⟩
/-- what is owned may be read -/
theorem Own.toIs (w : ∀ a, W a → W' a) : ∀ {s : Sh} {v : V} {d : D} {F : List Addr}, (∀ a ∈ F, W' a) → Own c W H s v d F → Is c W' H v d
  | .fz, v, d, F, k, ⟨e, h⟩ => h.mono w fun a o _ x => x
  | .l s, v, d, F, k, ⟨a, xs, ds, Gs, e1, e2, h1, h2, e3⟩ => by
    subst e3 e1 e2
    refine .lst (k _ (by simp)) (.inl h1) (h2.toA fun v d F hF h => Own.toIs w (fun x hx => k x (List.mem_cons_of_mem _ (mem_flat hF hx))) h)
  | .d, v, d, F, k, ⟨a, ks, vs, ds, e1, e2, h1, h2, h3, e3⟩ => by
    subst e3 e1 e2
    exact .dct (k _ (by simp)) h1 h2 (h3.mono w fun a o _ x => x)
  | .land, v, d, F, k, ⟨a, L, e1, e2, h⟩ => by
    subst e1 e2
    exact .land h k
  | .pile, v, d, F, k, ⟨a, dx, r, xs, ds, e1, e2, h1, h2, h3, e3⟩ => by
    subst e3 e1 e2
    exact .pile (k _ (by simp)) (k _ (by simp)) h1 h2 (h3.mono w fun a o _ x => x)
theorem P3.mem {P : V → D → List Addr → Prop} : ∀ {vs ds Fs} {F : List Addr}, P3 P vs ds Fs → F ∈ Fs → ∃ v d, P v d F
  | _, _, _, _, .nil, h => by simp at h
  | _, _, _, F, .cons (v := v) (d := d) (F := F') h t, hm => by
    rcases List.mem_cons.mp hm with e | hm
    · exact ⟨v, d, by rw [e]; exact h⟩
    · exact t.mem hm
theorem Own.track : ∀ {s : Sh} {v : V} {d : D} {F : List Addr}, Own c W H s v d F → Own c (fun a => W a ∧ H a ≠ none) H s v d F
  | .fz, v, d, F, ⟨e, h⟩ => ⟨e, h.track⟩
  | .l s, v, d, F, ⟨a, xs, ds, Gs, e1, e2, h1, h2, e3⟩ => ⟨a, xs, ds, Gs, e1, e2, h1, h2.imp fun v d F _ h => Own.track h, e3⟩
  | .d, v, d, F, ⟨a, ks, vs, ds, e1, e2, h1, h2, h3, e3⟩ => ⟨a, ks, vs, ds, e1, e2, h1, h2, h3.track, e3⟩
  | .land, v, d, F, h => h
  | .pile, v, d, F, ⟨a, dx, r, xs, ds, e1, e2, h1, h2, h3, e3⟩ => ⟨a, dx, r, xs, ds, e1, e2, h1, h2, h3.track, e3⟩
/-- an owned object stands, and can change -/
theorem Own.there : ∀ {s : Sh} {v : V} {d : D} {F : List Addr}, Own c W H s v d F → ∀ a ∈ F, ∃ o, H a = some o ∧ ¬ sta o
  | .fz, v, d, F, ⟨e, h⟩, a, ha => by subst e; simp at ha
  | .l s, v, d, F, ⟨b, xs, ds, Gs, e1, e2, h1, h2, e3⟩, a, ha => by
    subst e3
    rcases List.mem_cons.mp ha with e | ha
    · subst e; exact ⟨_, h1, fun z => z⟩
    · obtain ⟨G, hG, hx⟩ := List.mem_flatten.mp ha
      have : ∀ {vs ds Gs}, P3 (Own c W H s) vs ds Gs → G ∈ Gs → ∃ v d, Own c W H s v d G := by
        intro vs ds Gs p hm
        induction p with
        | nil => simp at hm
        | cons h t ih =>
          rcases List.mem_cons.mp hm with e | hm
          · subst e; exact ⟨_, _, h⟩
          · exact ih hm
      obtain ⟨v', d', h'⟩ := this h2 hG
      exact Own.there h' a hx
  | .d, v, d, F, ⟨b, ks, vs, ds, e1, e2, h1, h2, h3, e3⟩, a, ha => by
    subst e3
    have e : a = b := by simpa using ha
    subst e
    exact ⟨_, h1, fun z => z⟩
  | .land, v, d, F, ⟨b, L, e1, e2, dx, g, od, rs, h1, h2, h3, h4, e3⟩, a, ha => by
    subst e3
    have hm : a = b ∨ a = g ∨ a = od ∨ a ∈ rs := by simpa using ha
    rcases hm with e | e | e | e
    · subst e; exact ⟨_, h1, fun z => z⟩
    · subst e; exact ⟨_, h2, fun z => z⟩
    · subst e; exact ⟨_, h3, fun z => z⟩
    · have : ∀ {rs : List Addr} {gg : List (List (Option Int))}, Paired (fun r row => H r = some (.lst (rowV row))) rs gg → a ∈ rs → ∃ row, H a = some (.lst (rowV row)) := by
        intro rs gg p hm
        induction p with
        | nil => simp at hm
        | cons h t ih =>
          rcases List.mem_cons.mp hm with e | hm
          · subst e; exact ⟨_, h⟩
          · exact ih hm
      obtain ⟨row, hr⟩ := this h4 e
      exact ⟨_, hr, fun z => z⟩
  | .pile, v, d, F, ⟨b, dx, r, xs, ds, e1, e2, h1, h2, h3, e3⟩, a, ha => by
    subst e3
    have hm : a = b ∨ a = r := by simpa using ha
    rcases hm with e | e
    · subst e; exact ⟨_, h1, fun z => z⟩
    · subst e; exact ⟨_, h2, fun z => z⟩
end
end VS
set_option Elab.async false
set_option linter.all false
set_option maxRecDepth 100000
set_option maxHeartbeats 2000000
/-! VB: expressions by their plain meaning. -/
namespace VS
open PySem L2

abbrev Rho := List (Option D)
abbrev EF := Rho → O D
abbrev TF := Rho → O Bool
abbrev AF := Rho → O (List D)

/-- two regions: what is new (since the def's entry), what may be read without being owned -/
structure Wd where
  n : Addr → Prop
  b : Addr → Prop
  le : ∀ a, n a → b a
def Wd.at (w : Wd) : Nat → Addr → Prop
  | 0 => w.n
  | 1 => w.b
  | _ => fun _ => True
theorem Wd.up (w : Wd) : ∀ {i j : Nat}, i ≤ j → ∀ a, w.at i a → w.at j a
  | 0, 0, _, _, h => h
  | 0, 1, _, a, h => w.le a h
  | 0, _ + 2, _, _, _ => trivial
  | 1, 0, h, _, _ => absurd h (by decide)
  | 1, 1, _, _, h => h
  | 1, _ + 2, _, _, _ => trivial
  | _ + 2, 0, h, _, _ => absurd h (by omega)
  | _ + 2, 1, h, _, _ => absurd h (by omega)
  | _ + 2, _ + 2, _, _, _ => trivial

/-- what a slot is: read at a level of taint; owned (o); an owned parameter (p) -/
inductive Mo where
  | v (al : Nat)
  | o (s : Sh)
  | p (s : Sh)
def Mo.tn : Mo → Nat
  | .v al => al
  | _ => 2

def Sl (c : Ct) (M : Nat → Mo) (w : Wd) (H : Hp) (σ : L2.St) (ρ : Rho) : Prop := σ.length = ρ.length ∧ ∀ i d, ρ[i]? = some (some d) → ∃ v, σ[i]? = some (some v) ∧ Is c (w.at (M i).tn) H v d
/-- of the region, or new since H -/
def NW (w : Wd) (al : Nat) (H : Hp) : Addr → Prop := fun a => w.at al a ∨ H a = none

section
variable {c : Ct} {M : Nat → Mo} {w : Wd} {H H' : Hp} {σ : L2.St} {ρ : Rho} {W W' : Addr → Prop}
theorem Is.same {v : V} {d : D} (h : Is c W H v d) (s : Same H H') : Is c W H' v d := h.mono (fun _ x => x) fun a o _ e => s a o e
theorem IsA.same {v : List V} {d : List D} (h : IsA c W H v d) (s : Same H H') : IsA c W H' v d := h.mono (fun _ x => x) fun a o _ e => s a o e
theorem Is.up {v : V} {d : D} (h : Is c W H v d) (w : ∀ a, W a → W' a) : Is c W' H v d := h.mono w fun a o _ e => e
theorem IsA.up {v : List V} {d : List D} (h : IsA c W H v d) (w : ∀ a, W a → W' a) : IsA c W' H v d := h.mono w fun a o _ e => e
theorem Sl.same (h : Sl c M w H σ ρ) (s : Same H H') : Sl c M w H' σ ρ := ⟨h.1, fun i d e => let ⟨v, h1, h2⟩ := h.2 i d e; ⟨v, h1, h2.same s⟩⟩
theorem NW.back (s : Same H H') {al : Nat} : ∀ a, NW w al H' a → NW w al H a := fun a h => h.elim .inl fun z => .inr (s.free z)
theorem NW.up {i j : Nat} (h : i ≤ j) : ∀ a, NW w i H a → NW w j H a := fun a x => x.elim (fun z => .inl (w.up h a z)) .inr
end

/-- what a rule needs of where it stands -/
structure Cz (X : Cx) (c : Ct) (We : WX) (k : Nat) : Prop where
  K : X.K = c.K
  calm : X.calm = true
  tk : Takes X We
  hr : Room k X.A
  po : PassesOwn (model X.prog X.w) X.A X.env X.xe

structure VE (X : Cx) (c : Ct) (M : Nat → Mo) (We : WX) (al : Nat) (e : Expr) (f : EF) : Prop where
  ex : ∃ te, PE X e te ∧ ∀ (w : Wd) (σ : L2.St) (H : Hp) (ρ : Rho) (Q : VK), Sl c M w H σ ρ →
    Po (f ρ) (fun d => ∀ v H', Same H H' → Is c (NW w al H) H' v d → Q v H') (fun k => ∀ H', Same H H' → We k none σ H') → te σ H Q
structure VO (X : Cx) (c : Ct) (M : Nat → Mo) (We : WX) (s : Sh) (e : Expr) (f : EF) : Prop where
  ex : ∃ te, PE X e te ∧ ∀ (w : Wd) (σ : L2.St) (H : Hp) (ρ : Rho) (Q : VK), Sl c M w H σ ρ →
    Po (f ρ) (fun d => ∀ v H' F, Same H H' → (∀ a ∈ F, H a = none) → F.Nodup → Own c (fun a => NW w 0 H a ∧ a ∉ F) H' s v d F → Q v H') (fun k => ∀ H', Same H H' → We k none σ H') → te σ H Q
structure VA (X : Cx) (c : Ct) (M : Nat → Mo) (We : WX) (al : Nat) (es : List Expr) (f : AF) : Prop where
  ex : ∃ ta, PA X es ta ∧ ∀ (w : Wd) (σ : L2.St) (H : Hp) (ρ : Rho) (Q : List V → Hp → Prop), Sl c M w H σ ρ →
    Po (f ρ) (fun ds => ∀ vs H', Same H H' → IsA c (NW w al H) H' vs ds → Q vs H') (fun k => ∀ H', Same H H' → We k none σ H') → ta σ H Q
structure VT (X : Cx) (c : Ct) (M : Nat → Mo) (We : WX) (e : Expr) (f : TF) : Prop where
  ex : ∃ tt, PT X e tt ∧ ∀ (w : Wd) (σ : L2.St) (H : Hp) (ρ : Rho) (Q : Bool → Hp → Prop), Sl c M w H σ ρ →
    Po (f ρ) (fun b => ∀ H', Same H H' → Q b H') (fun k => ∀ H', Same H H' → We k none σ H') → tt σ H Q
structure VW (X : Cx) (c : Ct) (M : Nat → Mo) (We : WX) (e : Expr) (f : TF) : Prop where
  ex : ∃ tt, PW X e tt ∧ ∀ (w : Wd) (σ : L2.St) (H : Hp) (ρ : Rho) (Q : Bool → Hp → Prop), Sl c M w H σ ρ →
    Po (f ρ) (fun b => ∀ H', Same H H' → Q b H') (fun k => ∀ H', Same H H' → We k none σ H') → tt σ H Q

/-! ### meanings -/
def eVar (i : Nat) : EF := fun ρ => match ρ[i]? with
  | some (some d) => .ok d
  | _ => .bad
def eC (d : D) : EF := fun _ => .ok d
def e1 (g : D → O D) (f : EF) : EF := fun ρ => (f ρ).bind g
def e2 (g : D → D → O D) (f h : EF) : EF := fun ρ => (f ρ).bind fun x => (h ρ).bind fun y => g x y
def eImm (f : EF) : EF := fun ρ => (f ρ).bind fun d => gd d.imm (.ok d)
def aNil : AF := fun _ => .ok []
def aCons (f : EF) (g : AF) : AF := fun ρ => (f ρ).bind fun x => (g ρ).bind fun xs => .ok (x :: xs)
def eTup (f : AF) : EF := fun ρ => (f ρ).bind fun ds => gd (decide (ds.length ≤ 100000)) (.ok (.tup ds))
def eLst (f : AF) : EF := fun ρ => (f ρ).bind fun ds => gd (decide (ds.length ≤ 100000)) (.ok (.lst ds))
def tE (f : EF) : TF := fun ρ => (f ρ).bind fun d => match d with
  | .bl b => .ok b
  | _ => .bad
def tAndF (f g : TF) : TF := fun ρ => (f ρ).bind fun b => if b = true then g ρ else .ok false
def tOrF (f g : TF) : TF := fun ρ => (f ρ).bind fun b => if b = true then .ok true else g ρ
def tNotF (f : TF) : TF := fun ρ => (f ρ).bind fun b => .ok (!b)
def eB (f : TF) : EF := fun ρ => (f ρ).bind fun b => .ok (.bl b)

section
variable {X : Cx} {c : Ct} {M : Nat → Mo} {We : WX} {al al' : Nat} {e a b : Expr} {f fa fb : EF} {pos : Pos}

theorem VE.up (h : VE X c M We al e f) (l : al ≤ al') : VE X c M We al' e f := by
  obtain ⟨te, p, s⟩ := h.ex
  exact ⟨te, p, fun w σ H ρ Q sl po => s w σ H ρ Q sl (po.imp (fun d _ q v H' hs hi => q v H' hs (hi.up (NW.up l))) fun _ _ q => q)⟩
theorem VO.toE (s : Sh) (h : VO X c M We s e f) : VE X c M We 0 e f := by
  obtain ⟨te, p, so⟩ := h.ex
  refine ⟨te, p, fun w σ H ρ Q sl po => so w σ H ρ Q sl (po.imp (fun d _ q v H' F hs hn _ ho => q v H' hs ?_) fun _ _ q => q)⟩
  exact ho.toIs (fun a x => x.1) fun a ha => .inr (hn a ha)
theorem VE.toO (h : VE X c M We 0 e f) : VO X c M We .fz e f := by
  obtain ⟨te, p, s⟩ := h.ex
  exact ⟨te, p, fun w σ H ρ Q sl po => s w σ H ρ Q sl (po.imp (fun d _ q v H' hs hi => q v H' [] hs (by simp) (by simp) ⟨rfl, hi.up fun a x => ⟨x, by simp⟩⟩) fun _ _ q => q)⟩
theorem ve_imm (h : VE X c M We al e f) : VE X c M We 0 e (eImm f) := by
  obtain ⟨te, p, s⟩ := h.ex
  refine ⟨te, p, fun w σ H ρ Q sl po => s w σ H ρ Q sl ((Po.bind po).imp (fun d _ q v H' hs hi => ?_) fun _ _ q => q)⟩
  obtain ⟨hd, q⟩ := Po.gd q
  exact q v H' hs (hi.imm (fun _ _ _ x => x) hd)
theorem ve_var (i : Nat) {x : Str} (hN : X.N[i]? = some x := by rfl) (hv : Vis X.env.scope x := by first | exact Or.inl rfl | exact Or.inr (Or.inl rfl) | exact Or.inr (Or.inr rfl)) (hd : (x == ("__debug__" : Str)) = false := by decide)
    (hcd : (x == ("__classdict__" : Str)) = false := by decide) : VE X c M We (M i).tn (.Name x pos) (eVar i) := by
  refine ⟨_, pv i hN hv hd hcd, fun w σ H ρ Q sl po => ?_⟩
  unfold eVar at po
  cases hr : ρ[i]? with
  | none => rw [hr] at po; exact po.elim
  | some o =>
    cases o with
    | none => rw [hr] at po; exact po.elim
    | some d =>
      rw [hr] at po
      obtain ⟨v, h1, h2⟩ := sl.2 i d hr
      exact ⟨v, h1, po v H (Same.refl H) (h2.up fun _ x => .inl x)⟩
theorem ve_int {i : Int} {j pos} : VE X c M We 0 (.Constant (.int i) j pos) (eC (.int i)) := ⟨_, pe_int, fun w σ H ρ Q sl po => po _ H (Same.refl H) (.int i)⟩
theorem ve_bl {b : Bool} {j pos} : VE X c M We 0 (.Constant (.bool b) j pos) (eC (.bl b)) := ⟨_, pe_bl, fun w σ H ρ Q sl po => po _ H (Same.refl H) (.bl b)⟩
theorem ve_non {j pos} : VE X c M We 0 (.Constant .none j pos) (eC .non) := ⟨_, pe_non, fun w σ H ρ Q sl po => po _ H (Same.refl H) .non⟩
theorem ve_str {s : Str} {j pos} : VE X c M We 0 (.Constant (.str s) j pos) (eC (.str s)) := ⟨_, pe_str, fun w σ H ρ Q sl po => po _ H (Same.refl H) (.str s)⟩
/-- a module's whole number -/
theorem ve_glob {x : Str} {i : Int} {t : Tok} (hg : Gl X x) (hm : X.mg x = some (.int i t)) (hd : (x == ("__debug__" : Str)) = false := by decide) : VE X c M We 0 (.Name x pos) (eC (.int i)) :=
  ⟨_, pe_glob (v := .int i) hg hm ⟨t, rfl⟩ hd, fun w σ H ρ Q sl po => po _ H (Same.refl H) (.int i)⟩

/-! ### arguments, displays -/
theorem va_nil : VA X c M We al [] aNil := ⟨_, pa_nil, fun w σ H ρ Q sl po => po _ H (Same.refl H) .nil⟩
theorem va_cons {es : List Expr} {fs : AF} (h : VE X c M We al e f) (t : VA X c M We al es fs) (hs : starEach (e :: es) X.env = (false, eval e X.env) :: starEach es X.env := by rfl) : VA X c M We al (e :: es) (aCons f fs) := by
  obtain ⟨te, p, s⟩ := h.ex
  obtain ⟨ta, p', s'⟩ := t.ex
  refine ⟨_, pa_cons p p' hs, fun w σ H ρ Q sl po => s w σ H ρ _ sl ((Po.bind po).imp (fun d _ q v H1 hs hi => ?_) fun _ _ q => q)⟩
  refine s' w σ H1 ρ _ (sl.same hs) ((Po.bind q).imp (fun ds _ q vs H2 hs2 hi2 => ?_) fun _ _ q H2 hs2 => q H2 (hs.trans hs2))
  exact q _ H2 (hs.trans hs2) (.cons (hi.same hs2) (hi2.up (NW.back hs)))
theorem sz_ok {n : Nat} (h : n ≤ 100000) : n ≤ sizeLine := Nat.le_trans h (by decide)
theorem same_new {H H1 : Hp} (s : Same H H1) {p : Addr} {o : HO} (hp : H1 p = none) : Same H (upd H1 p o) := fun b u e => by
  rw [upd_ne (ne_of_none (s b u e) hp)]
  exact s b u e
theorem ve_tup {es : List Expr} {fs : AF} {x1} (t : VA X c M We al es fs) : VE X c M We al (.Tuple es x1 pos) (eTup fs) := by
  obtain ⟨ta, p, s⟩ := t.ex
  refine ⟨_, pe_tup p, fun w σ H ρ Q sl po => s w σ H ρ _ sl ((Po.bind po).imp (fun ds _ q vs H1 hs hi => ?_) fun _ _ q => q)⟩
  obtain ⟨hd, q⟩ := Po.gd q
  refine ⟨sz_ok (by rw [hi.length]; exact of_decide_eq_true hd), fun p hp => q _ _ (same_new hs hp) (.tup upd_same (hi.same (same_new (Same.refl _) hp)))⟩
/-- [..], its items frozen: an own list -/
theorem vo_lst {es : List Expr} {fs : AF} (t : VA X c M We 0 es fs) : VO X c M We (.l .fz) (.List es pos) (eLst fs) := by
  obtain ⟨ta, p, s⟩ := t.ex
  refine ⟨_, pe_lst p, fun w σ H ρ Q sl po => s w σ H ρ _ sl ((Po.bind po).imp (fun ds _ q vs H1 hs hi => ?_) fun _ _ q => q)⟩
  obtain ⟨hd, q⟩ := Po.gd q
  refine ⟨sz_ok (by rw [hi.length]; exact of_decide_eq_true hd), fun p hp => q _ _ [p] (same_new hs hp) (fun a ha => ?_) (by simp) ?_⟩
  · have e : a = p := by simpa using ha
    rw [e]; exact hs.free hp
  · have hi2 : IsA c (fun a => NW w 0 H a ∧ a ∉ [p]) (upd H1 p (.lst vs)) vs ds := (hi.track.up fun a x => ⟨x.1, fun z => x.2 (by have e : a = p := (by simpa using z); rw [e]; exact hp)⟩).same (same_new (Same.refl _) hp)
    obtain ⟨Gs, g1, g2⟩ := hi2.toP3
    exact ⟨p, vs, ds, Gs, rfl, rfl, upd_same, g1, by rw [g2]⟩

/-! ### operators -/
theorem is_int {W : Addr → Prop} {H : Hp} {v : V} {i : Int} (h : Is c W H v (.int i)) : v = .int i := by cases h; rfl
theorem is_str {W : Addr → Prop} {H : Hp} {v : V} {i : Str} (h : Is c W H v (.str i)) : v = .str i := by cases h; rfl
theorem is_bl {W : Addr → Prop} {H : Hp} {v : V} {i : Bool} (h : Is c W H v (.bl i)) : v = .bl i := by cases h; rfl
theorem is_non {W : Addr → Prop} {H : Hp} {v : V} (h : Is c W H v .non) : v = .non := by cases h; rfl
theorem is_lst {W : Addr → Prop} {H : Hp} {v : V} {ds : List D} (h : Is c W H v (.lst ds)) : ∃ a xs, v = .ref a ∧ SqL c.K H a xs ∧ IsA c W H xs ds := by
  cases h with
  | lst h1 h2 h3 => exact ⟨_, _, rfl, .inl h2, h3⟩
  | lstK h2 h3 => exact ⟨_, _, rfl, .inr h2, h3⟩
theorem is_tup {W : Addr → Prop} {H : Hp} {v : V} {ds : List D} (h : Is c W H v (.tup ds)) : ∃ a xs, v = .ref a ∧ H a = some (.tup xs) ∧ IsA c W H xs ds := by
  cases h with
  | tup h1 h2 => exact ⟨_, _, rfl, h1, h2⟩

/-- a rule of two values has this meaning; what it gives can not change -/
def RS (c : Ct) (r : R2) (g : D → D → O D) : Prop := ∀ (W W' : Addr → Prop) (x y : V) (dx dy : D) (H : Hp) (Q : VK) (E : Value → Prop), Is c W H x dx → Is c W' H y dy →
  Po (g dx dy) (fun d => ∀ v H', Same H H' → (∀ Wz, Is c Wz H' v d) → Q v H') E → r x y H Q
theorem ve_r2 {r : R2} {g : D → D → O D} {ee : Expr} (hp : ∀ {ta tb : TE}, PE X a ta → PE X b tb → PE X ee (tOp r ta tb)) (hr : RS c r g) (ha : VE X c M We al a fa) (hb : VE X c M We al' b fb) : VE X c M We 0 ee (e2 g fa fb) := by
  obtain ⟨ta, p, s⟩ := ha.ex
  obtain ⟨tb, p', s'⟩ := hb.ex
  refine ⟨_, hp p p', fun w σ H ρ Q sl po => s w σ H ρ _ sl ((Po.bind po).imp (fun d _ q v H1 hs hi => ?_) fun _ _ q => q)⟩
  refine s' w σ H1 ρ _ (sl.same hs) ((Po.bind q).imp (fun d2 _ q v2 H2 hs2 hi2 => ?_) fun _ _ q H2 hs2 => q H2 (hs.trans hs2))
  exact hr _ _ v v2 d d2 H2 Q _ (hi.same hs2) hi2 (q.imp (fun d3 _ q v3 H3 hs3 hz => q v3 H3 ((hs.trans hs2).trans hs3) (hz _)) fun _ _ q => q)
theorem ve_bin {op : Operator} {r : R2} {g : D → D → O D} (ho : OpR X (binaryOp op) r) (hr : RS c r g) (ha : VE X c M We al a fa) (hb : VE X c M We al' b fb) : VE X c M We 0 (.BinOp a op b pos) (e2 g fa fb) :=
  ve_r2 (fun p p' => pe_op ho p p') hr ha hb
theorem ve_cmp {op : CmpOp} {r : R2} {g : D → D → O D} (ho : OpR X (compareOp op) r) (hr : RS c r g) (ha : VE X c M We al a fa) (hb : VE X c M We al' b fb) (hm : behindInMarks op b = false) : VE X c M We 0 (.Compare a [op] [b] pos) (e2 g fa fb) :=
  ve_r2 (fun p p' => pe_cmpR ho p p' hm) hr ha hb
theorem vt_cmp {op : CmpOp} {r : R2} {g : D → D → O D} (ho : OpR X (compareOp op) r) (hr : RS c r g) (ha : VE X c M We al a fa) (hb : VE X c M We al' b fb) (hm : behindInMarks op b = false) : VT X c M We (.Compare a [op] [b] pos) (tE (e2 g fa fb)) := by
  obtain ⟨ta, p, s⟩ := ha.ex
  obtain ⟨tb, p', s'⟩ := hb.ex
  refine ⟨_, pt_cmpR ho p p' hm, fun w σ H ρ Q sl po => s w σ H ρ _ sl ((Po.bind (Po.bind po)).imp (fun d _ q v H1 hs hi => ?_) fun _ _ q => q)⟩
  refine s' w σ H1 ρ _ (sl.same hs) ((Po.bind q).imp (fun d2 _ q v2 H2 hs2 hi2 => ?_) fun _ _ q H2 hs2 => q H2 (hs.trans hs2))
  refine hr _ _ v v2 d d2 H2 _ _ (hi.same hs2) hi2 (q.imp (fun d3 _ q v3 H3 hs3 hz => ?_) fun _ _ q => q)
  cases d3 with
  | bl k => exact ⟨k, is_bl (hz fun _ => True), q H3 ((hs.trans hs2).trans hs3)⟩
  | _ => exact q.elim

def addD : D → D → O D
  | .int i, .int j => .ok (.int (i + j))
  | .str s, .str t => gd (decide (s.length + t.length ≤ 100000)) (.ok (.str (s ++ t)))
  | _, _ => .bad
def subD : D → D → O D
  | .int i, .int j => .ok (.int (i - j))
  | _, _ => .bad
def mulD : D → D → O D
  | .int i, .int j => gd ((decide (-(2 ^ 64) < i) && decide (i < 2 ^ 64)) || (decide (-(2 ^ 64) < j) && decide (j < 2 ^ 64))) (.ok (.int (i * j)))
  | _, _ => .bad
def modD : D → D → O D
  | .int i, .int j => gd (decide (0 < j)) (.ok (.int (i % j)))
  | _, _ => .bad
def divD : D → D → O D
  | .int i, .int j => gd (decide (0 < j) && decide (j < 1073741824)) (.ok (.int (i / j)))
  | _, _ => .bad
def powD : D → D → O D
  | .int i, .int j => gd (decide (0 ≤ j) && decide (j ≤ 1000) && decide (i.natAbs < 2 ^ 64)) (.ok (.int (i ^ j.toNat)))
  | _, _ => .bad
def cmpI (p : Int → Int → Bool) : D → D → O D
  | .int i, .int j => .ok (.bl (p i j))
  | _, _ => .bad
@[simp] theorem addD_int (i j : Int) : addD (.int i) (.int j) = .ok (.int (i + j)) := rfl
@[simp] theorem addD_str (s t : Str) : addD (.str s) (.str t) = gd (decide (s.length + t.length ≤ 100000)) (.ok (.str (s ++ t))) := rfl
@[simp] theorem subD_int (i j : Int) : subD (.int i) (.int j) = .ok (.int (i - j)) := rfl
@[simp] theorem mulD_int (i j : Int) : mulD (.int i) (.int j) = gd ((decide (-(2 ^ 64) < i) && decide (i < 2 ^ 64)) || (decide (-(2 ^ 64) < j) && decide (j < 2 ^ 64))) (.ok (.int (i * j))) := rfl
@[simp] theorem modD_int (i j : Int) : modD (.int i) (.int j) = gd (decide (0 < j)) (.ok (.int (i % j))) := rfl
@[simp] theorem divD_int (i j : Int) : divD (.int i) (.int j) = gd (decide (0 < j) && decide (j < 1073741824)) (.ok (.int (i / j))) := rfl
@[simp] theorem cmpI_int (p : Int → Int → Bool) (i j : Int) : cmpI p (.int i) (.int j) = .ok (.bl (p i j)) := rfl
theorem rs_add : RS c (fun x y H Q => rI0 (fun i j => .int (i + j)) x y H Q ∨ (∃ i j, x = .str i ∧ y = .str j ∧ i.length + j.length ≤ sizeLine ∧ Q (.str (i ++ j)) H)) addD := by
  intro W W' x y dx dy H Q E hx hy po
  unfold addD at po
  split at po
  · rw [is_int hx, is_int hy]; exact .inl ⟨_, _, rfl, rfl, po _ H (Same.refl H) fun _ => .int _⟩
  · obtain ⟨hl, po⟩ := Po.gd po
    rw [is_str hx, is_str hy]; exact .inr ⟨_, _, rfl, rfl, sz_ok (of_decide_eq_true hl), po _ H (Same.refl H) fun _ => .str _⟩
  · exact po.elim
theorem rs_sub : RS c (rI0 fun i j => .int (i - j)) subD := by
  intro W W' x y dx dy H Q E hx hy po
  unfold subD at po
  split at po
  · rw [is_int hx, is_int hy]; exact ⟨_, _, rfl, rfl, po _ H (Same.refl H) fun _ => .int _⟩
  · exact po.elim
theorem rs_mul : RS c (rI CMul fun i j => .int (i * j)) mulD := by
  intro W W' x y dx dy H Q E hx hy po
  unfold mulD at po
  split at po
  · obtain ⟨hl, po⟩ := Po.gd po
    rw [is_int hx, is_int hy]
    refine ⟨_, _, rfl, rfl, ?_, po _ H (Same.refl H) fun _ => .int _⟩
    simpa [CMul] using hl
  · exact po.elim
theorem rs_mod : RS c (rI (fun _ j => 0 < j) fun i j => .int (i % j)) modD := by
  intro W W' x y dx dy H Q E hx hy po
  unfold modD at po
  split at po
  · obtain ⟨hl, po⟩ := Po.gd po
    rw [is_int hx, is_int hy]
    exact ⟨_, _, rfl, rfl, of_decide_eq_true hl, po _ H (Same.refl H) fun _ => .int _⟩
  · exact po.elim
theorem rs_div : RS c (rI CDiv fun i j => .int (i / j)) divD := by
  intro W W' x y dx dy H Q E hx hy po
  unfold divD at po
  split at po
  · obtain ⟨hl, po⟩ := Po.gd po
    rw [is_int hx, is_int hy]
    refine ⟨_, _, rfl, rfl, ?_, po _ H (Same.refl H) fun _ => .int _⟩
    simpa [CDiv] using hl
  · exact po.elim
theorem rs_pow : RS c (rI CPow fun i j => .int (i ^ j.toNat)) powD := by
  intro W W' x y dx dy H Q E hx hy po
  unfold powD at po
  split at po
  · obtain ⟨hl, po⟩ := Po.gd po
    rw [is_int hx, is_int hy]
    refine ⟨_, _, rfl, rfl, ?_, po _ H (Same.refl H) fun _ => .int _⟩
    simp only [Bool.and_eq_true, decide_eq_true_eq] at hl
    exact ⟨hl.1.1, by omega, hl.2⟩
  · exact po.elim
theorem rs_cmpI {p : Int → Int → Bool} : RS c (rI0 fun i j => .bl (p i j)) (cmpI p) := by
  intro W W' x y dx dy H Q E hx hy po
  unfold cmpI at po
  split at po
  · rw [is_int hx, is_int hy]; exact ⟨_, _, rfl, rfl, po _ H (Same.refl H) fun _ => .bl _⟩
  · exact po.elim
theorem ve_add (ha : VE X c M We al a fa) (hb : VE X c M We al' b fb) : VE X c M We 0 (.BinOp a .Add b pos) (e2 addD fa fb) := ve_bin (op_add.or op_add_str) rs_add ha hb
theorem ve_sub (ha : VE X c M We al a fa) (hb : VE X c M We al' b fb) : VE X c M We 0 (.BinOp a .Sub b pos) (e2 subD fa fb) := ve_bin op_sub rs_sub ha hb
theorem ve_mul (ha : VE X c M We al a fa) (hb : VE X c M We al' b fb) : VE X c M We 0 (.BinOp a .Mult b pos) (e2 mulD fa fb) := ve_bin op_mul rs_mul ha hb
theorem ve_mod (ha : VE X c M We al a fa) (hb : VE X c M We al' b fb) : VE X c M We 0 (.BinOp a .Mod b pos) (e2 modD fa fb) := ve_bin op_mod rs_mod ha hb
theorem ve_div (ha : VE X c M We al a fa) (hb : VE X c M We al' b fb) : VE X c M We 0 (.BinOp a .FloorDiv b pos) (e2 divD fa fb) := ve_bin op_fdiv rs_div ha hb
theorem ve_pow (ha : VE X c M We al a fa) (hb : VE X c M We al' b fb) : VE X c M We 0 (.BinOp a .Pow b pos) (e2 powD fa fb) := ve_bin op_pow rs_pow ha hb
abbrev ltD : D → D → O D := cmpI fun i j => decide (i < j)
abbrev leD : D → D → O D := cmpI fun i j => decide (i ≤ j)
abbrev gtD : D → D → O D := cmpI fun i j => decide (j < i)
abbrev geD : D → D → O D := cmpI fun i j => decide (j ≤ i)
theorem vt_lt (ha : VE X c M We al a fa) (hb : VE X c M We al' b fb) : VT X c M We (.Compare a [.Lt] [b] pos) (tE (e2 ltD fa fb)) := vt_cmp op_lt rs_cmpI ha hb (nomark _)
theorem vt_le (ha : VE X c M We al a fa) (hb : VE X c M We al' b fb) : VT X c M We (.Compare a [.LtE] [b] pos) (tE (e2 leD fa fb)) := vt_cmp op_le rs_cmpI ha hb (nomark _)
theorem vt_gt (ha : VE X c M We al a fa) (hb : VE X c M We al' b fb) : VT X c M We (.Compare a [.Gt] [b] pos) (tE (e2 gtD fa fb)) := vt_cmp op_gt rs_cmpI ha hb (nomark _)
theorem vt_ge (ha : VE X c M We al a fa) (hb : VE X c M We al' b fb) : VT X c M We (.Compare a [.GtE] [b] pos) (tE (e2 geD fa fb)) := vt_cmp op_ge rs_cmpI ha hb (nomark _)
theorem ve_lt (ha : VE X c M We al a fa) (hb : VE X c M We al' b fb) : VE X c M We 0 (.Compare a [.Lt] [b] pos) (e2 ltD fa fb) := ve_cmp op_lt rs_cmpI ha hb (nomark _)
theorem ve_le (ha : VE X c M We al a fa) (hb : VE X c M We al' b fb) : VE X c M We 0 (.Compare a [.LtE] [b] pos) (e2 leD fa fb) := ve_cmp op_le rs_cmpI ha hb (nomark _)
theorem ve_gt (ha : VE X c M We al a fa) (hb : VE X c M We al' b fb) : VE X c M We 0 (.Compare a [.Gt] [b] pos) (e2 gtD fa fb) := ve_cmp op_gt rs_cmpI ha hb (nomark _)
theorem ve_ge (ha : VE X c M We al a fa) (hb : VE X c M We al' b fb) : VE X c M We 0 (.Compare a [.GtE] [b] pos) (e2 geD fa fb) := ve_cmp op_ge rs_cmpI ha hb (nomark _)

/-! ### == and != of data -/
def eqD (neg : Bool) (x y : D) : O D := gd (SeqAt.shaped (toPy x) && SeqAt.shaped (toPy y)) (.ok (.bl (neg != PyData.eqv (toPy x) (toPy y))))
theorem rs_eq : RS c (rEqD c.K) (eqD false) := by
  intro W W' x y dx dy H Q E hx hy po
  obtain ⟨hl, po⟩ := Po.gd po
  rw [Bool.and_eq_true] at hl
  exact ⟨_, _, hx.dp (SeqAt.canLay_of_shaped hl.1), hy.dp (SeqAt.canLay_of_shaped hl.2), hl.1, hl.2, po _ H (Same.refl H) fun _ => by rw [Bool.false_bne]; exact .bl _⟩
theorem rs_ne : RS c (rNeD c.K) (eqD true) := by
  intro W W' x y dx dy H Q E hx hy po
  obtain ⟨hl, po⟩ := Po.gd po
  rw [Bool.and_eq_true] at hl
  exact ⟨_, _, hx.dp (SeqAt.canLay_of_shaped hl.1), hy.dp (SeqAt.canLay_of_shaped hl.2), hl.1, hl.2, po _ H (Same.refl H) fun _ => by rw [Bool.true_bne]; exact .bl _⟩
section
variable {k : Nat}
theorem vt_eq (z : Cz X c We k) (ha : VE X c M We al a fa) (hb : VE X c M We al' b fb) : VT X c M We (.Compare a [.Eq] [b] pos) (tE (e2 (eqD false) fa fb)) := vt_cmp (op_eqD z.hr.units) (by rw [z.K]; exact rs_eq) ha hb (nomark _)
theorem vt_ne (z : Cz X c We k) (ha : VE X c M We al a fa) (hb : VE X c M We al' b fb) : VT X c M We (.Compare a [.NotEq] [b] pos) (tE (e2 (eqD true) fa fb)) := vt_cmp (op_neD z.hr.units) (by rw [z.K]; exact rs_ne) ha hb (nomark _)
theorem ve_eq (z : Cz X c We k) (ha : VE X c M We al a fa) (hb : VE X c M We al' b fb) : VE X c M We 0 (.Compare a [.Eq] [b] pos) (e2 (eqD false) fa fb) := ve_cmp (op_eqD z.hr.units) (by rw [z.K]; exact rs_eq) ha hb (nomark _)
theorem ve_ne (z : Cz X c We k) (ha : VE X c M We al a fa) (hb : VE X c M We al' b fb) : VE X c M We 0 (.Compare a [.NotEq] [b] pos) (e2 (eqD true) fa fb) := ve_cmp (op_neD z.hr.units) (by rw [z.K]; exact rs_ne) ha hb (nomark _)
end

/-! ### is None, is True -/
def isND (neg : Bool) (d e : D) : O D := match e with
  | .non => match d with
    | .non => .ok (.bl !neg)
    | _ => .ok (.bl neg)
  | .bl b => match d with
    | .bl a => .ok (.bl (neg != decide (a = b)))
    | _ => .bad
  | _ => .bad
theorem is_nonb {W : Addr → Prop} {H : Hp} {v : V} {d : D} (h : Is c W H v d) : decide (v = .non) = (match d with | .non => true | _ => false) := by
  cases h <;> simp
theorem rs_is : RS c (fun x y H Q => (y = .non ∧ Q (.bl (decide (x = .non))) H) ∨ rIsB x y H Q) (isND false) := by
  intro W W' x y dx dy H Q E hx hy po
  cases dy with
  | non =>
    refine .inl ⟨is_non hy, ?_⟩
    rw [is_nonb hx]
    cases dx <;> exact po _ H (Same.refl H) fun _ => .bl _
  | bl b =>
    cases dx with
    | bl a =>
      refine .inr ⟨a, b, is_bl hx, is_bl hy, po _ H (Same.refl H) fun _ => ?_⟩
      rw [Bool.false_bne]; exact .bl _
    | _ => exact po.elim
  | _ => exact po.elim
theorem rs_isnt : RS c (fun x y H Q => (y = .non ∧ Q (.bl (!decide (x = .non))) H) ∨ rNotB x y H Q) (isND true) := by
  intro W W' x y dx dy H Q E hx hy po
  cases dy with
  | non =>
    refine .inl ⟨is_non hy, ?_⟩
    rw [is_nonb hx]
    cases dx <;> exact po _ H (Same.refl H) fun _ => .bl _
  | bl b =>
    cases dx with
    | bl a =>
      refine .inr ⟨a, b, is_bl hx, is_bl hy, po _ H (Same.refl H) fun _ => ?_⟩
      rw [Bool.true_bne]; exact .bl _
    | _ => exact po.elim
  | _ => exact po.elim
theorem vt_is (ha : VE X c M We al a fa) (hb : VE X c M We al' b fb) : VT X c M We (.Compare a [.Is] [b] pos) (tE (e2 (isND false) fa fb)) := vt_cmp (op_isN.or op_isBl) rs_is ha hb (nomark _)
theorem vt_isnt (ha : VE X c M We al a fa) (hb : VE X c M We al' b fb) : VT X c M We (.Compare a [.IsNot] [b] pos) (tE (e2 (isND true) fa fb)) := vt_cmp (op_notN.or op_notBl) rs_isnt ha hb (nomark _)
theorem ve_is (ha : VE X c M We al a fa) (hb : VE X c M We al' b fb) : VE X c M We 0 (.Compare a [.Is] [b] pos) (e2 (isND false) fa fb) := ve_cmp (op_isN.or op_isBl) rs_is ha hb (nomark _)
theorem ve_isnt (ha : VE X c M We al a fa) (hb : VE X c M We al' b fb) : VE X c M We 0 (.Compare a [.IsNot] [b] pos) (e2 (isND true) fa fb) := ve_cmp (op_notN.or op_notBl) rs_isnt ha hb (nomark _)

/-! ### a < b < c of whole numbers -/
def eChain (p q : Int → Int → Bool) (fa fb fc : EF) : EF := fun ρ => (fa ρ).bind fun x => (fb ρ).bind fun y => match x, y with
  | .int i, .int j => if p i j = true then (fc ρ).bind fun z => match z with
      | .int k => .ok (.bl (q j k))
      | _ => .bad
    else .ok (.bl false)
  | _, _ => .bad
end
end VS
set_option Elab.async false
set_option linter.all false
set_option maxRecDepth 100000
set_option maxHeartbeats 2000000
/-! VC: chains, tests, built-in calls, indices, calls of defs. -/
namespace VS
open PySem L2
section
variable {X : Cx} {c : Ct} {M : Nat → Mo} {We : WX} {al al' al'' k : Nat} {e a b d : Expr} {f fa fb fc : EF} {pos : Pos} {t t' : TF}

theorem chain_sound {r r' : R2} {p q : Int → Int → Bool} (hr : r = rI0 fun i j => .bl (p i j)) (hr' : r' = rI0 fun i j => .bl (q i j)) {ta tb tc : TE} {w : Wd} {σ : L2.St} {H : Hp} {ρ : Rho} {Q : VK} (sl : Sl c M w H σ ρ)
    (sa : ∀ (w : Wd) (σ : L2.St) (H : Hp) (ρ : Rho) (Q : VK), Sl c M w H σ ρ → Po (fa ρ) (fun d => ∀ v H', Same H H' → Is c (NW w al H) H' v d → Q v H') (fun k => ∀ H', Same H H' → We k none σ H') → ta σ H Q)
    (sb : ∀ (w : Wd) (σ : L2.St) (H : Hp) (ρ : Rho) (Q : VK), Sl c M w H σ ρ → Po (fb ρ) (fun d => ∀ v H', Same H H' → Is c (NW w al' H) H' v d → Q v H') (fun k => ∀ H', Same H H' → We k none σ H') → tb σ H Q)
    (sc : ∀ (w : Wd) (σ : L2.St) (H : Hp) (ρ : Rho) (Q : VK), Sl c M w H σ ρ → Po (fc ρ) (fun d => ∀ v H', Same H H' → Is c (NW w al'' H) H' v d → Q v H') (fun k => ∀ H', Same H H' → We k none σ H') → tc σ H Q)
    (po : Po (eChain p q fa fb fc ρ) (fun d => ∀ H', Same H H' → ∀ k, d = .bl k → Q (.bl k) H') (fun k => ∀ H', Same H H' → We k none σ H')) : tChain r r' ta tb tc σ H Q := by
  subst hr hr'
  refine sa w σ H ρ _ sl ((Po.bind po).imp (fun d _ q1 v H1 hs hi => ?_) fun _ _ q => q)
  refine sb w σ H1 ρ _ (sl.same hs) ((Po.bind q1).imp (fun d2 _ q2 v2 H2 hs2 hi2 => ?_) fun _ _ q H2 hs2 => q H2 (hs.trans hs2))
  cases d with
  | int i =>
    cases d2 with
    | int j =>
      rw [is_int hi, is_int hi2]
      refine ⟨i, j, rfl, rfl, _, rfl, ?_⟩
      by_cases h : p i j = true
      · have q2 : Po (α := D) (if p i j = true then (fc ρ).bind fun z => match z with | .int k => .ok (.bl (q j k)) | _ => .bad else .ok (.bl false)) _ _ := q2
        rw [if_pos h] at q2
        rw [if_pos h]
        refine sc w σ H2 ρ _ (sl.same (hs.trans hs2)) ((Po.bind q2).imp (fun d3 _ q3 v3 H3 hs3 hi3 => ?_) fun _ _ q H3 hs3 => q H3 ((hs.trans hs2).trans hs3))
        cases d3 with
        | int l =>
          rw [is_int hi3]
          exact ⟨j, l, rfl, rfl, q3 H3 ((hs.trans hs2).trans hs3) _ rfl⟩
        | _ => exact q3.elim
      · have q2 : Po (α := D) (if p i j = true then (fc ρ).bind fun z => match z with | .int k => .ok (.bl (q j k)) | _ => .bad else .ok (.bl false)) _ _ := q2
        rw [if_neg h] at q2
        rw [if_neg h]
        exact q2 H2 (hs.trans hs2) _ rfl
    | _ => exact q2.elim
  | _ => cases d2 <;> exact q2.elim
theorem chain_bl {p q : Int → Int → Bool} {ρ : Rho} {d : D} (h : eChain p q fa fb fc ρ = .ok d) : ∃ k, d = .bl k := by
  unfold eChain at h
  cases ea : fa ρ with
  | ok x =>
    cases eb : fb ρ with
    | ok y =>
      rw [ea, eb] at h
      simp only [O.bind_ok] at h
      cases x with
      | int i =>
        cases y with
        | int j =>
          simp only at h
          split at h
          · cases ec : fc ρ with
            | ok z =>
              rw [ec] at h
              simp only [O.bind_ok] at h
              cases z with
              | int l => simp only [O.ok.injEq] at h; exact ⟨_, h.symm⟩
              | _ => cases h
            | bad => rw [ec] at h; cases h
            | exc k => rw [ec] at h; cases h
          · simp only [O.ok.injEq] at h; exact ⟨_, h.symm⟩
        | _ => cases h
      | _ => cases h
    | bad => rw [ea, eb] at h; cases h
    | exc k => rw [ea, eb] at h; cases h
  | bad => rw [ea] at h; cases h
  | exc k => rw [ea] at h; cases h
theorem ve_chain {op op' : CmpOp} {p q : Int → Int → Bool} (ho : OpR X (compareOp op) (rI0 fun i j => .bl (p i j))) (ho' : OpR X (compareOp op') (rI0 fun i j => .bl (q i j))) (ha : VE X c M We al a fa) (hb : VE X c M We al' b fb) (hc : VE X c M We al'' d fc)
    (hm : lastMarks [op, op'] [b, d] = false := by with_unfolding_all rfl) : VE X c M We 0 (.Compare a [op, op'] [b, d] pos) (eChain p q fa fb fc) := by
  obtain ⟨ta, pa, sa⟩ := ha.ex
  obtain ⟨tb, pb, sb⟩ := hb.ex
  obtain ⟨tc, pc, sc⟩ := hc.ex
  refine ⟨_, pe_chain ho ho' pa pb pc hm, fun w σ H ρ Q sl po => chain_sound rfl rfl sl sa sb sc (po.imp (fun d _ q H' hs k e => ?_) fun _ _ q => q)⟩
  subst e
  exact q _ H' hs (.bl _)
theorem vt_chain {op op' : CmpOp} {p q : Int → Int → Bool} (ho : OpR X (compareOp op) (rI0 fun i j => .bl (p i j))) (ho' : OpR X (compareOp op') (rI0 fun i j => .bl (q i j))) (ha : VE X c M We al a fa) (hb : VE X c M We al' b fb) (hc : VE X c M We al'' d fc)
    (hm : lastMarks [op, op'] [b, d] = false := by with_unfolding_all rfl) : VT X c M We (.Compare a [op, op'] [b, d] pos) (tE (eChain p q fa fb fc)) := by
  obtain ⟨ta, pa, sa⟩ := ha.ex
  obtain ⟨tb, pb, sb⟩ := hb.ex
  obtain ⟨tc, pc, sc⟩ := hc.ex
  refine ⟨_, pt_chain ho ho' pa pb pc hm, fun w σ H ρ Q sl po => chain_sound rfl rfl sl sa sb sc ((Po.bind po).imp (fun d _ q H' hs k e => ?_) fun _ _ q => q)⟩
  subst e
  exact ⟨k, rfl, q H' hs⟩
theorem ve_leLt (ha : VE X c M We al a fa) (hb : VE X c M We al' b fb) (hc : VE X c M We al'' d fc) (hm : lastMarks [.LtE, .Lt] [b, d] = false := by with_unfolding_all rfl) :
    VE X c M We 0 (.Compare a [.LtE, .Lt] [b, d] pos) (eChain (fun i j => decide (i ≤ j)) (fun i j => decide (i < j)) fa fb fc) := ve_chain op_le op_lt ha hb hc hm
theorem vt_leLt (ha : VE X c M We al a fa) (hb : VE X c M We al' b fb) (hc : VE X c M We al'' d fc) (hm : lastMarks [.LtE, .Lt] [b, d] = false := by with_unfolding_all rfl) :
    VT X c M We (.Compare a [.LtE, .Lt] [b, d] pos) (tE (eChain (fun i j => decide (i ≤ j)) (fun i j => decide (i < j)) fa fb fc)) := vt_chain op_le op_lt ha hb hc hm
theorem ve_leLe (ha : VE X c M We al a fa) (hb : VE X c M We al' b fb) (hc : VE X c M We al'' d fc) (hm : lastMarks [.LtE, .LtE] [b, d] = false := by with_unfolding_all rfl) :
    VE X c M We 0 (.Compare a [.LtE, .LtE] [b, d] pos) (eChain (fun i j => decide (i ≤ j)) (fun i j => decide (i ≤ j)) fa fb fc) := ve_chain op_le op_le ha hb hc hm
theorem vt_leLe (ha : VE X c M We al a fa) (hb : VE X c M We al' b fb) (hc : VE X c M We al'' d fc) (hm : lastMarks [.LtE, .LtE] [b, d] = false := by with_unfolding_all rfl) :
    VT X c M We (.Compare a [.LtE, .LtE] [b, d] pos) (tE (eChain (fun i j => decide (i ≤ j)) (fun i j => decide (i ≤ j)) fa fb fc)) := vt_chain op_le op_le ha hb hc hm

/-! ### tests -/
theorem vt_val (h : VE X c M We al e f) (he : ∀ whole, isTrue e X.env whole = (do let v ← whole; standAt e.pos; holding [v] (truthy v)) := by intro _; rfl) : VT X c M We e (tE f) := by
  obtain ⟨te, p, s⟩ := h.ex
  refine ⟨_, pt_val p he, fun w σ H ρ Q sl po => s w σ H ρ _ sl ((Po.bind po).imp (fun d _ q v H' hs hi => ?_) fun _ _ q => q)⟩
  cases d with
  | bl k => exact ⟨k, is_bl hi, q H' hs⟩
  | _ => exact q.elim
theorem VW.vt (h : VW X c M We e t) : VT X c M We e t := by
  obtain ⟨tt, p, s⟩ := h.ex
  exact ⟨tt, p.pt, s⟩
theorem vw_and1 (h : VT X c M We a t) : VW X c M We (.BoolOp .And [a] pos) t := by
  obtain ⟨tt, p, s⟩ := h.ex
  exact ⟨tt, pw_and1 p, s⟩
theorem vw_or1 (h : VT X c M We a t) : VW X c M We (.BoolOp .Or [a] pos) t := by
  obtain ⟨tt, p, s⟩ := h.ex
  exact ⟨tt, pw_or1 p, s⟩
theorem vw_and {rest : List Expr} (h : VT X c M We a t) (h' : VW X c M We (.BoolOp .And (b :: rest) pos) t') : VW X c M We (.BoolOp .And (a :: b :: rest) pos) (tAndF t t') := by
  obtain ⟨tt, p, s⟩ := h.ex
  obtain ⟨tt', p', s'⟩ := h'.ex
  refine ⟨_, pw_and p p', fun w σ H ρ Q sl po => s w σ H ρ _ sl ((Po.bind po).imp (fun k _ q H1 hs => ?_) fun _ _ q => q)⟩
  cases k with
  | true => exact s' w σ H1 ρ Q (sl.same hs) (Po.imp (r := t' ρ) q (fun b _ q H2 hs2 => q H2 (hs.trans hs2)) fun _ _ q H2 hs2 => q H2 (hs.trans hs2))
  | false => exact q H1 hs
theorem vw_or {rest : List Expr} (h : VT X c M We a t) (h' : VW X c M We (.BoolOp .Or (b :: rest) pos) t') : VW X c M We (.BoolOp .Or (a :: b :: rest) pos) (tOrF t t') := by
  obtain ⟨tt, p, s⟩ := h.ex
  obtain ⟨tt', p', s'⟩ := h'.ex
  refine ⟨_, pw_or p p', fun w σ H ρ Q sl po => s w σ H ρ _ sl ((Po.bind po).imp (fun k _ q H1 hs => ?_) fun _ _ q => q)⟩
  cases k with
  | false => exact s' w σ H1 ρ Q (sl.same hs) (Po.imp (r := t' ρ) q (fun b _ q H2 hs2 => q H2 (hs.trans hs2)) fun _ _ q H2 hs2 => q H2 (hs.trans hs2))
  | true => exact q H1 hs
theorem vt_not (h : VT X c M We a t) : VT X c M We (.UnaryOp .Not a pos) (tNotF t) := by
  obtain ⟨tt, p, s⟩ := h.ex
  exact ⟨_, pt_not p, fun w σ H ρ Q sl po => s w σ H ρ _ sl ((Po.bind po).imp (fun k _ q H1 hs => q H1 hs) fun _ _ q => q)⟩
/-- and, or, not as values -/
theorem ve_one {op} (h : VE X c M We al a f) : VE X c M We al (.BoolOp op [a] pos) f := by
  obtain ⟨te, p, s⟩ := h.ex
  exact ⟨te, pe_one p, s⟩
theorem ve_and {rest : List Expr} (h : VE X c M We al a fa) (h' : VE X c M We al' (.BoolOp .And (b :: rest) pos) fb) : VE X c M We 0 (.BoolOp .And (a :: b :: rest) pos) (eB (tAndF (tE fa) (tE fb))) := by
  obtain ⟨te, p, s⟩ := h.ex
  obtain ⟨te', p', s'⟩ := h'.ex
  refine ⟨_, pe_and p p', fun w σ H ρ Q sl po => s w σ H ρ _ sl ((Po.bind (Po.bind (Po.bind po))).imp (fun d _ q v H1 hs hi => ?_) fun _ _ q => q)⟩
  cases d with
  | bl k =>
    refine ⟨k, is_bl hi, ?_⟩
    cases k with
    | true =>
      refine s' w σ H1 ρ Q (sl.same hs) ((Po.bind (r := fb ρ) q).imp (fun d2 _ q v2 H2 hs2 hi2 => ?_) fun _ _ q H2 hs2 => q H2 (hs.trans hs2))
      cases d2 with
      | bl k2 => rw [is_bl hi2]; exact q _ H2 (hs.trans hs2) (.bl _)
      | _ => exact q.elim
    | false => exact q _ H1 hs (.bl _)
  | _ => exact q.elim
theorem ve_or {rest : List Expr} (h : VE X c M We al a fa) (h' : VE X c M We al' (.BoolOp .Or (b :: rest) pos) fb) : VE X c M We 0 (.BoolOp .Or (a :: b :: rest) pos) (eB (tOrF (tE fa) (tE fb))) := by
  obtain ⟨te, p, s⟩ := h.ex
  obtain ⟨te', p', s'⟩ := h'.ex
  refine ⟨_, pe_or p p', fun w σ H ρ Q sl po => s w σ H ρ _ sl ((Po.bind (Po.bind (Po.bind po))).imp (fun d _ q v H1 hs hi => ?_) fun _ _ q => q)⟩
  cases d with
  | bl k =>
    refine ⟨k, is_bl hi, ?_⟩
    cases k with
    | false =>
      refine s' w σ H1 ρ Q (sl.same hs) ((Po.bind (r := fb ρ) q).imp (fun d2 _ q v2 H2 hs2 hi2 => ?_) fun _ _ q H2 hs2 => q H2 (hs.trans hs2))
      cases d2 with
      | bl k2 => rw [is_bl hi2]; exact q _ H2 (hs.trans hs2) (.bl _)
      | _ => exact q.elim
    | true => exact q _ H1 hs (.bl _)
  | _ => exact q.elim
theorem ve_not (h : VE X c M We al a f) : VE X c M We 0 (.UnaryOp .Not a pos) (eB (tNotF (tE f))) := by
  obtain ⟨te, p, s⟩ := h.ex
  refine ⟨_, pe_not p, fun w σ H ρ Q sl po => s w σ H ρ _ sl ((Po.bind (Po.bind (Po.bind po))).imp (fun d _ q v H1 hs hi => ?_) fun _ _ q => q)⟩
  cases d with
  | bl k => exact ⟨k, is_bl hi, q _ H1 hs (.bl _)⟩
  | _ => exact q.elim

/-! ### isinstance with a built-in class -/
def tyN : D → Option String
  | .non => some "NoneType"
  | .bl _ => some "bool"
  | .int _ => some "int"
  | .str _ => some "str"
  | .lst _ => some "list"
  | .tup _ => some "tuple"
  | .dct _ => some "dict"
  | .land _ => none
  | .pile _ => none
def isTy (T : String) (n : String) : Bool := n == T || (n == "bool" && T == "int")
def isTD (T : String) (d : D) : O D := match tyN d with
  | some n => .ok (.bl (isTy T n))
  | none => .bad
theorem tyx_of {W : Addr → Prop} {H : Hp} {v : V} {d : D} {n : String} (h : Is c W H v d) (hn : tyN d = some n) : TyX c.K H v (.type n) := by
  cases h with
  | non => cases hn; exact .base .non
  | bl b => cases hn; exact .base (.bl b)
  | int b => cases hn; exact .base (.int b)
  | str b => cases hn; exact .base (.str b)
  | lst h1 h2 h3 =>
    cases hn
    rcases h2 with h2 | ⟨o, h2⟩
    · exact .base (.lst h2)
    · exact .base (.frz h2)
  | lstK h2 h3 =>
    cases hn
    obtain ⟨o, its, n, h1, h2, _⟩ := h2
    exact .kList h1 h2
  | tup h1 h2 => cases hn; exact .base (.tup h1)
  | dct h1 h2 h3 h4 => cases hn; exact .base (.dT h2)
  | land _ _ => cases hn
  | pile _ _ _ _ _ => cases hn
theorem tyN_mem {d : D} {n : String} (h : tyN d = some n) : n ∈ (["NoneType", "bool", "int", "str", "list", "tuple", "dict"] : List String) := by
  cases d <;> simp [tyN] at h <;> subst h <;> decide
theorem ve_isT {T : String} {p p2 : Pos} {tn : Str} (z : Cz X c We k) (h : VE X c M We al e f) (hg : Gl X "isinstance") (hm : X.mg "isinstance" = none) (hg2 : Gl X tn) (hm2 : X.mg tn = none) (hv : bootBuiltins tn = some (.type T)) (hn : tn ≠ "__name__") (hd : (tn == ("__debug__" : Str)) = false)
    (hk : ∀ n ∈ (["NoneType", "bool", "int", "str", "list", "tuple", "dict"] : List String), kitB n T = some (isTy T n))
    (hs : starEach [e, .Name tn p2] X.env = (false, eval e X.env) :: starEach [.Name tn p2] X.env := by rfl) (hs1 : starEach [.Name tn p2] X.env = (false, eval (.Name tn p2) X.env) :: starEach [] X.env := by rfl) (hpl : (backTo pos (starEach [.Name tn p2] X.env)).any (·.1) = false := by rfl) :
    VE X c M We 0 (.Call (.Name "isinstance" p) [e, .Name tn p2] [] pos) (e1 (isTD T) f) := by
  obtain ⟨te, pe, s⟩ := h.ex
  have hb : PE X (.Name tn p2) (tC (.ty T)) := pe_bltn hg2 hm2 hv rfl hn hd
  refine ⟨_, pe_callB (call_isi (X := X)) hg hm PyProof.Rows.boot_isinstance (pa_cons pe (pa_cons hb pa_nil hs1) hs) (by decide) (by decide) hs hpl, fun w σ H ρ Q sl po => s w σ H ρ _ sl ((Po.bind po).imp (fun d _ q v H1 hs hi => ?_) fun _ _ q => q)⟩
  unfold isTD at q
  cases ht : tyN d with
  | none => rw [ht] at q; exact q.elim
  | some n =>
    rw [ht] at q
    exact ⟨v, .ty T, .type n, .type T, isTy T n, rfl, .ty T, by rw [z.K]; exact tyx_of hi ht, kit_ty (hk n (tyN_mem ht)), q _ H1 hs (.bl _)⟩

/-! ### len, list, int of a truth -/
def lenD : D → O D
  | .lst l => .ok (.int l.length)
  | .tup l => .ok (.int l.length)
  | .str s => gd (decide (s.length ≤ 100000)) (.ok (.int s.length))
  | .dct m => .ok (.int m.length)
  | _ => .bad

theorem PE.or {t1 t2 : TE} (h1 : PE X e t1) (h2 : PE X e t2) : PE X e (fun σ H Q => t1 σ H Q ∨ t2 σ H Q) := ⟨fun pins s σ H Q I h => h.elim (h1.run pins s σ H Q I) (h2.run pins s σ H Q I)⟩

theorem ve_len {p : Pos} (z : Cz X c We k) (h : VE X c M We al e f) (hg : Gl X "len") (hm : X.mg "len" = none) (hs : starEach [e] X.env = (false, eval e X.env) :: starEach [] X.env := by rfl) (hpl : (backTo pos (starEach [] X.env)).any (·.1) = false := by rfl) :
    VE X c M We 0 (.Call (.Name "len" p) [e] [] pos) (e1 lenD f) := by
  obtain ⟨te, pe, s⟩ := h.ex
  refine ⟨_, pe_callB ((call_len (X := X)).or call_len_dT) hg hm PySem.boot_len (pa_cons pe pa_nil hs) (by decide) (by decide) hs hpl, fun w σ H ρ Q sl po => s w σ H ρ _ sl ((Po.bind po).imp (fun d _ q v H1 hs hi => ?_) fun _ _ q => q)⟩
  cases d with
  | lst l =>
    obtain ⟨a, xs, rfl, h1, h2⟩ := is_lst hi
    refine .inl ⟨.ref a, l.length, rfl, .inl ⟨xs, by rw [z.K]; exact h1, h2.length.symm⟩, q _ H1 hs (.int _)⟩
  | tup l =>
    obtain ⟨a, xs, rfl, h1, h2⟩ := is_tup hi
    refine .inl ⟨.ref a, l.length, rfl, .inr ⟨xs, .of h1, h2.length.symm⟩, q _ H1 hs (.int _)⟩
  | str x =>
    obtain ⟨hl, q⟩ := Po.gd q
    exact .inl ⟨v, x.length, rfl, by rw [is_str hi]; exact ⟨sz_ok (of_decide_eq_true hl), rfl⟩, q _ H1 hs (.int _)⟩
  | dct m =>
    cases hi with
    | @dct a ks vs ds h1 h2 h3 h4 =>
      have e1 : (ks.zip vs).length = (ks.zip ds).length := by simp [List.length_zip, h3, h4.length.symm]
      exact .inr ⟨a, _, rfl, h2, by rw [e1]; exact q _ H1 hs (.int _)⟩
  | _ => exact q.elim

/-! ### an item -/
theorem isA_at {W : Addr → Prop} {H : Hp} {vs : List V} {ds : List D} {i : Int} {d : D} (h : IsA c W H vs ds) (e : atI ds i = some d) : ∃ v, atI vs i = some v ∧ Is c W H v d := by
  unfold atI at e ⊢
  rw [h.length]
  cases hn : ixN ds.length i with
  | none => rw [hn] at e; cases e
  | some j =>
    rw [hn] at e
    exact h.getD e
def keyOf : D → Option Key
  | .int i => some (.inl i)
  | .str s => some (.inr s)
  | _ => none
def keysOf : List D → Option (List Key)
  | [] => some []
  | d :: ds => match keyOf d, keysOf ds with
    | some k, some ks => some (k :: ks)
    | _, _ => none
def keyD : D → Option (List Key)
  | .tup l => keysOf l
  | _ => none
theorem keys_is {W : Addr → Prop} {H : Hp} : ∀ {vs : List V} {ds : List D} {ks : List Key}, IsA c W H vs ds → keysOf ds = some ks → vs = ks.map kV
  | _, _, _, .nil, e => by cases e; rfl
  | _, _, _, .cons (d := d) (ds := ds) h t, e => by
    unfold keysOf at e
    cases hk : keyOf d with
    | none => rw [hk] at e; cases e
    | some k =>
      cases hs : keysOf ds with
      | none => rw [hk, hs] at e; cases e
      | some ks =>
        rw [hk, hs] at e
        cases e
        rw [List.map_cons, ← keys_is t hs]
        congr 1
        cases d with
        | int i => cases hk; exact is_int h
        | str i => cases hk; exact is_str h
        | _ => cases hk
theorem key_is {W : Addr → Prop} {H : Hp} {v : V} {d : D} {ks : List Key} (h : Is c W H v d) (e : keyD d = some ks) : ∃ b, v = .ref b ∧ H b = some (.tup (ks.map kV)) := by
  cases d with
  | tup l =>
    obtain ⟨a, xs, rfl, h1, h2⟩ := is_tup h
    exact ⟨a, rfl, by rw [h1, keys_is h2 e]⟩
  | _ => cases e
def lookD (m : List (List Key × D)) (k : List Key) : Option D := (m.find? fun p => decide (p.1 = k)).map (·.2)
theorem look_is {W : Addr → Prop} {H : Hp} {k : List Key} : ∀ {ks : List (List Key)} {vs : List V} {ds : List D}, IsA c W H vs ds → vs.length = ks.length →
    (∀ d, lookD (ks.zip ds) k = some d → ∃ v, valV (ks.zip vs) k = some v ∧ Is c W H v d) ∧ (lookD (ks.zip ds) k = none → valV (ks.zip vs) k = none)
  | [], _, _, _, _ => by simp [lookD, valV]
  | k0 :: ks, [], _, _, e => by simp at e
  | k0 :: ks, v0 :: vs, _, .cons (d := d0) (ds := ds) h t, e => by
    have ih := look_is (k := k) (ks := ks) t (by simpa using e)
    unfold lookD valV at ih ⊢
    simp only [List.zip_cons_cons, List.find?_cons]
    by_cases hk : k0 = k
    · simp only [hk, decide_true, Option.map_some, Option.some.injEq, reduceCtorEq, false_implies, and_true]
      intro d e1
      subst e1
      exact ⟨v0, rfl, h⟩
    · simp only [hk, decide_false]
      exact ih
def ixD (x y : D) : O D := match x with
  | .lst l => match y with
    | .int i => ofO (atI l i)
    | _ => .bad
  | .tup l => match y with
    | .int i => ofO (atI l i)
    | _ => .bad
  | .str s => match y with
    | .int i => (ofO (atI s.cps.toList i)).bind fun ch => gd (decide (s.length ≤ 100000)) (.ok (.str ⟨#[ch]⟩))
    | _ => .bad
  | .dct m => (ofO (keyD y)).bind fun ks => ofO (lookD m ks)
  | _ => .bad
theorem ve_ix (z : Cz X c We k) (ha : VE X c M We al a fa) (hb : VE X c M We al' b fb) (hs : PlainIx b := by exact fun _ _ => rfl) : VE X c M We al (.Subscript a b pos) (e2 ixD fa fb) := by
  obtain ⟨ta, pa, sa⟩ := ha.ex
  obtain ⟨tb, pb, sb⟩ := hb.ex
  have hu : X.A.units + 1 < cLine := hu_of z.hr
  refine ⟨_, PE.or (pe_ix ix_seq pa pb hs) (pe_dget hu pa pb hs), fun w σ H ρ Q sl po => ?_⟩
  have po := Po.bind po
  by_cases hd : ∃ m, fa ρ = .ok (.dct m)
  · obtain ⟨m, hm⟩ := hd
    refine .inr (sa w σ H ρ _ sl (po.imp (fun d ed q v H1 hs hi => ?_) fun _ _ q => q))
    rw [hm] at ed
    cases ed
    refine sb w σ H1 ρ _ (sl.same hs) ((Po.bind q).imp (fun d2 _ q v2 H2 hs2 hi2 => ?_) fun _ _ q H2 hs2 => q H2 (hs.trans hs2))
    obtain ⟨ks, hk, q1⟩ := Po.ofO (Po.bind (r := ofO (keyD d2)) q)
    obtain ⟨d3, hl, q2⟩ := Po.ofO q1
    clear q q1
    obtain ⟨b, rfl, hb⟩ := key_is hi2 hk
    have hi' := hi.same hs2
    cases hi' with
    | @dct a kss vs ds h1 h2 h3 h4 =>
      obtain ⟨v3, e3, i3⟩ := (look_is h4 h3).1 d3 hl
      exact ⟨a, v3, rfl, by rw [← e3]; exact DGet.t h2 hb, q2 v3 H2 (hs.trans hs2) i3⟩
  · refine .inl (sa w σ H ρ _ sl (po.imp (fun d ed q v H1 hs hi => ?_) fun _ _ q => q))
    refine sb w σ H1 ρ _ (sl.same hs) ((Po.bind q).imp (fun d2 _ q v2 H2 hs2 hi2 => ?_) fun _ _ q H2 hs2 => q H2 (hs.trans hs2))
    have hi' := hi.same hs2
    cases d with
    | lst l =>
      cases d2 with
      | int i =>
        obtain ⟨d3, hl, q⟩ := Po.ofO q
        obtain ⟨p, xs, rfl, h1, h2⟩ := is_lst hi'
        obtain ⟨v3, e3, i3⟩ := isA_at h2 hl
        rw [is_int hi2]
        exact .inl ⟨p, xs, i, v3, rfl, rfl, by rw [z.K]; exact h1, e3, q v3 H2 (hs.trans hs2) i3⟩
      | _ => exact q.elim
    | tup l =>
      cases d2 with
      | int i =>
        obtain ⟨d3, hl, q⟩ := Po.ofO q
        obtain ⟨p, xs, rfl, h1, h2⟩ := is_tup hi'
        obtain ⟨v3, e3, i3⟩ := isA_at h2 hl
        rw [is_int hi2]
        exact .inr (.inl ⟨p, xs, i, v3, rfl, rfl, .of h1, e3, q v3 H2 (hs.trans hs2) i3⟩)
      | _ => exact q.elim
    | str x =>
      cases d2 with
      | int i =>
        obtain ⟨ch, hl, q⟩ := Po.ofO (Po.bind (r := ofO (atI x.cps.toList i)) q)
        obtain ⟨hz, q⟩ := Po.gd q
        rw [is_int hi2, is_str hi]
        exact .inr (.inr ⟨x, i, ch, rfl, rfl, sz_ok (of_decide_eq_true hz), hl, q _ H2 (hs.trans hs2) (.str _)⟩)
      | _ => exact q.elim
    | dct m => exact (hd ⟨m, ed⟩).elim
    | _ => exact q.elim

/-! ### a def's call -/
/-- what a def promises, by its meaning F; what it hands back is new, of the shape rs -/
def spP (c : Ct) (rs : Sh) (F : List D → O D) : Sp := fun vs H Q E => ∃ ds, IsA c (fun _ => True) H vs ds ∧
  Po (F ds) (fun d => ∀ v H' Fp, Same H H' → (∀ a ∈ Fp, H a = none) → Fp.Nodup → Own c (fun a => H a = none ∧ a ∉ Fp) H' rs v d Fp → Q v H') (fun k => ∀ H', Same H H' → E k none H')
theorem vo_call {x : Str} {g : Addr} {fd : FuncData} {ps : List Str} {rs : Sh} {F : List D → O D} {es : List Expr} {fs : AF} {p : Pos} (z : Cz X c We k) (G : FnOk X.prog X.w X.K X.mg X.base (L2.CX X.prog X.w) k g fd ps (spP c rs F)) (hb : Binds X.K fd ps [])
    (hm : X.mg x = some (.ref g)) (hk : PySem.W.keepIn X.K (.ref g) = true) (hg : Gl X x) (t : VA X c M We al (e :: es) fs) (hdb : (x == ("__debug__" : Str)) = false := by decide)
    (he : starEach (e :: es) X.env = (false, eval e X.env) :: starEach es X.env := by rfl) (hpl : (backTo pos (starEach es X.env)).any (·.1) = false := by rfl) :
    VO X c M We rs (.Call (.Name x p) (e :: es) [] pos) (fun ρ => (fs ρ).bind F) := by
  obtain ⟨ta, pt, s⟩ := t.ex
  refine ⟨_, pe_callS G z.hr hg hm hk hb (fun σ => passAt z.tk σ) pt hdb he hpl, fun w σ H ρ Q sl po => s w σ H ρ _ sl ((Po.bind po).imp (fun ds _ q vs H1 hs hi => ?_) fun _ _ q => q)⟩
  refine ⟨ds, hi.up fun _ _ => trivial, q.imp (fun d _ q v H' Fp hs2 hn nd ho => q v H' Fp (hs.trans hs2) (fun a ha => hs.free (hn a ha)) nd (ho.mono (fun a x => ⟨.inr (hs.free x.1), x.2⟩) fun a o _ e => e)) fun kx _ q H' hs2 => q H' (hs.trans hs2)⟩
end
end VS
set_option Elab.async false
set_option linter.all false
set_option maxRecDepth 100000
set_option maxHeartbeats 2000000
/-! VD: a def's state by its plain meaning; statements. -/
namespace VS
open PySem L2

/-- where a run stands: the heap at the def's entry, what must stand (a heap, what of it may change), the parameters that may be changed -/
structure Bs where
  H0 : Hp
  pr : List (Hp × (Addr → Prop))
  mp : List (Nat × Sh × V)
def wd (B : Bs) (Fs : Nat → List Addr) : Wd where
  n := fun a => (∀ i, a ∉ Fs i) ∧ B.H0 a = none
  b := fun a => ∀ i, a ∉ Fs i
  le := fun _ h => h.1
def Sat (c : Ct) (B : Bs) (Fs : Nat → List Addr) (H : Hp) (m : Mo) (v : V) (d : D) (F : List Addr) : Prop := match m with
  | .v al => al ≤ 1 ∧ F = [] ∧ Is c ((wd B Fs).at al) H v d
  | .o s => Own c (wd B Fs).n H s v d F
  | .p s => Own c (wd B Fs).b H s v d F
structure RelF (c : Ct) (M : Nat → Mo) (B : Bs) (Fs : Nat → List Addr) (H : Hp) (σ : L2.St) (ρ : Rho) : Prop where
  nd : ∀ i, (Fs i).Nodup
  dj : ∀ i j a, a ∈ Fs i → a ∈ Fs j → i = j
  th : ∀ i a, a ∈ Fs i → ∃ o, H a = some o ∧ ¬ sta o
  fr : ∀ p ∈ B.pr, ∀ a o, p.1 a = some o → ¬ p.2 a → H a = some o
  out : ∀ p ∈ B.pr, ∀ i a, a ∈ Fs i → p.1 a = none ∨ p.2 a
  own : ∀ i s, M i = .o s → ∀ a ∈ Fs i, B.H0 a = none
  old : ∀ a, H a = none → B.H0 a = none
  sl : ∀ i d, ρ[i]? = some (some d) → ∃ v, σ[i]? = some (some v) ∧ Sat c B Fs H (M i) v d (Fs i)
  mp : ∀ q ∈ B.mp, σ[q.1]? = some (some q.2.2) ∧ M q.1 = .p q.2.1
  len : σ.length = ρ.length
def Rel (c : Ct) (M : Nat → Mo) (B : Bs) (H : Hp) (σ : L2.St) (ρ : Rho) : Prop := ∃ Fs, RelF c M B Fs H σ ρ

section
variable {c : Ct} {M : Nat → Mo} {B : Bs} {Fs : Nat → List Addr} {H H' : Hp} {σ : L2.St} {ρ : Rho} {X : Cx} {We : WX} {k al al' i : Nat}
theorem at_any (w : Wd) : ∀ (al : Nat) (a : Addr), w.at al a → (Wd.at w 2 a) := fun _ _ _ => trivial
theorem RelF.slots (R : RelF c M B Fs H σ ρ) : Sl c M (wd B Fs) H σ ρ := ⟨R.len, fun i d e => by
  obtain ⟨v, h1, h2⟩ := R.sl i d e
  refine ⟨v, h1, ?_⟩
  unfold Sat at h2
  cases hm : M i with
  | v al => rw [hm] at h2; exact h2.2.2
  | o s => rw [hm] at h2; exact h2.toIs (fun _ _ => trivial) fun _ _ => trivial
  | p s => rw [hm] at h2; exact h2.toIs (fun _ _ => trivial) fun _ _ => trivial⟩
theorem Sat.mono {B' : Bs} {Fs' : Nat → List Addr} {m : Mo} {v : V} {d : D} {F : List Addr} (h : Sat c B Fs H m v d F) (hw : ∀ al a, al ≤ 1 → (wd B Fs).at al a → H a ≠ none → (wd B' Fs').at al a)
    (hk : ∀ a o, ((∀ i, a ∉ Fs i) ∨ a ∈ F ∨ sta o) → H a = some o → H' a = some o) : Sat c B' Fs' H' m v d F := by
  unfold Sat at h ⊢
  cases m with
  | v al =>
    obtain ⟨hal, e, h⟩ := h
    refine ⟨hal, e, h.track.mono (fun a x => hw al a hal x.1 x.2) fun a o x e => hk a o (x.elim (fun y => .inl ?_) fun y => .inr (.inr y)) e⟩
    exact (wd B Fs).up hal a y.1
  | o s =>
    refine h.track.mono (fun a x => hw 0 a (by decide) x.1 x.2) fun a o x e => hk a o (x.elim (fun y => .inl y.1.1) fun y => .inr y) e
  | p s =>
    refine h.track.mono (fun a x => hw 1 a (by decide) x.1 x.2) fun a o x e => hk a o (x.elim (fun y => .inl y.1) fun y => .inr y) e
theorem RelF.same (R : RelF c M B Fs H σ ρ) (s : Same H H') : RelF c M B Fs H' σ ρ where
  nd := R.nd
  dj := R.dj
  th := fun i a ha => let ⟨o, h1, h2⟩ := R.th i a ha; ⟨o, s a o h1, h2⟩
  fr := fun p hp a o e hn => s a o (R.fr p hp a o e hn)
  out := R.out
  own := R.own
  old := fun a e => R.old a (s.free e)
  sl := fun i d e => let ⟨v, h1, h2⟩ := R.sl i d e; ⟨v, h1, h2.mono (fun _ _ _ x _ => x) fun a o _ e => s a o e⟩
  mp := R.mp
  len := R.len
/-- the slots' functions changed at one place -/
def fset {α : Type} (f : Nat → α) (i : Nat) (x : α) : Nat → α := fun j => if j = i then x else f j
theorem fset_self {α : Type} (f : Nat → α) (i : Nat) (x : α) : fset f i x i = x := if_pos rfl
theorem fset_ne {α : Type} {f : Nat → α} {i j : Nat} {x : α} (h : j ≠ i) : fset f i x j = f j := if_neg h
/-- THE STEP: slot i's own objects are F' now, what stands outside of them stood and stands -/
theorem RelF.put (R : RelF c M B Fs H σ ρ) {F' : List Addr} {σ' : L2.St} {ρ' : Rho} (h1 : ∀ a o, a ∉ Fs i → H a = some o → H' a = some o) (h2 : ∀ a, H' a = none → H a = none) (nd : F'.Nodup) (h3 : ∀ a ∈ F', a ∈ Fs i ∨ H a = none)
    (h4 : ∀ a ∈ F', ∃ o, H' a = some o ∧ ¬ sta o) (hσ : ∀ j, j ≠ i → σ'[j]? = σ[j]?) (hρ : ∀ j, j ≠ i → ρ'[j]? = ρ[j]?) (hl : σ'.length = ρ'.length) (hm : ∀ q ∈ B.mp, q.1 = i → σ'[i]? = some (some q.2.2)) (ho : ∀ s, M i = .o s → ∀ a ∈ Fs i, B.H0 a = none)
    (hi : ∀ d, ρ'[i]? = some (some d) → ∃ v, σ'[i]? = some (some v) ∧ Sat c B (fset Fs i F') H' (M i) v d F') : RelF c M B (fset Fs i F') H' σ' ρ' where
  nd := fun j => by
    by_cases h : j = i
    · rw [h, fset_self]; exact nd
    · rw [fset_ne h]; exact R.nd j
  dj := fun j l a ha hb => by
    by_cases h : j = i
    · rw [h, fset_self] at ha
      by_cases h' : l = i
      · rw [h, h']
      · rw [fset_ne h'] at hb
        rcases h3 a ha with x | x
        · rw [h]; exact R.dj i l a x hb
        · obtain ⟨o, e, _⟩ := R.th l a hb
          rw [x] at e; cases e
    · rw [fset_ne h] at ha
      by_cases h' : l = i
      · rw [h', fset_self] at hb
        rcases h3 a hb with x | x
        · rw [h']; exact R.dj j i a ha x
        · obtain ⟨o, e, _⟩ := R.th j a ha
          rw [x] at e; cases e
      · rw [fset_ne h'] at hb; exact R.dj j l a ha hb
  th := fun j a ha => by
    by_cases h : j = i
    · rw [h, fset_self] at ha; exact h4 a ha
    · rw [fset_ne h] at ha
      obtain ⟨o, e, n⟩ := R.th j a ha
      exact ⟨o, h1 a o (fun z => h (R.dj j i a ha z)) e, n⟩
  fr := fun p hp a o e hn => h1 a o (fun z => (R.out p hp i a z).elim (fun y => by rw [y] at e; cases e) hn) (R.fr p hp a o e hn)
  out := fun p hp j a ha => by
    by_cases h : j = i
    · rw [h, fset_self] at ha
      rcases h3 a ha with x | x
      · exact R.out p hp i a x
      · by_cases hp2 : p.2 a
        · exact .inr hp2
        · refine .inl ?_
          cases e : p.1 a with
          | none => rfl
          | some o => rw [R.fr p hp a o e hp2] at x; cases x
    · rw [fset_ne h] at ha; exact R.out p hp j a ha
  own := fun j s hs a ha => by
    by_cases h : j = i
    · rw [h, fset_self] at ha
      rcases h3 a ha with x | x
      · rw [h] at hs; exact ho s hs a x
      · exact R.old a x
    · rw [fset_ne h] at ha; exact R.own j s hs a ha
  old := fun a e => R.old a (h2 a e)
  sl := fun j d e => by
    by_cases h : j = i
    · rw [h] at e ⊢
      rw [fset_self]
      exact hi d e
    · rw [hρ j h] at e
      obtain ⟨v, e1, e2⟩ := R.sl j d e
      refine ⟨v, by rw [hσ j h]; exact e1, ?_⟩
      rw [fset_ne h]
      have nin : ∀ a, (∀ l, a ∉ Fs l) → H a ≠ none → ∀ l, a ∉ fset Fs i F' l := fun a x y l z => by
        by_cases hl : l = i
        · rw [hl, fset_self] at z
          rcases h3 a z with q | q
          · exact x i q
          · exact y q
        · rw [fset_ne hl] at z; exact x l z
      refine e2.mono (fun al a hal x y => ?_) fun a o x e => h1 a o ?_ e
      · match al, hal, x with
        | 0, _, x => exact ⟨nin a x.1 y, x.2⟩
        | 1, _, x => exact nin a x y
      · intro z
        rcases x with x | x | x
        · exact x i z
        · exact h (R.dj j i a x z)
        · obtain ⟨o', e', n'⟩ := R.th i a z
          rw [e] at e'; cases e'; exact n' x
  mp := fun q hq => by
    refine ⟨?_, (R.mp q hq).2⟩
    by_cases h : q.1 = i
    · rw [h]; exact hm q hq h
    · rw [hσ _ h]; exact (R.mp q hq).1
  len := hl
/-- a name takes what can not be changed by it -/
theorem RelF.setVF (R : RelF c M B Fs H σ ρ) {v : V} {d : D} (hm : M i = .v al) (hal : al ≤ 1) (hi : i < ρ.length) (h : Is c (NW (wd B Fs) al H) H' v d) (s : Same H H') : RelF c M B (fset Fs i []) H' (σ.set i (some v)) (ρ.set i (some d)) := by
  have R' := R.same s
  refine R'.put (fun a o _ e => e) (fun _ e => e) (by simp) (by simp) (by simp) (fun j hj => List.getElem?_set_ne (Ne.symm hj)) (fun j hj => List.getElem?_set_ne (Ne.symm hj)) (by simp [R.len]) (fun q hq e => ?_) (fun s hs => by rw [hm] at hs; cases hs) fun d' e => ?_
  · have hs := (R.mp q hq).2
    rw [e, hm] at hs; cases hs
  · rw [List.getElem?_set_self hi] at e
    cases e
    refine ⟨v, List.getElem?_set_self (by rw [R.len]; exact hi), ?_⟩
    rw [hm]
    refine ⟨hal, rfl, h.track.up fun a x => ?_⟩
    have nin : (∀ l, a ∉ Fs l) → ∀ l, a ∉ fset Fs i [] l := fun x l z => by
      by_cases hl : l = i
      · rw [hl, fset_self] at z; simp at z
      · rw [fset_ne hl] at z; exact x l z
    have new : H a = none → (∀ l, a ∉ Fs l) := fun e l z => by
      obtain ⟨o, e', _⟩ := R.th l a z
      rw [e] at e'; cases e'
    match al, hal, x with
    | 0, _, ⟨.inl x, _⟩ => exact ⟨nin x.1, x.2⟩
    | 0, _, ⟨.inr x, _⟩ => exact ⟨nin (new x), R.old a x⟩
    | 1, _, ⟨.inl x, _⟩ => exact nin x
    | 1, _, ⟨.inr x, _⟩ => exact nin (new x)
theorem RelF.setV (R : RelF c M B Fs H σ ρ) {v : V} {d : D} (hm : M i = .v al) (hal : al ≤ 1) (hi : i < ρ.length) (h : Is c (NW (wd B Fs) al H) H' v d) (s : Same H H') : Rel c M B H' (σ.set i (some v)) (ρ.set i (some d)) := ⟨_, R.setVF hm hal hi h s⟩
theorem wd_drop : ∀ al a, (wd B Fs).at al a → (wd B (fset Fs i [])).at al a := by
  have nin : ∀ a, (∀ l, a ∉ Fs l) → ∀ l, a ∉ fset Fs i [] l := fun a x l z => by
    by_cases hl : l = i
    · rw [hl, fset_self] at z; simp at z
    · rw [fset_ne hl] at z; exact x l z
  intro al a x
  match al, x with
  | 0, x => exact ⟨nin a x.1, x.2⟩
  | 1, x => exact nin a x
  | _ + 2, x => trivial
/-- a name takes what is its own -/
theorem RelF.setO (R : RelF c M B Fs H σ ρ) {v : V} {d : D} {s : Sh} {F : List Addr} (hm : M i = .o s) (hi : i < ρ.length) (hs : Same H H') (hn : ∀ a ∈ F, H a = none) (nd : F.Nodup) (h : Own c (fun a => NW (wd B Fs) 0 H a ∧ a ∉ F) H' s v d F) : Rel c M B H' (σ.set i (some v)) (ρ.set i (some d)) := by
  have R' := R.same hs
  have ho := R.own i s hm
  have new : ∀ a, H a = none → (∀ l, a ∉ Fs l) := fun a e l z => by
    obtain ⟨o, e', _⟩ := R.th l a z
    rw [e] at e'; cases e'
  -- ahead: slot i owns nothing
  have R2 : RelF c M B (fset Fs i []) H' (σ.set i none) (ρ.set i none) := R'.put (fun a o _ e => e) (fun _ e => e) (by simp) (by simp) (by simp) (fun j hj => List.getElem?_set_ne (Ne.symm hj)) (fun j hj => List.getElem?_set_ne (Ne.symm hj)) (by simp [R.len]) (fun q hq e => by
    have hs := (R.mp q hq).2
    rw [e, hm] at hs; cases hs) (fun s hs => R.own i s hs) fun d' e => by
    rw [List.getElem?_set_self hi] at e; cases e
  refine ⟨fset Fs i F, ?_⟩
  have ef : ∀ j, j ≠ i → fset Fs i F j = Fs j := fun j h => fset_ne h
  have nin : ∀ a, (∀ l, a ∉ Fs l) → a ∉ F → ∀ l, a ∉ fset Fs i F l := fun a x y l z => by
    by_cases hl : l = i
    · rw [hl, fset_self] at z; exact y z
    · rw [fset_ne hl] at z; exact x l z
  have hth := fun a ha => h.there a ha
  refine ⟨fun j => ?_, fun j l a ha hb => ?_, fun j a ha => ?_, R2.fr, fun p hp j a ha => ?_, fun j s' hs' a ha => ?_, R2.old, fun j d' e => ?_, fun q hq => ?_, by simp [R.len]⟩
  · by_cases hj : j = i
    · rw [hj, fset_self]; exact nd
    · rw [fset_ne hj]; exact R.nd j
  · by_cases hj : j = i
    · rw [hj, fset_self] at ha
      by_cases hl : l = i
      · rw [hj, hl]
      · rw [fset_ne hl] at hb; exact (new a (hn a ha) l hb).elim
    · rw [fset_ne hj] at ha
      by_cases hl : l = i
      · rw [hl, fset_self] at hb; exact (new a (hn a hb) j ha).elim
      · rw [fset_ne hl] at hb; exact R.dj j l a ha hb
  · by_cases hj : j = i
    · rw [hj, fset_self] at ha; exact hth a ha
    · rw [fset_ne hj] at ha; exact R'.th j a ha
  · by_cases hj : j = i
    · rw [hj, fset_self] at ha
      by_cases hp2 : p.2 a
      · exact .inr hp2
      · refine .inl ?_
        cases e : p.1 a with
        | none => rfl
        | some o =>
          have := R.fr p hp a o e hp2
          rw [hn a ha] at this; cases this
    · rw [fset_ne hj] at ha; exact R.out p hp j a ha
  · by_cases hj : j = i
    · rw [hj, fset_self] at ha; exact R.old a (hn a ha)
    · rw [fset_ne hj] at ha; exact R.own j s' hs' a ha
  · by_cases hj : j = i
    · rw [hj, List.getElem?_set_self hi] at e
      cases e
      rw [hj, fset_self]
      refine ⟨v, List.getElem?_set_self (by rw [R.len]; exact hi), ?_⟩
      rw [hm]
      refine h.mono (fun a x => ?_) fun a o _ e => e
      rcases x.1 with y | y
      · exact ⟨nin a y.1 x.2, y.2⟩
      · exact ⟨nin a (new a y) x.2, R.old a y⟩
    · rw [List.getElem?_set_ne (Ne.symm hj)] at e
      obtain ⟨v', e1, e2⟩ := R.sl j d' e
      refine ⟨v', by rw [List.getElem?_set_ne (Ne.symm hj)]; exact e1, ?_⟩
      rw [fset_ne hj]
      refine e2.mono (fun al a hal x y => ?_) fun a o _ e => hs a o e
      have yF : a ∉ F := fun z => y (hn a z)
      match al, hal, x with
      | 0, _, x => exact ⟨nin a x.1 yF, x.2⟩
      | 1, _, x => exact nin a x yF
  · obtain ⟨h1, h2⟩ := R.mp q hq
    refine ⟨?_, h2⟩
    rw [List.getElem?_set_ne (fun e => by rw [← e, hm] at h2; cases h2)]
    exact h1

/-- a slot is given up; it may be of another kind then -/
theorem RelF.remode (R : RelF c M B Fs H σ ρ) (m : Mo) (hp : ∀ s, M i ≠ .p s) : RelF c (fset M i m) B (fset Fs i []) H σ (ρ.set i none) where
  nd := fun j => by
    by_cases h : j = i
    · rw [h, fset_self]; simp
    · rw [fset_ne h]; exact R.nd j
  dj := fun j l a ha hb => by
    by_cases h : j = i
    · rw [h, fset_self] at ha; simp at ha
    · by_cases h' : l = i
      · rw [h', fset_self] at hb; simp at hb
      · rw [fset_ne h] at ha; rw [fset_ne h'] at hb; exact R.dj j l a ha hb
  th := fun j a ha => by
    by_cases h : j = i
    · rw [h, fset_self] at ha; simp at ha
    · rw [fset_ne h] at ha; exact R.th j a ha
  fr := R.fr
  out := fun p hp j a ha => by
    by_cases h : j = i
    · rw [h, fset_self] at ha; simp at ha
    · rw [fset_ne h] at ha; exact R.out p hp j a ha
  own := fun j s hs a ha => by
    by_cases h : j = i
    · rw [h, fset_self] at ha; simp at ha
    · rw [fset_ne h] at ha hs; exact R.own j s hs a ha
  old := R.old
  sl := fun j d e => by
    by_cases h : j = i
    · rw [h] at e
      by_cases hi : i < ρ.length
      · rw [List.getElem?_set_self hi] at e; cases e
      · rw [List.getElem?_eq_none (by simpa using hi)] at e; cases e
    · rw [List.getElem?_set_ne (Ne.symm h)] at e
      obtain ⟨v, e1, e2⟩ := R.sl j d e
      refine ⟨v, e1, ?_⟩
      rw [fset_ne h, fset_ne h]
      exact e2.mono (fun al a _ x _ => wd_drop al a x) fun a o _ e => e
  mp := fun q hq => by
    obtain ⟨h1, h2⟩ := R.mp q hq
    refine ⟨h1, ?_⟩
    rw [fset_ne (fun e => hp _ (by rw [← e]; exact h2))]
    exact h2
  len := by simp [R.len]
theorem NW.drop {al : Nat} : ∀ a, NW (wd B Fs) al H a → NW (wd B (fset Fs i [])) al H a := fun a x => x.elim (fun y => .inl (wd_drop al a y)) .inr
theorem RelF.setVM (R : RelF c M B Fs H σ ρ) {v : V} {d : D} (hp : ∀ s, M i ≠ .p s) (hal : al ≤ 1) (hi : i < ρ.length) (h : Is c (NW (wd B Fs) al H) H' v d) (s : Same H H') : Rel c (fset M i (.v al)) B H' (σ.set i (some v)) (ρ.set i (some d)) := by
  have := (R.remode (.v al) hp).setV (i := i) (fset_self _ _ _) hal (by simpa using hi) (h.up NW.drop) s
  rw [List.set_set] at this
  exact this
theorem RelF.setOM (R : RelF c M B Fs H σ ρ) {v : V} {d : D} {s : Sh} {F : List Addr} (hp : ∀ s, M i ≠ .p s) (hi : i < ρ.length) (hs : Same H H') (hn : ∀ a ∈ F, H a = none) (nd : F.Nodup) (h : Own c (fun a => NW (wd B Fs) 0 H a ∧ a ∉ F) H' s v d F) : Rel c (fset M i (.o s)) B H' (σ.set i (some v)) (ρ.set i (some d)) := by
  have := (R.remode (.o s) hp).setO (i := i) (fset_self _ _ _) (by simpa using hi) hs hn nd (h.mono (fun a x => ⟨NW.drop a x.1, x.2⟩) fun a o _ e => e)
  rw [List.set_set] at this
  exact this
end
end VS
set_option Elab.async false
set_option linter.all false
set_option maxRecDepth 100000
set_option maxHeartbeats 2000000
/-! VF: statements by their plain meaning. -/
namespace VS
open PySem L2

inductive Out where
  | nx (ρ : Rho)
  | rt (d : D) (ρ : Rho)
  | bk (ρ : Rho)
  | ct (ρ : Rho)
abbrev SF := Rho → O Out

def FrB (B : Bs) (H : Hp) : Prop := ∀ p ∈ B.pr, ∀ a o, p.1 a = some o → ¬ p.2 a → H a = some o
/-- what a def hands back, and what stands then -/
def RetOk (c : Ct) (B : Bs) (rs : Sh) (H : Hp) (v : V) (d : D) (ρ : Rho) : Prop := ∃ (M : Nat → Mo) (Fs : Nat → List Addr) (σ : L2.St) (F : List Addr), RelF c M B Fs H σ ρ ∧ F.Nodup ∧ (∀ a ∈ F, B.H0 a = none ∧ ∀ i, a ∉ Fs i) ∧
  Own c (fun a => B.H0 a = none ∧ (∀ i, a ∉ Fs i) ∧ a ∉ F) H rs v d F
def PoS (c : Ct) (Ml M' : Nat → Mo) (B : Bs) (rs : Sh) (We : WX) (r : O Out) (D : Ends) : Prop := Po r (fun out => match out with
  | .nx ρ => ∀ σ H, Rel c M' B H σ ρ → D.nx σ H
  | .rt d ρ => ∀ v H, RetOk c B rs H v d ρ → D.rt v H
  | .bk ρ => ∀ σ H, Rel c Ml B H σ ρ → D.bk σ H
  | .ct ρ => ∀ σ H, Rel c Ml B H σ ρ → D.ct σ H) (fun k => ∀ σ H, FrB B H → We k none σ H)
structure VSt (X : Cx) (c : Ct) (We : WX) (rs : Sh) (Ml M M' : Nat → Mo) (st : Stmt) (g : SF) : Prop where
  ex : ∃ t, PS X st t ∧ ∀ (B : Bs) (σ : L2.St) (H : Hp) (ρ : Rho) (D : Ends), Rel c M B H σ ρ → PoS c Ml M' B rs We (g ρ) D → t D σ H
structure VSs (X : Cx) (c : Ct) (We : WX) (rs : Sh) (Ml M M' : Nat → Mo) (sts : List Stmt) (g : SF) : Prop where
  ex : ∃ t, PSs X sts t ∧ ∀ (B : Bs) (σ : L2.St) (H : Hp) (ρ : Rho) (D : Ends), Rel c M B H σ ρ → PoS c Ml M' B rs We (g ρ) D → t D σ H

/-! ### meanings -/
def sNx : SF := fun ρ => .ok (.nx ρ)
def sSeq (f g : SF) : SF := fun ρ => (f ρ).bind fun out => match out with
  | .nx ρ => g ρ
  | o => .ok o
def sSet (i : Nat) (f : EF) : SF := fun ρ => (f ρ).bind fun d => gd (decide (i < ρ.length)) (.ok (.nx (ρ.set i (some d))))
def sDrop (f : EF) : SF := fun ρ => (f ρ).bind fun _ => .ok (.nx ρ)
def sRet (f : EF) : SF := fun ρ => (f ρ).bind fun d => .ok (.rt d ρ)
def sRetN : SF := fun ρ => .ok (.rt .non ρ)
def sRetV (i : Nat) : SF := fun ρ => (eVar i ρ).bind fun d => .ok (.rt d (ρ.set i none))
def sIf (t : TF) (f g : SF) : SF := fun ρ => (t ρ).bind fun b => if b = true then f ρ else g ρ
def sBk : SF := fun ρ => .ok (.bk ρ)
def sCt : SF := fun ρ => .ok (.ct ρ)
def sExc (k : Value) : SF := fun _ => .exc k
def lstD : D → O (List D)
  | .lst l => .ok l
  | _ => .bad
def sApp (i : Nat) (f : EF) : SF := fun ρ => (eVar i ρ).bind fun x => (lstD x).bind fun l => (f ρ).bind fun d => gd (decide (l.length < 100000)) (.ok (.nx (ρ.set i (some (.lst (l ++ [d]))))))
/-- x.append(y), y its own: it goes -/
def sAppV (i j : Nat) : SF := fun ρ => (eVar i ρ).bind fun x => (lstD x).bind fun l => (eVar j ρ).bind fun d => gd (decide (l.length < 100000) && decide (i ≠ j)) (.ok (.nx ((ρ.set j none).set i (some (.lst (l ++ [d]))))))
def sClear (i : Nat) : SF := fun ρ => (eVar i ρ).bind fun x => (lstD x).bind fun _ => .ok (.nx (ρ.set i (some (.lst []))))

section
variable {c : Ct} {M M' M1 Ml : Nat → Mo} {B : Bs} {H H' : Hp} {σ : L2.St} {ρ : Rho} {X : Cx} {We : WX} {k al al' i j : Nat} {rs : Sh} {st : Stmt} {sts : List Stmt} {e : Expr} {f : EF} {g g' : SF} {t : TF} {pos : Pos}
theorem Po.exc_up {α : Type} {r : O α} {P : α → Prop} {Fs : Nat → List Addr} (R : RelF c M B Fs H σ ρ) (h : Po r P (fun k => ∀ σ H, FrB B H → We k none σ H)) : Po r P (fun k => ∀ H', Same H H' → We k none σ H') :=
  h.imp (fun _ _ q => q) fun _ _ q H' hs => q σ H' fun p hp a o e hn => hs a o (R.fr p hp a o e hn)
theorem vss_nil : VSs X c We rs Ml M M [] sNx := ⟨_, pss_nil, fun B σ H ρ D R po => po σ H R⟩
theorem vss_one (h : VSt X c We rs Ml M M' st g) : VSs X c We rs Ml M M' [st] g := by
  obtain ⟨t, p, s⟩ := h.ex
  exact ⟨t, pss_one p, s⟩
theorem vss_cons (h : VSt X c We rs Ml M M1 st g) (h' : VSs X c We rs Ml M1 M' sts g') : VSs X c We rs Ml M M' (st :: sts) (sSeq g g') := by
  obtain ⟨t, p, s⟩ := h.ex
  obtain ⟨t', p', s'⟩ := h'.ex
  refine ⟨_, pss_cons p p', fun B σ H ρ D R po => s B σ H ρ _ R ((Po.bind po).imp (fun out _ q => ?_) fun _ _ q => q)⟩
  cases out with
  | nx ρ => exact fun σ H R => s' B σ H ρ D R q
  | rt d ρ => exact q
  | bk ρ => exact q
  | ct ρ => exact q
theorem vs_pass : VSt X c We rs Ml M M (.Pass pos) sNx := ⟨_, ps_pass, fun B σ H ρ D R po => po σ H R⟩
theorem vs_doc {x j p} : VSt X c We rs Ml M M (.Expr (.Constant (.str x) j p) pos) sNx := ⟨_, ps_doc, fun B σ H ρ D R po => po σ H R⟩
theorem vs_bk : VSt X c We rs Ml Ml M' (.Break pos) sBk := ⟨_, ps_break, fun B σ H ρ D R po => po σ H R⟩
theorem vs_ct : VSt X c We rs Ml Ml M' (.Continue pos) sCt := ⟨_, ps_continue, fun B σ H ρ D R po => po σ H R⟩
theorem vs_expr (h : VE X c M We al e f) (hs : swapsWith e none pos.line X.env = pure false := by rfl) : VSt X c We rs Ml M M (.Expr e pos) (sDrop f) := by
  obtain ⟨te, p, s⟩ := h.ex
  refine ⟨_, ps_expr p hs, fun B σ H ρ D R po => ?_⟩
  obtain ⟨Fs, R⟩ := R
  exact s _ σ H ρ _ R.slots ((Po.exc_up R (Po.bind po)).imp (fun d _ q v H' hs hi => q σ H' ⟨Fs, R.same hs⟩) fun _ _ q => q)
theorem vs_set {x : Str} {pos' : Pos} (i : Nat) (al : Nat) (h : VE X c M We al e f) (hm : M i = .v al) (hal : al ≤ 1) (hN : X.N.Nodup) (hi : X.N[i]? = some x := by rfl) (hx : Loc X.env.scope x := by exact .inl rfl) (hs : swapsWith e (some (.Name x pos')) pos.line X.env = pure false := by rfl)
    (hf : X.fn x = true ∨ X.env.scope.names.lookup x = some .local := by first | exact .inl rfl | exact .inr rfl) : VSt X c We rs Ml M M (.Assign [.Name x pos'] e pos) (sSet i f) := by
  obtain ⟨te, p, s⟩ := h.ex
  refine ⟨_, ps_set (i := i) hN hi hx p hs hf, fun B σ H ρ D R po => ?_⟩
  obtain ⟨Fs, R⟩ := R
  refine s _ σ H ρ _ R.slots ((Po.exc_up R (Po.bind po)).imp (fun d _ q v H' hs hi => ?_) fun _ _ q => q)
  obtain ⟨hl, q⟩ := Po.gd q
  exact q _ H' (R.setV hm hal (of_decide_eq_true hl) hi hs)
theorem vs_setO {x : Str} {pos' : Pos} {s : Sh} (i : Nat) (h : VO X c M We s e f) (hm : M i = .o s) (hN : X.N.Nodup) (hi : X.N[i]? = some x := by rfl) (hx : Loc X.env.scope x := by exact .inl rfl) (hs : swapsWith e (some (.Name x pos')) pos.line X.env = pure false := by rfl)
    (hf : X.fn x = true ∨ X.env.scope.names.lookup x = some .local := by first | exact .inl rfl | exact .inr rfl) : VSt X c We rs Ml M M (.Assign [.Name x pos'] e pos) (sSet i f) := by
  obtain ⟨te, p, s⟩ := h.ex
  refine ⟨_, ps_set (i := i) hN hi hx p hs hf, fun B σ H ρ D R po => ?_⟩
  obtain ⟨Fs, R⟩ := R
  refine s _ σ H ρ _ R.slots ((Po.exc_up R (Po.bind po)).imp (fun d _ q v H' F hs hn nd ho => ?_) fun _ _ q => q)
  obtain ⟨hl, q⟩ := Po.gd q
  exact q _ H' (R.setO hm (of_decide_eq_true hl) hs hn nd ho)
/-- .. the slot of another kind then -/
theorem vs_setM {x : Str} {pos' : Pos} (i : Nat) (al : Nat) (h : VE X c M We al e f) (hm : ∀ s, M i ≠ .p s) (hal : al ≤ 1) (hN : X.N.Nodup) (hi : X.N[i]? = some x := by rfl) (hx : Loc X.env.scope x := by exact .inl rfl) (hs : swapsWith e (some (.Name x pos')) pos.line X.env = pure false := by rfl)
    (hf : X.fn x = true ∨ X.env.scope.names.lookup x = some .local := by first | exact .inl rfl | exact .inr rfl) : VSt X c We rs Ml M (fset M i (.v al)) (.Assign [.Name x pos'] e pos) (sSet i f) := by
  obtain ⟨te, p, s⟩ := h.ex
  refine ⟨_, ps_set (i := i) hN hi hx p hs hf, fun B σ H ρ D R po => ?_⟩
  obtain ⟨Fs, R⟩ := R
  refine s _ σ H ρ _ R.slots ((Po.exc_up R (Po.bind po)).imp (fun d _ q v H' hs hi => ?_) fun _ _ q => q)
  obtain ⟨hl, q⟩ := Po.gd q
  exact q _ H' (R.setVM hm hal (of_decide_eq_true hl) hi hs)
theorem vs_setOM {x : Str} {pos' : Pos} {s : Sh} (i : Nat) (h : VO X c M We s e f) (hm : ∀ s, M i ≠ .p s) (hN : X.N.Nodup) (hi : X.N[i]? = some x := by rfl) (hx : Loc X.env.scope x := by exact .inl rfl) (hs : swapsWith e (some (.Name x pos')) pos.line X.env = pure false := by rfl)
    (hf : X.fn x = true ∨ X.env.scope.names.lookup x = some .local := by first | exact .inl rfl | exact .inr rfl) : VSt X c We rs Ml M (fset M i (.o s)) (.Assign [.Name x pos'] e pos) (sSet i f) := by
  obtain ⟨te, p, s⟩ := h.ex
  refine ⟨_, ps_set (i := i) hN hi hx p hs hf, fun B σ H ρ D R po => ?_⟩
  obtain ⟨Fs, R⟩ := R
  refine s _ σ H ρ _ R.slots ((Po.exc_up R (Po.bind po)).imp (fun d _ q v H' F hs hn nd ho => ?_) fun _ _ q => q)
  obtain ⟨hl, q⟩ := Po.gd q
  exact q _ H' (R.setOM hm (of_decide_eq_true hl) hs hn nd ho)
/-- y = [.. for ..] on one line -/
theorem RelF.newNot {Fs : Nat → List Addr} (R : RelF c M B Fs H σ ρ) {a : Addr} (e : H a = none) : ∀ l, a ∉ Fs l := fun l z => by
  obtain ⟨o, e', _⟩ := R.th l a z
  rw [e] at e'; cases e'
theorem vs_ret (h : VO X c M We rs e f) : VSt X c We rs Ml M M' (.Return (some e) pos) (sRet f) := by
  obtain ⟨te, p, s⟩ := h.ex
  refine ⟨_, ps_ret p, fun B σ H ρ D R po => ?_⟩
  obtain ⟨Fs, R⟩ := R
  refine s _ σ H ρ _ R.slots ((Po.exc_up R (Po.bind po)).imp (fun d _ q v H' F hs hn nd ho => ?_) fun _ _ q => q)
  refine q v H' ⟨M, Fs, σ, F, R.same hs, nd, fun a ha => ⟨R.old a (hn a ha), R.newNot (hn a ha)⟩, ho.mono (fun a x => ?_) fun a o _ e => e⟩
  rcases x.1 with y | y
  · exact ⟨y.2, y.1, x.2⟩
  · exact ⟨R.old a y, R.newNot y, x.2⟩
theorem vs_retN : VSt X c We .fz Ml M M' (.Return none pos) sRetN := by
  refine ⟨_, ps_retN, fun B σ H ρ D R po => ?_⟩
  obtain ⟨Fs, R⟩ := R
  exact po .non H ⟨M, Fs, σ, [], R, by simp, by simp, rfl, .non⟩
/-- return x, x its own -/
theorem vs_retV {x : Str} {p2 : Pos} (i : Nat) (hm : M i = .o rs) (hN : X.N[i]? = some x := by rfl) (hv : Vis X.env.scope x := by first | exact Or.inl rfl | exact Or.inr (Or.inl rfl) | exact Or.inr (Or.inr rfl)) (hd : (x == ("__debug__" : Str)) = false := by decide)
    (hcd : (x == ("__classdict__" : Str)) = false := by decide) : VSt X c We rs Ml M M' (.Return (some (.Name x p2)) pos) (sRetV i) := by
  refine ⟨_, ps_ret (pv i hN hv hd hcd), fun B σ H ρ D R po => ?_⟩
  obtain ⟨Fs, R⟩ := R
  have po := Po.bind po
  unfold eVar at po
  cases hr : ρ[i]? with
  | none => rw [hr] at po; exact po.elim
  | some o =>
    cases o with
    | none => rw [hr] at po; exact po.elim
    | some d =>
      rw [hr] at po
      obtain ⟨v, h1, h2⟩ := R.sl i d hr
      have hi : i < ρ.length := (List.getElem?_eq_some_iff.mp hr).1
      rw [hm] at h2
      have R2 : RelF c M B (fset Fs i []) H (σ.set i none) (ρ.set i none) := R.put (fun a o _ e => e) (fun _ e => e) (by simp) (by simp) (by simp) (fun j hj => List.getElem?_set_ne (Ne.symm hj)) (fun j hj => List.getElem?_set_ne (Ne.symm hj)) (by simp [R.len]) (fun q hq e => by
        have hs := (R.mp q hq).2
        rw [e, hm] at hs; cases hs) (fun s hs => R.own i s hs) fun d' e => by
        rw [List.getElem?_set_self hi] at e; cases e
      refine ⟨v, h1, po v H ⟨M, fset Fs i [], σ.set i none, Fs i, R2, R.nd i, fun a ha => ⟨R.own i rs hm a ha, fun j z => ?_⟩, ?_⟩⟩
      · by_cases hj : j = i
        · rw [hj, fset_self] at z; simp at z
        · rw [fset_ne hj] at z; exact hj (R.dj j i a z ha)
      · refine Own.mono (fun a x => ⟨x.2, fun j z => ?_, x.1 i⟩) (fun a o _ e => e) h2
        by_cases hj : j = i
        · rw [hj, fset_self] at z; simp at z
        · rw [fset_ne hj] at z; exact x.1 j z
theorem vs_if {cnd : Expr} {a b : List Stmt} (hc : VT X c M We cnd t) (ha : VSs X c We rs Ml M M' a g) (hb : VSs X c We rs Ml M M' b g') : VSt X c We rs Ml M M' (.If cnd a b pos) (sIf t g g') := by
  obtain ⟨tt, p, s⟩ := hc.ex
  obtain ⟨ta, pa, sa⟩ := ha.ex
  obtain ⟨tb, pb, sb⟩ := hb.ex
  refine ⟨_, ps_if p pa pb, fun B σ H ρ D R po => ?_⟩
  obtain ⟨Fs, R⟩ := R
  refine s _ σ H ρ _ R.slots ((Po.exc_up R (Po.bind po)).imp (fun k _ q H' hs => ?_) fun _ _ q => q)
  cases k with
  | true => exact iteT (sa B σ H' ρ D ⟨Fs, R.same hs⟩ q)
  | false => exact iteF (sb B σ H' ρ D ⟨Fs, R.same hs⟩ q)
/-- an own list becomes frozen from here on -/
theorem vss_freeze (i : Nat) {s : Sh} (hm : M i = .o s) (h : VSs X c We rs Ml (fset M i (.v 0)) M' sts g) : VSs X c We rs Ml M M' sts g := by
  obtain ⟨t, p, s'⟩ := h.ex
  refine ⟨t, p, fun B σ H ρ D R po => s' B σ H ρ D ?_ po⟩
  obtain ⟨Fs, R⟩ := R
  have hsub : ∀ j a, a ∈ fset Fs i [] j → a ∈ Fs j := fun j a z => by
    by_cases hj : j = i
    · rw [hj, fset_self] at z; simp at z
    · rw [fset_ne hj] at z; exact z
  refine ⟨fset Fs i [], fun j => ?_, fun j l a ha hb => R.dj j l a (hsub j a ha) (hsub l a hb), fun j a ha => R.th j a (hsub j a ha), R.fr, fun p hp j a ha => R.out p hp j a (hsub j a ha), fun j s hs a ha => ?_, R.old, fun j d e => ?_, fun q hq => ?_, R.len⟩
  · by_cases hj : j = i
    · rw [hj, fset_self]; simp
    · rw [fset_ne hj]; exact R.nd j
  · by_cases hj : j = i
    · rw [hj, fset_self] at ha; simp at ha
    · rw [fset_ne hj] at hs ha; exact R.own j s hs a ha
  · obtain ⟨v, e1, e2⟩ := R.sl j d e
    refine ⟨v, e1, ?_⟩
    by_cases hj : j = i
    · subst hj
      rw [fset_self, fset_self]
      rw [hm] at e2
      refine ⟨by decide, rfl, ?_⟩
      refine Own.toIs (W' := (wd B (fset Fs j [])).n) (fun a x => ⟨fun l z => x.1 l (hsub l a z), x.2⟩) (fun a ha => ⟨fun l z => ?_, R.own j s hm a ha⟩) e2
      by_cases hl : l = j
      · rw [hl, fset_self] at z; simp at z
      · rw [fset_ne hl] at z; exact hl (R.dj l j a z ha)
    · rw [fset_ne hj, fset_ne hj]
      refine e2.mono (fun al a hal x y => ?_) fun a o _ e => e
      match al, hal, x with
      | 0, _, x => exact ⟨fun l z => x.1 l (hsub l a z), x.2⟩
      | 1, _, x => exact fun l z => x l (hsub l a z)
  · obtain ⟨h1, h2⟩ := R.mp q hq
    refine ⟨h1, ?_⟩
    rw [fset_ne (fun e => by rw [e, hm] at h2; cases h2)]
    exact h2

/-- a slot is given up ahead of what follows, it may be of another kind then -/
theorem vss_kill (i : Nat) (m : Mo) (hm : ∀ s, M i ≠ .p s) (h : VSs X c We rs Ml (fset M i m) M' sts g) : VSs X c We rs Ml M M' sts (fun ρ => g (ρ.set i none)) := by
  obtain ⟨t, p, s⟩ := h.ex
  refine ⟨t, p, fun B σ H ρ D R po => ?_⟩
  obtain ⟨Fs, R⟩ := R
  exact s B σ H _ D ⟨_, R.remode m hm⟩ po

/-! ### an own list grows -/
theorem eVar_ok {d : D} (h : eVar i ρ = .ok d) : ρ[i]? = some (some d) := by
  unfold eVar at h
  cases hr : ρ[i]? with
  | none => rw [hr] at h; cases h
  | some o =>
    cases o with
    | none => rw [hr] at h; cases h
    | some d' => rw [hr] at h; cases h; rfl
/-- an own list stands at p; it may be changed there -/
theorem RelF.lst {Fs : Nat → List Addr} {s : Sh} {ds : List D} (R : RelF c M B Fs H σ ρ) (hm : M i = .o (.l s)) (e : ρ[i]? = some (some (.lst ds))) : ∃ p xs Gs, σ[i]? = some (some (.ref p)) ∧ H p = some (.lst xs) ∧ P3 (Own c (wd B Fs).n H s) xs ds Gs ∧ Fs i = p :: Gs.flatten ∧
    (∀ H1 o (W' : Addr → Prop) v d G, Same H H1 → G ∈ Gs → (∀ a, (wd B Fs).n a → H a ≠ none → W' a) → Own c (wd B Fs).n H s v d G → Own c W' (upd H1 p o) s v d G) ∧
    ∀ H1 xs' ds' Gs', Same H H1 → P3 (Own c (wd B (fset Fs i (p :: Gs'.flatten))).n (upd H1 p (.lst xs')) s) xs' ds' Gs' → (p :: Gs'.flatten).Nodup → (∀ a ∈ Gs'.flatten, a ∈ Gs.flatten ∨ H a = none) →
      RelF c M B (fset Fs i (p :: Gs'.flatten)) (upd H1 p (.lst xs')) σ (ρ.set i (some (.lst ds'))) := by
  obtain ⟨v, h1, h2⟩ := R.sl i _ e
  have hi : i < ρ.length := (List.getElem?_eq_some_iff.mp e).1
  rw [hm] at h2
  obtain ⟨p, xs, ds0, Gs, rfl, ed, hp, h3, eF⟩ := h2
  cases ed
  have nd := R.nd i
  rw [eF] at nd
  have hpG : p ∉ Gs.flatten := (List.nodup_cons.mp nd).1
  refine ⟨p, xs, Gs, h1, hp, h3, eF, fun H1 o W' v d G hs hG hw ho => ?_, fun H1 xs' ds' Gs' hs h5 nd' hn => ?_⟩
  · refine ho.track.mono (fun a x => hw a x.1 x.2) fun a u x eu => ?_
    have hap : a ≠ p := by
      intro z
      subst z
      rcases x with x | x | x
      · exact x.1.1 i (by rw [eF]; simp)
      · exact hpG (mem_flat hG x)
      · rw [hp] at eu; cases eu; exact x
    rw [upd_ne hap]; exact hs a u eu
  · have there : ∀ a ∈ Gs'.flatten, ∃ o, upd H1 p (.lst xs') a = some o ∧ ¬ sta o := fun a ha => by
      obtain ⟨G, hG, hx⟩ := List.mem_flatten.mp ha
      obtain ⟨v', d', h'⟩ := h5.mem hG
      exact h'.there a hx
    refine R.put (H' := upd H1 p (.lst xs')) (fun a o hna ea => ?_) (fun a ea => ?_) nd' (fun a ha => ?_) (fun a ha => ?_) (fun j hj => rfl) (fun j hj => List.getElem?_set_ne (Ne.symm hj)) (by simp [R.len]) (fun q hq eq => ?_) (fun s hs => R.own i s hs) fun d' ed' => ?_
    · rw [upd_ne (fun z => hna (by rw [eF, z]; simp))]; exact hs a o ea
    · by_cases h : a = p
      · rw [h, upd_same] at ea; cases ea
      · rw [upd_ne h] at ea; exact hs.free ea
    · rcases List.mem_cons.mp ha with z | z
      · exact .inl (by rw [eF, z]; simp)
      · rcases hn a z with y | y
        · exact .inl (by rw [eF]; simp only [List.mem_cons]; exact .inr y)
        · exact .inr y
    · rcases List.mem_cons.mp ha with z | z
      · rw [z, upd_same]; exact ⟨_, rfl, fun y => y⟩
      · exact there a z
    · have hs2 := (R.mp q hq).2
      rw [eq, hm] at hs2; cases hs2
    · rw [List.getElem?_set_self hi] at ed'
      cases ed'
      refine ⟨_, h1, ?_⟩
      rw [hm]
      exact ⟨p, xs', ds', Gs', rfl, rfl, upd_same, h5, rfl⟩

theorem P3.fzNil {W : Addr → Prop} : ∀ {vs ds Fs}, P3 (Own c W H .fz) vs ds Fs → ∀ G ∈ Fs, G = []
  | _, _, _, .nil, _, h => by simp at h
  | _, _, _, .cons h t, G, hG => by
    rcases List.mem_cons.mp hG with e | hG
    · rw [e]; exact h.1
    · exact t.fzNil G hG
theorem flat_nil {Gs : List (List Addr)} (h : ∀ G ∈ Gs, G = []) : Gs.flatten = [] := by
  induction Gs with
  | nil => rfl
  | cons G Gs ih => rw [List.flatten_cons, h G (by simp), ih fun G hG => h G (by simp [hG])]; rfl
/-- a new frozen item at the end of an own list of frozen items -/
theorem RelF.app {Fs : Nat → List Addr} {ds : List D} {v : V} {d : D} (R : RelF c M B Fs H σ ρ) (hm : M i = .o (.l .fz)) (e : ρ[i]? = some (some (.lst ds))) (hs : Same H H') (hv : Is c (NW (wd B Fs) 0 H) H' v d) :
    ∃ p xs, σ[i]? = some (some (.ref p)) ∧ H p = some (.lst xs) ∧ xs.length = ds.length ∧ Rel c M B (upd H' p (.lst (xs ++ [v]))) σ (ρ.set i (some (.lst (ds ++ [d])))) := by
  obtain ⟨p, xs, Gs, h1, hp, h3, eF, keep, put⟩ := R.lst hm e
  refine ⟨p, xs, h1, hp, h3.length.1, _, put H' (xs ++ [v]) (ds ++ [d]) (Gs ++ [[]]) hs ?_ ?_ ?_⟩
  · have sub : ∀ a, (wd B Fs).n a → (wd B (fset Fs i (p :: (Gs ++ [[]]).flatten))).n a := fun a x => ⟨fun l z => by
      by_cases hl : l = i
      · rw [hl, fset_self] at z
        exact x.1 i (by rw [eF]; simpa using z)
      · rw [fset_ne hl] at z; exact x.1 l z, x.2⟩
    refine (h3.imp fun v d G hG ho => keep H' _ _ v d G hs hG (fun a x _ => sub a x) ho).append (.cons ⟨rfl, ?_⟩ .nil)
    refine hv.track.mono (fun a x => sub a (x.1.elim (fun y => y) fun y => ⟨R.newNot y, R.old a y⟩)) fun a o x ea => ?_
    have hap : a ≠ p := by
      intro z
      subst z
      rcases x with x | x
      · rcases x.1 with y | y
        · exact y.1 i (by rw [eF]; simp)
        · rw [hp] at y; cases y
      · have := hs _ _ hp
        rw [this] at ea; cases ea; exact x
    rw [upd_ne hap]; exact ea
  · have nd := R.nd i
    rw [eF] at nd
    simpa using nd
  · intro a ha
    exact .inl (by simpa using ha)
theorem po_var {α : Type} {f : D → O α} {P : α → Prop} {E : Value → Prop} (h : Po ((eVar i ρ).bind f) P E) : ∃ d, ρ[i]? = some (some d) ∧ Po (f d) P E := by
  cases hr : eVar i ρ with
  | ok x => rw [hr] at h; exact ⟨x, eVar_ok hr, h⟩
  | bad => rw [hr] at h; exact h.elim
  | exc kx =>
    unfold eVar at hr
    cases hq : ρ[i]? with
    | none => rw [hq] at hr; cases hr
    | some o => cases o <;> (rw [hq] at hr; cases hr)
theorem po_lst {α : Type} {f : List D → O α} {P : α → Prop} {E : Value → Prop} (h : Po ((eVar i ρ).bind fun x => (lstD x).bind f) P E) : ∃ ds, ρ[i]? = some (some (.lst ds)) ∧ Po (f ds) P E := by
  obtain ⟨d, e, h⟩ := po_var h
  cases d with
  | lst l => exact ⟨l, e, h⟩
  | _ => exact h.elim
theorem vs_app {x : Str} {p2 apos cpos : Pos} (i : Nat) (h : VE X c M We 0 e f) (hm : M i = .o (.l .fz)) (hN : X.N[i]? = some x := by rfl) (hv : Vis X.env.scope x := by first | exact Or.inl rfl | exact Or.inr (Or.inl rfl) | exact Or.inr (Or.inr rfl)) (hd : (x == ("__debug__" : Str)) = false := by decide)
    (hcd : (x == ("__classdict__" : Str)) = false := by decide) (hbase : attributeBase (.Name x p2) "append" X.env (eval (.Name x p2) X.env) = eval (.Name x p2) X.env := by rfl)
    (hfew : ((backTo cpos (starEach (e :: []) X.env)).all (fun x => !x.1) && (backToKw cpos (keywordEach [] X.env)).all (fun x => x.1.isSome) && decide ((e :: []).length + ([] : List Keyword).length + (if ([] : List Keyword).isEmpty then 0 else 1) < 30)) = true := by rfl)
    (hline : (apos.endLine == cpos.line) = true := by rfl) (he : starEach (e :: []) X.env = (false, eval e X.env) :: starEach [] X.env := by rfl) (hpl : (backTo cpos (starEach [] X.env)).any (·.1) = false := by rfl)
    (hs : swapsWith (.Call (.Attribute (.Name x p2) "append" apos) [e] [] cpos) none pos.line X.env = pure false := by rfl) :
    VSt X c We rs Ml M M (.Expr (.Call (.Attribute (.Name x p2) "append" apos) [e] [] cpos) pos) (sApp i f) := by
  obtain ⟨te, p, s⟩ := h.ex
  refine ⟨_, ps_expr (pe_bm PySem.F.plainAttrs_list PySem.F.slot_list_append PySem.F.type_list_append mt_append (pv i hN hv hd hcd) (pa_cons p pa_nil he) hbase hfew hline he hpl) hs, fun B σ H ρ D R po => ?_⟩
  obtain ⟨Fs, R⟩ := R
  obtain ⟨ds, er, po⟩ := po_lst po
  obtain ⟨v0, e1, hsat⟩ := R.sl i _ er
  rw [hm] at hsat
  obtain ⟨p0, xs, ds', Gs, rfl, ed, hp, h3, eF⟩ := hsat
  cases ed
  refine ⟨_, e1, .inl ⟨rfl, xs, .of hp⟩, s _ σ H ρ _ R.slots ((Po.exc_up R (Po.bind po)).imp (fun d _ q v H' hs hi => ?_) fun _ _ q => q)⟩
  obtain ⟨hz, q⟩ := Po.gd q
  obtain ⟨p', xs', e1', hp', hl', R'⟩ := R.app hm er hs hi
  rw [e1] at e1'
  cases e1'
  rw [hp] at hp'
  cases hp'
  exact ⟨p0, xs, v, rfl, rfl, hs _ _ hp, Nat.lt_of_lt_of_le (by rw [hl']; exact of_decide_eq_true hz) (by decide : 100000 ≤ sizeLine), q _ _ R'⟩
/-- x.append(y), both its own: y goes into x -/
theorem vs_appV {x y : Str} {p2 p3 apos cpos : Pos} (i j : Nat) (s : Sh) (hm : M i = .o (.l s)) (hmj : M j = .o s) (hN : X.N[i]? = some x := by rfl) (hv : Vis X.env.scope x := by first | exact Or.inl rfl | exact Or.inr (Or.inl rfl) | exact Or.inr (Or.inr rfl)) (hd : (x == ("__debug__" : Str)) = false := by decide)
    (hcd : (x == ("__classdict__" : Str)) = false := by decide) (hNj : X.N[j]? = some y := by rfl) (hvj : Vis X.env.scope y := by first | exact Or.inl rfl | exact Or.inr (Or.inl rfl) | exact Or.inr (Or.inr rfl)) (hdj : (y == ("__debug__" : Str)) = false := by decide)
    (hcdj : (y == ("__classdict__" : Str)) = false := by decide) (hbase : attributeBase (.Name x p2) "append" X.env (eval (.Name x p2) X.env) = eval (.Name x p2) X.env := by rfl)
    (hfew : ((backTo cpos (starEach (.Name y p3 :: []) X.env)).all (fun x => !x.1) && (backToKw cpos (keywordEach [] X.env)).all (fun x => x.1.isSome) && decide ((Expr.Name y p3 :: []).length + ([] : List Keyword).length + (if ([] : List Keyword).isEmpty then 0 else 1) < 30)) = true := by rfl)
    (hline : (apos.endLine == cpos.line) = true := by rfl) (he : starEach (.Name y p3 :: []) X.env = (false, eval (.Name y p3) X.env) :: starEach [] X.env := by rfl) (hpl : (backTo cpos (starEach [] X.env)).any (·.1) = false := by rfl)
    (hs : swapsWith (.Call (.Attribute (.Name x p2) "append" apos) [.Name y p3] [] cpos) none pos.line X.env = pure false := by rfl) :
    VSt X c We rs Ml M M (.Expr (.Call (.Attribute (.Name x p2) "append" apos) [.Name y p3] [] cpos) pos) (sAppV i j) := by
  refine ⟨_, ps_expr (pe_bm PySem.F.plainAttrs_list PySem.F.slot_list_append PySem.F.type_list_append mt_append (pv i hN hv hd hcd) (pa_cons (pv j hNj hvj hdj hcdj) pa_nil he) hbase hfew hline he hpl) hs, fun B σ H ρ D R po => ?_⟩
  obtain ⟨Fs, R⟩ := R
  obtain ⟨ds, er, po⟩ := po_lst po
  obtain ⟨d, erj, po⟩ := po_var po
  obtain ⟨hz, po⟩ := Po.gd po
  rw [Bool.and_eq_true, decide_eq_true_eq, decide_eq_true_eq] at hz
  obtain ⟨hz, hij⟩ := hz
  obtain ⟨v, e2, hj⟩ := R.sl j d erj
  rw [hmj] at hj
  have hjl : j < ρ.length := (List.getElem?_eq_some_iff.mp erj).1
  -- j gives its objects away
  obtain ⟨p, xs, Gs, h1, hp, h3, eF, keep, put⟩ := R.lst hm er
  have nx : ∀ a ∈ Fs j, a ≠ p := fun a ha z => hij (R.dj i j p (by rw [eF]; simp) (by rw [← z]; exact ha))
  have eF' : (p :: (Gs ++ [Fs j]).flatten) = Fs i ++ Fs j := by rw [eF]; simp
  have m3 : ∀ l a, a ∈ fset (fset Fs i (Fs i ++ Fs j)) j [] l → (l = i ∧ i ≠ j ∧ (a ∈ Fs i ∨ a ∈ Fs j)) ∨ (l ≠ i ∧ l ≠ j ∧ a ∈ Fs l) := fun l a z => by
    by_cases hl : l = j
    · rw [hl, fset_self] at z; simp at z
    · rw [fset_ne hl] at z
      by_cases hl' : l = i
      · rw [hl', fset_self] at z; exact .inl ⟨hl', hij, List.mem_append.mp z⟩
      · rw [fset_ne hl'] at z; exact .inr ⟨hl', hl, z⟩
  have m4 : ∀ l a, a ∈ fset (fset Fs i (Fs i ++ Fs j)) j [] l → ∃ l', a ∈ Fs l' := fun l a z => by
    rcases m3 l a z with ⟨_, _, y | y⟩ | ⟨_, _, y⟩
    · exact ⟨i, y⟩
    · exact ⟨j, y⟩
    · exact ⟨l, y⟩
  have sub : ∀ al a, (wd B Fs).at al a → (wd B (fset (fset Fs i (Fs i ++ Fs j)) j [])).at al a := fun al a x => match al, x with
    | 0, x => ⟨fun l z => let ⟨l', y⟩ := m4 l a z; x.1 l' y, x.2⟩
    | 1, x => fun l z => let ⟨l', y⟩ := m4 l a z; x l' y
    | _ + 2, x => trivial
  have R2 : RelF c M B (fset (fset Fs i (Fs i ++ Fs j)) j []) (upd H p (.lst (xs ++ [v]))) σ ((ρ.set j none).set i (some (.lst (ds ++ [d])))) := by
    refine ⟨fun l => ?_, fun l l' a ha hb => ?_, fun l a ha => ?_, fun q hq a o e hn => ?_, fun q hq l a ha => let ⟨l', y⟩ := m4 l a ha; R.out q hq l' a y, fun l s' hs' a ha => ?_, fun a e => ?_, fun l d' e => ?_, fun q hq => R.mp q hq, by simp [R.len]⟩
    · by_cases hl : l = j
      · rw [hl, fset_self]; simp
      · rw [fset_ne hl]
        by_cases hl' : l = i
        · rw [hl', fset_self]
          refine List.nodup_append.mpr ⟨R.nd i, R.nd j, fun a ha b hb e => ?_⟩
          exact hij (R.dj i j a ha (by rw [e]; exact hb))
        · rw [fset_ne hl']; exact R.nd l
    · rcases m3 l a ha with ⟨x1, x2, x3⟩ | ⟨x1, x2, x3⟩
      · rcases m3 l' a hb with ⟨y1, y2, y3⟩ | ⟨y1, y2, y3⟩
        · rw [x1, y1]
        · rcases x3 with x3 | x3
          · exact (y1 (R.dj l' i a y3 x3)).elim
          · exact (y2 (R.dj l' j a y3 x3)).elim
      · rcases m3 l' a hb with ⟨y1, y2, y3⟩ | ⟨y1, y2, y3⟩
        · rcases y3 with y3 | y3
          · exact (x1 (R.dj l i a x3 y3)).elim
          · exact (x2 (R.dj l j a x3 y3)).elim
        · exact R.dj l l' a x3 y3
    · by_cases hap : a = p
      · rw [hap, upd_same]; exact ⟨_, rfl, fun y => y⟩
      · rw [upd_ne hap]
        obtain ⟨l', y⟩ := m4 l a ha
        exact R.th l' a y
    · have hap : a ≠ p := fun z => by
        rcases R.out q hq i p (by rw [eF]; simp) with y | y
        · rw [z, y] at e; cases e
        · exact hn (by rw [z]; exact y)
      rw [upd_ne hap]; exact R.fr q hq a o e hn
    · rcases m3 l a ha with ⟨x1, x2, x3⟩ | ⟨x1, x2, x3⟩
      · rcases x3 with x3 | x3
        · exact R.own i _ hm a x3
        · exact R.own j _ hmj a x3
      · exact R.own l s' hs' a x3
    · by_cases hap : a = p
      · rw [hap, upd_same] at e; cases e
      · rw [upd_ne hap] at e; exact R.old a e
    · have hi : i < ρ.length := (List.getElem?_eq_some_iff.mp er).1
      by_cases hl' : l = i
      · rw [hl', List.getElem?_set_self (by simpa using hi)] at e
        cases e
        refine ⟨_, by rw [hl']; exact h1, ?_⟩
        rw [hl', hm, fset_ne hij, fset_self]
        refine ⟨p, xs ++ [v], ds ++ [d], Gs ++ [Fs j], rfl, rfl, upd_same, ?_, eF'.symm⟩
        refine (h3.imp fun v d G hG ho => keep H _ _ v d G (Same.refl H) hG (fun a x _ => sub 0 a x) ho).append (.cons ?_ .nil)
        refine Own.mono (fun a x => sub 0 a x) (fun a o x ea => ?_) hj
        have hap : a ≠ p := by
          intro z
          rcases x with x | x | x
          · exact x.1 i (by rw [eF, z]; simp)
          · exact nx a x z
          · rw [z, hp] at ea; cases ea; exact x
        rw [upd_ne hap]; exact ea
      · rw [List.getElem?_set_ne (Ne.symm hl')] at e
        by_cases hl : l = j
        · rw [hl, List.getElem?_set_self hjl] at e; cases e
        · rw [List.getElem?_set_ne (Ne.symm hl)] at e
          obtain ⟨v', q1, q2⟩ := R.sl l d' e
          refine ⟨v', q1, ?_⟩
          rw [fset_ne hl, fset_ne hl']
          refine q2.mono (fun al a _ x _ => sub al a x) fun a o x ea => ?_
          have hap : a ≠ p := by
            intro z
            rcases x with x | x | x
            · exact x i (by rw [eF, z]; simp)
            · exact hl' (R.dj l i a x (by rw [eF, z]; simp))
            · rw [z, hp] at ea; cases ea; exact x
          rw [upd_ne hap]; exact ea
  exact ⟨_, h1, .inl ⟨rfl, xs, .of hp⟩, _, e2, p, xs, v, rfl, rfl, hp, Nat.lt_of_lt_of_le (by rw [h3.length.1]; exact hz) (by decide : 100000 ≤ sizeLine), po _ _ ⟨_, R2⟩⟩
end
end VS
set_option Elab.async false
set_option linter.all false
set_option maxRecDepth 100000
set_option maxHeartbeats 2000000
/-! VG: loops, comprehensions, raise, a def's promise. -/
namespace VS
open PySem L2

/-- all that matters of H' stands in H'' -/
def Kp (W : Addr → Prop) (H' H'' : Hp) : Prop := ∀ a o, (W a ∨ sta o) → H' a = some o → H'' a = some o
/-- what is walked: at its i-th turn the i-th of ds -/
structure VI (X : Cx) (c : Ct) (M : Nat → Mo) (We : WX) (al : Nat) (tg it : Expr) (f : AF) : Prop where
  ex : ∃ wi, PI X tg it wi ∧ ∀ (w : Wd) (σ : L2.St) (H : Hp) (ρ : Rho) (R : It → Hp → Prop), Sl c M w H σ ρ →
    Po (f ρ) (fun ds => ∀ (J : It) (G : Hp → Prop) (Y : Nat → Hp → V → Hp → Prop) (H' : Hp), Same H H' → Walk J ds.length G Y → (∀ H'', Kp (NW w al H) H' H'' → G H'') →
      (∀ i Hi x Hi', i < ds.length → Kp (NW w al H) H' Hi → Y i Hi x Hi' → Same Hi Hi' ∧ ∃ d, ds[i]? = some d ∧ ∀ W' : Addr → Prop, (∀ a, NW w al H a → H' a ≠ none → W' a) → Is c W' Hi' x d) → R J H') (fun k => ∀ H', Same H H' → We k none σ H') → wi σ H R

def iSeq (f : EF) : AF := fun ρ => (f ρ).bind fun d => match d with
  | .lst l => .ok l
  | .tup l => .ok l
  | .str s => .ok (s.cps.toList.map fun ch => .str ⟨#[ch]⟩)
  | _ => .bad
def rngD (lo : Int) (n : Nat) : List D := (List.range n).map fun (i : Nat) => D.int (lo + (i : Int))
def iRg1 (f : EF) : AF := fun ρ => (f ρ).bind fun d => match d with
  | .int n => gd (decide (-(2 ^ 62) ≤ n) && decide (n < 2 ^ 62)) (.ok (rngD 0 n.toNat))
  | _ => .bad
def pairsD (xs ys : List D) : List D := List.zipWith (fun x y => .tup [x, y]) xs ys
def iZp (f g : EF) : AF := fun ρ => (f ρ).bind fun x => (lstD x).bind fun xs => (g ρ).bind fun y => (lstD y).bind fun ys => .ok (pairsD xs ys)
def iEn (f : EF) : AF := fun ρ => (f ρ).bind fun x => (lstD x).bind fun xs => .ok (pairsD (rngD 0 xs.length) xs)

section
variable {c : Ct} {M M' M1 Ml : Nat → Mo} {B : Bs} {H H' : Hp} {σ : L2.St} {ρ : Rho} {X : Cx} {We : WX} {k al al' i j : Nat} {rs : Sh} {st : Stmt} {sts : List Stmt} {e e2 tg it : Expr} {f f2 : EF} {g g' : SF} {t : TF} {fi : AF} {pos : Pos}
theorem PI.or {w1 w2 : TI} (h1 : PI X tg it w1) (h2 : PI X tg it w2) : PI X tg it (fun σ H R => w1 σ H R ∨ w2 σ H R) := ⟨fun pins s σ H R I h => h.elim (h1.run pins s σ H R I) (h2.run pins s σ H R I)⟩
theorem kp_item {W : Addr → Prop} {v : V} {d : D} {Hi : Hp} (h : Is c W H' v d) (hk : Kp W H' Hi) (W' : Addr → Prop) (hw : ∀ a, W a → H' a ≠ none → W' a) : Is c W' Hi v d := h.track.mono (fun a x => hw a x.1 x.2) fun a o x e => hk a o (x.elim (fun y => .inl y.1) .inr) e
theorem sq_list {W : Addr → Prop} {a : Addr} {xs : List V} {ds : List D} (h : Is c W H' (.ref a) (.lst ds)) : ∃ xs, IsA c W H' xs ds ∧ SqL c.K H' a xs ∧ ∀ H'', Kp W H' H'' → SqL c.K H'' a xs := by
  cases h with
  | lst h1 h2 h3 =>
    refine ⟨_, h3, .inl h2, fun H'' hk => ?_⟩
    rcases h2 with h2 | ⟨o, h2⟩
    · exact .inl (.inl (hk _ _ (.inl h1) h2))
    · exact .inl (.inr ⟨o, hk _ _ (.inl h1) h2⟩)
  | lstK h2 h3 => exact ⟨_, h3, .inr h2, fun _ _ => .inr h2⟩
theorem vi_seq (z : Cz X c We k) (h : VE X c M We al e f) : VI X c M We al tg e (iSeq f) := by
  obtain ⟨te, p, s⟩ := h.ex
  refine ⟨_, PI.or (pi_list p) (PI.or (pi_tup p) (pi_str p)), fun w σ H ρ R sl po => ?_⟩
  have po := Po.bind po
  by_cases hl : ∃ l, f ρ = .ok (.lst l)
  · obtain ⟨l, hl⟩ := hl
    refine .inl (s w σ H ρ _ sl (po.imp (fun d ed q v H' hs hi => ?_) fun _ _ q => q))
    rw [hl] at ed
    cases ed
    obtain ⟨a, xs0, rfl, _, _⟩ := is_lst hi
    obtain ⟨xs, h1, h2, h3⟩ := sq_list (xs := xs0) hi
    have q : ∀ (J : It) (G : Hp → Prop) (Y : Nat → Hp → V → Hp → Prop) (H' : Hp), Same H H' → Walk J l.length G Y → (∀ H'', Kp (NW w al H) H' H'' → G H'') → (∀ i Hi x Hi', i < l.length → Kp (NW w al H) H' Hi → Y i Hi x Hi' → Same Hi Hi' ∧ ∃ d, l[i]? = some d ∧ ∀ W' : Addr → Prop, (∀ a, NW w al H a → H' a ≠ none → W' a) → Is c W' Hi' x d) → R J H' := q
    refine ⟨a, rfl, ⟨xs, by rw [z.K]; exact h2⟩, q _ (fun H => SqL X.K H a xs) (YAt xs) H' hs (by rw [← h1.length]; exact walk_list) (fun H'' hk => by rw [z.K]; exact h3 H'' hk) fun i Hi x Hi' hi hk hy => ?_⟩
    obtain ⟨rfl, hx⟩ := hy
    obtain ⟨d, e1, e2⟩ := h1.get hx
    exact ⟨Same.refl _, d, e1, fun W' hw => kp_item e2 hk W' hw⟩
  · by_cases ht : ∃ l, f ρ = .ok (.tup l)
    · obtain ⟨l, ht⟩ := ht
      refine .inr (.inl (s w σ H ρ _ sl (po.imp (fun d ed q v H' hs hi => ?_) fun _ _ q => q)))
      rw [ht] at ed
      cases ed
      obtain ⟨a, xs, rfl, h2, h1⟩ := is_tup hi
      have q : ∀ (J : It) (G : Hp → Prop) (Y : Nat → Hp → V → Hp → Prop) (H' : Hp), Same H H' → Walk J l.length G Y → (∀ H'', Kp (NW w al H) H' H'' → G H'') → (∀ i Hi x Hi', i < l.length → Kp (NW w al H) H' Hi → Y i Hi x Hi' → Same Hi Hi' ∧ ∃ d, l[i]? = some d ∧ ∀ W' : Addr → Prop, (∀ a, NW w al H a → H' a ≠ none → W' a) → Is c W' Hi' x d) → R J H' := q
      refine ⟨a, rfl, ⟨xs, .of h2⟩, q _ (fun H => SqT X.K H a xs) (YAt xs) H' hs (by rw [← h1.length]; exact walk_tup) (fun H'' hk => .of (hk _ _ (.inr trivial) h2)) fun i Hi x Hi' hi hk hy => ?_⟩
      obtain ⟨rfl, hx⟩ := hy
      obtain ⟨d, e1, e2⟩ := h1.get hx
      exact ⟨Same.refl _, d, e1, fun W' hw => kp_item e2 hk W' hw⟩
    · refine .inr (.inr (s w σ H ρ _ sl (po.imp (fun d ed q v H' hs hi => ?_) fun _ _ q => q)))
      cases d with
      | lst l => exact (hl ⟨l, ed⟩).elim
      | tup l => exact (ht ⟨l, ed⟩).elim
      | str x =>
        rw [is_str hi]
        have q : ∀ (J : It) (G : Hp → Prop) (Y : Nat → Hp → V → Hp → Prop) (H' : Hp), Same H H' → Walk J (x.cps.toList.map fun ch => D.str ⟨#[ch]⟩).length G Y → (∀ H'', Kp (NW w al H) H' H'' → G H'') → (∀ i Hi y Hi', i < (x.cps.toList.map fun ch => D.str ⟨#[ch]⟩).length → Kp (NW w al H) H' Hi → Y i Hi y Hi' → Same Hi Hi' ∧ ∃ d, (x.cps.toList.map fun ch => D.str ⟨#[ch]⟩)[i]? = some d ∧ ∀ W' : Addr → Prop, (∀ a, NW w al H a → H' a ≠ none → W' a) → Is c W' Hi' y d) → R J H' := q
        refine ⟨x, rfl, q _ _ _ H' hs (by rw [List.length_map, Array.length_toList]; exact walk_str) (fun _ _ => trivial) fun i Hi y Hi' hi hk hy => ?_⟩
        obtain ⟨rfl, ch, e1, rfl⟩ := hy
        exact ⟨Same.refl _, .str ⟨#[ch]⟩, by rw [List.getElem?_map, Array.getElem?_toList, e1]; rfl, fun W' _ => .str _⟩
      | _ => exact q.elim

theorem rng_len (lo : Int) (n : Nat) : (rngD lo n).length = n := by simp [rngD]
theorem rng_get {lo : Int} {n i : Nat} (h : i < n) : (rngD lo n)[i]? = some (.int (lo + (i : Int))) := by simp [rngD, h]
theorem vi_range1 {p pos : Pos} (h : VE X c M We al e f) (hg : Gl X "range") (hm : X.mg "range" = none) (hs : starEach [e] X.env = [(false, eval e X.env)] := by rfl) (hs1 : starEach [e] X.env = (false, eval e X.env) :: starEach [] X.env := by rfl) :
    VI X c M We 0 tg (.Call (.Name "range" p) [e] [] pos) (iRg1 f) := by
  obtain ⟨te, pp, s⟩ := h.ex
  refine ⟨_, pi_range1 hg hm (pa_cons pp pa_nil hs1) hs, fun w σ H ρ R sl po => s w σ H ρ _ sl ((Po.bind po).imp (fun d _ q v H' hs hi => ?_) fun _ _ q => q)⟩
  cases d with
  | int n =>
    obtain ⟨hn, q⟩ := Po.gd q
    rw [Bool.and_eq_true, decide_eq_true_eq, decide_eq_true_eq] at hn
    have q : ∀ (J : It) (G : Hp → Prop) (Y : Nat → Hp → V → Hp → Prop) (H' : Hp), Same H H' → Walk J (rngD 0 n.toNat).length G Y → (∀ H'', Kp (NW w 0 H) H' H'' → G H'') → (∀ i Hi x Hi', i < (rngD 0 n.toNat).length → Kp (NW w 0 H) H' Hi → Y i Hi x Hi' → Same Hi Hi' ∧ ∃ d, (rngD 0 n.toNat)[i]? = some d ∧ ∀ W' : Addr → Prop, (∀ a, NW w 0 H a → H' a ≠ none → W' a) → Is c W' Hi' x d) → R J H' := q
    rw [is_int hi]
    refine ⟨n, rfl, hn.1, hn.2, q _ (fun _ => True) (YFn fun i => .int (0 + i)) H' hs (by rw [rng_len]; exact walk_range) (fun _ _ => trivial) fun i Hi x Hi' hi hk hy => ?_⟩
    obtain ⟨rfl, rfl⟩ := hy
    rw [rng_len] at hi
    exact ⟨Same.refl _, _, rng_get hi, fun W' _ => .int _⟩
  | _ => exact q.elim
theorem pairs_len (xs ys : List D) : (pairsD xs ys).length = min xs.length ys.length := by simp [pairsD]
theorem pairs_get {xs ys : List D} {i : Nat} {x y : D} (h : xs[i]? = some x) (h' : ys[i]? = some y) : (pairsD xs ys)[i]? = some (.tup [x, y]) := by simp [pairsD, List.getElem?_zipWith, h, h']
theorem vi_zip {p pos tpos : Pos} {elts : List Expr} {kk : Nat} (z : Cz X c We k) (h : VE X c M We al e f) (h2 : VE X c M We al e2 f2) (hg : Gl X "zip") (hm : X.mg "zip" = none) (hs : starEach [e, e2] X.env = (false, eval e X.env) :: starEach [e2] X.env := by rfl)
    (hs1 : starEach [e2] X.env = (false, eval e2 X.env) :: starEach [] X.env := by rfl) (hpl : (backTo pos (starEach [e2] X.env)).any (·.1) = false := by rfl) :
    VI X c M We al (.Tuple elts kk tpos) (.Call (.Name "zip" p) [e, e2] [] pos) (iZp f f2) := by
  obtain ⟨te, p1, s1⟩ := h.ex
  obtain ⟨te2, p2, s2⟩ := h2.ex
  refine ⟨_, pi_zip hg hm (pa_cons p1 (pa_cons p2 pa_nil hs1) hs) hs hpl, fun w σ H ρ R sl po => s1 w σ H ρ _ sl ((Po.bind po).imp (fun d _ q v H1 hs hi => ?_) fun _ _ q => q)⟩
  cases d with
  | lst l =>
    refine s2 w σ H1 ρ _ (sl.same hs) ((Po.bind (r := f2 ρ) q).imp (fun d2 _ q v2 H2 hs2 hi2 => ?_) fun _ _ q H2 hs2 => q H2 (hs.trans hs2))
    cases d2 with
    | lst l2 =>
      have q : ∀ (J : It) (G : Hp → Prop) (Y : Nat → Hp → V → Hp → Prop) (H' : Hp), Same H H' → Walk J (pairsD l l2).length G Y → (∀ H'', Kp (NW w al H) H' H'' → G H'') → (∀ i Hi x Hi', i < (pairsD l l2).length → Kp (NW w al H) H' Hi → Y i Hi x Hi' → Same Hi Hi' ∧ ∃ d, (pairsD l l2)[i]? = some d ∧ ∀ W' : Addr → Prop, (∀ a, NW w al H a → H' a ≠ none → W' a) → Is c W' Hi' x d) → R J H' := q
      have hi' := hi.same hs2
      have hi2' := hi2.up (NW.back hs)
      obtain ⟨a, xa, rfl, _, _⟩ := is_lst hi'
      obtain ⟨b, xb, rfl, _, _⟩ := is_lst hi2'
      obtain ⟨xs, a1, a2, a3⟩ := sq_list (xs := xa) hi'
      obtain ⟨ys, b1, b2, b3⟩ := sq_list (xs := xb) hi2'
      refine ⟨a, b, xs, ys, rfl, by rw [z.K]; exact a2, by rw [z.K]; exact b2, q _ (fun H => SqL X.K H a xs ∧ SqL X.K H b ys) _ H2 (hs.trans hs2) (walk_zip (by rw [pairs_len, a1.length, b1.length])) (fun H'' hk => by rw [z.K]; exact ⟨a3 _ hk, b3 _ hk⟩) fun i Hi x Hi' hi hk hy => ?_⟩
      obtain ⟨T, x1, y1, rfl, hT, rfl, e1, e2⟩ := hy
      obtain ⟨dx, f1, g1⟩ := a1.get e1
      obtain ⟨dy, f2, g2⟩ := b1.get e2
      have st : Same Hi (upd Hi T (.tup [x1, y1])) := same_new (Same.refl Hi) hT
      exact ⟨st, _, pairs_get f1 f2, fun W' hw => .tup upd_same (.cons ((kp_item g1 hk W' hw).same st) (.cons ((kp_item g2 hk W' hw).same st) .nil))⟩
    | _ => exact q.elim
  | _ => exact q.elim
theorem vi_enum {p pos tpos : Pos} {elts : List Expr} {kk : Nat} (z : Cz X c We k) (h : VE X c M We al e f) (hg : Gl X "enumerate") (hm : X.mg "enumerate" = none) (hs : starEach [e] X.env = [(false, eval e X.env)] := by rfl) (hs1 : starEach [e] X.env = (false, eval e X.env) :: starEach [] X.env := by rfl) :
    VI X c M We al (.Tuple elts kk tpos) (.Call (.Name "enumerate" p) [e] [] pos) (iEn f) := by
  obtain ⟨te, p1, s1⟩ := h.ex
  refine ⟨_, pi_enum hg hm (pa_cons p1 pa_nil hs1) hs, fun w σ H ρ R sl po => s1 w σ H ρ _ sl ((Po.bind po).imp (fun d _ q v H1 hs hi => ?_) fun _ _ q => q)⟩
  cases d with
  | lst l =>
    have q : ∀ (J : It) (G : Hp → Prop) (Y : Nat → Hp → V → Hp → Prop) (H' : Hp), Same H H' → Walk J (pairsD (rngD 0 l.length) l).length G Y → (∀ H'', Kp (NW w al H) H' H'' → G H'') → (∀ i Hi x Hi', i < (pairsD (rngD 0 l.length) l).length → Kp (NW w al H) H' Hi → Y i Hi x Hi' → Same Hi Hi' ∧ ∃ d, (pairsD (rngD 0 l.length) l)[i]? = some d ∧ ∀ W' : Addr → Prop, (∀ a, NW w al H a → H' a ≠ none → W' a) → Is c W' Hi' x d) → R J H' := q
    obtain ⟨a, xa, rfl, _, _⟩ := is_lst hi
    obtain ⟨xs, a1, a2, a3⟩ := sq_list (xs := xa) hi
    have hln : (pairsD (rngD 0 l.length) l).length = xs.length := by rw [pairs_len, rng_len, Nat.min_self, a1.length]
    refine ⟨a, xs, rfl, by rw [z.K]; exact a2, q _ (fun H => SqL X.K H a xs) _ H1 hs (by rw [hln]; exact walk_enum) (fun H'' hk => by rw [z.K]; exact a3 _ hk) fun i Hi x Hi' hi hk hy => ?_⟩
    obtain ⟨T, x1, y1, rfl, hT, rfl, e1, e2⟩ := hy
    cases e1
    obtain ⟨dy, f2, g2⟩ := a1.get e2
    have st : Same Hi (upd Hi T (.tup [.int (i : Nat), y1])) := same_new (Same.refl Hi) hT
    have hil : i < l.length := (List.getElem?_eq_some_iff.mp f2).1
    have e0 : (0 : Int) + (i : Int) = ((i : Nat) : Int) := Int.zero_add _
    exact ⟨st, _, pairs_get (rng_get hil) f2, fun W' hw => .tup upd_same (.cons (by rw [e0]; exact .int _) (.cons ((kp_item g2 hk W' hw).same st) .nil))⟩
  | _ => exact q.elim

/-! ### targets -/
structure VG (X : Cx) (c : Ct) (M : Nat → Mo) (al : Nat) (tg : Expr) (h : D → Rho → O Rho) : Prop where
  ex : ∃ g, PG X tg g ∧ ∀ (B : Bs) (Fs : Nat → List Addr) (H : Hp) (σ : L2.St) (ρ : Rho) (v : V) (d : D) (Q : L2.St → Hp → Prop), RelF c M B Fs H σ ρ → Is c ((wd B Fs).at al) H v d → Po (h d ρ) (fun ρ' => ∀ σ', Rel c M B H σ' ρ' → Q σ' H) (fun _ => True) → g v σ H Q
def gN (i : Nat) (d : D) (ρ : Rho) : O Rho := gd (decide (i < ρ.length)) (.ok (ρ.set i (some d)))
def gP (i j : Nat) (d : D) (ρ : Rho) : O Rho := match d with
  | .tup [x, y] => gd (decide (i < ρ.length) && decide (j < ρ.length)) (.ok ((ρ.set i (some x)).set j (some y)))
  | _ => .bad
theorem gN_ne {d : D} {kx : Value} : gN i d ρ ≠ .exc kx := by unfold gN gd; cases decide (i < ρ.length) <;> simp
theorem vg_name {x : Str} (i : Nat) (hm : M i = .v al') (hal : al' ≤ 1) (hle : al ≤ al') (hN : X.N.Nodup) (hi : X.N[i]? = some x := by rfl) (hx : Loc X.env.scope x := by exact .inl rfl) (hf : X.fn x = true ∨ X.env.scope.names.lookup x = some .local := by first | exact .inl rfl | exact .inr rfl) : VG X c M al (.Name x pos) (gN i) := by
  refine ⟨_, pg_name (i := i) hN hi hx hf, fun B Fs H σ ρ v d Q R hv po => ?_⟩
  obtain ⟨hl, q⟩ := Po.gd po
  exact q _ (R.setV hm hal (of_decide_eq_true hl) (hv.up fun a x => .inl ((wd B Fs).up hle a x)) (Same.refl H))
theorem vg_pair {x y : Str} {kk : Nat} {p1 p2 : Pos} {aj : Nat} (i j : Nat) (z : Cz X c We k) (hm : M i = .v al') (hmj : M j = .v aj) (hal : al' ≤ 1) (hle : al ≤ al') (haj : aj ≤ 1) (hlj : al ≤ aj) (hN : X.N.Nodup) (hi : X.N[i]? = some x := by rfl) (hx : Loc X.env.scope x := by exact .inl rfl) (hf : X.fn x = true ∨ X.env.scope.names.lookup x = some .local := by first | exact .inl rfl | exact .inr rfl)
    (hj : X.N[j]? = some y := by rfl) (hy : Loc X.env.scope y := by exact .inl rfl) (hfy : X.fn y = true ∨ X.env.scope.names.lookup y = some .local := by first | exact .inl rfl | exact .inr rfl) : VG X c M al (.Tuple [.Name x p1, .Name y p2] kk pos) (gP i j) := by
  refine ⟨_, pg_tup (n := 2) z.calm (pgs_cons (pg_name (i := i) hN hi hx hf) (pgs_cons (pg_name (i := j) hN hj hy hfy) pgs_nil)), fun B Fs H σ ρ v d Q R hv po => ?_⟩
  unfold gP at po
  split at po
  · obtain ⟨hl, q⟩ := Po.gd po
    rw [Bool.and_eq_true, decide_eq_true_eq, decide_eq_true_eq] at hl
    obtain ⟨a, xs, rfl, h1, h2⟩ := is_tup hv
    cases h2 with
    | cons g1 t =>
      cases t with
      | cons g2 t =>
        cases t
        rename_i v1 v2
        refine ⟨a, [v1, v2], rfl, .of h1, rfl, v1, [v2], rfl, v2, [], rfl, rfl, ?_⟩
        have R1 := R.setVF hm hal hl.1 (g1.up fun a x => .inl ((wd B Fs).up hle a x)) (Same.refl H)
        exact q _ (R1.setV hmj haj (by simpa using hl.2) (g2.up fun a x => .inl (wd_drop aj a ((wd B Fs).up hlj a x))) (Same.refl H))
  · exact po.elim

/-! ### for, while -/
def sFor (fi : AF) (h : D → Rho → O Rho) (g : SF) : SF := fun ρ => (fi ρ).bind fun ds => go ds ρ
where go : List D → SF
  | [], ρ => .ok (.nx ρ)
  | d :: ds, ρ => (h d ρ).bind fun ρ1 => (g ρ1).bind fun out => match out with
    | .nx ρ2 => go ds ρ2
    | .ct ρ2 => go ds ρ2
    | .bk ρ2 => .ok (.nx ρ2)
    | .rt d ρ2 => .ok (.rt d ρ2)
def sWhile (t : TF) (g : SF) : Nat → SF
  | 0, _ => .bad
  | n + 1, ρ => (t ρ).bind fun b => if b = true then (g ρ).bind fun out => match out with
      | .nx ρ2 => sWhile t g n ρ2
      | .ct ρ2 => sWhile t g n ρ2
      | .bk ρ2 => .ok (.nx ρ2)
      | .rt d ρ2 => .ok (.rt d ρ2)
    else .ok (.nx ρ)
/-- what stands at a loop's start, kept beside -/
def Bs.more (B : Bs) (H : Hp) (Fs : Nat → List Addr) : Bs := { B with pr := (H, fun a => ∃ i, a ∈ Fs i) :: B.pr }
theorem RelF.more {Fs : Nat → List Addr} (R : RelF c M B Fs H σ ρ) : RelF c M (B.more H Fs) Fs H σ ρ :=
  ⟨R.nd, R.dj, R.th, fun p hp a o e hn => (List.mem_cons.mp hp).elim (fun z => by rw [z] at e; exact e) fun z => R.fr p z a o e hn,
    fun p hp i a ha => (List.mem_cons.mp hp).elim (fun z => by rw [z]; exact .inr ⟨i, ha⟩) fun z => R.out p z i a ha, R.own, R.old, R.sl, R.mp, R.len⟩
theorem RelF.less {Fs Fs0 : Nat → List Addr} {H0 : Hp} (R : RelF c M (B.more H0 Fs0) Fs H σ ρ) : RelF c M B Fs H σ ρ :=
  ⟨R.nd, R.dj, R.th, fun p hp => R.fr p (List.mem_cons_of_mem _ hp), fun p hp => R.out p (List.mem_cons_of_mem _ hp), R.own, R.old, R.sl, R.mp, R.len⟩
theorem vs_for {body : List Stmt} {h : D → Rho → O Rho} (z : Cz X c We k) (hi : VI X c M We al tg it fi) (hal : al ≤ 1) (hg : VG X c M al tg h) (hb : VSs X c We rs M M M body g) (hfs : ∀ x, foldedSetIterable it X.env x = pure x := by intro _; rfl) : VSt X c We rs Ml M M (.For tg it body [] pos) (sFor fi h g) := by
  obtain ⟨wi, p, s⟩ := hi.ex
  obtain ⟨gg, pg, sg⟩ := hg.ex
  obtain ⟨tb, pb, sb⟩ := hb.ex
  refine ⟨_, ps_for z.po z.calm p pg pb hfs, fun B σ H ρ D R po => ?_⟩
  obtain ⟨Fs, R⟩ := R
  refine s _ σ H ρ _ R.slots ((Po.exc_up R (Po.bind po)).imp (fun ds _ q J G Y H' hs wk hG hy => ?_) fun _ _ q => q)
  have R0 := (R.same hs).more
  -- what is kept of what is walked
  have kp : ∀ {Hi σi ρi} {Fi : Nat → List Addr}, RelF c M (B.more H' Fs) Fi Hi σi ρi → Kp (NW (wd B Fs) al H) H' Hi := fun {Hi σi ρi Fi} Ri a o x e => by
    refine Ri.fr (H', fun a => ∃ i, a ∈ Fs i) (List.mem_cons_self) a o e ?_
    rintro ⟨i, hm⟩
    rcases x with x | x
    · rcases x with x | x
      · exact (wd B Fs).up hal a x i hm
      · exact R.newNot x i hm
    · obtain ⟨o', e', n'⟩ := (R.same hs).th i a hm
      rw [e] at e'; cases e'; exact n' x
  have reg : ∀ {Hi σi ρi} {Fi : Nat → List Addr}, RelF c M (B.more H' Fs) Fi Hi σi ρi → ∀ a, NW (wd B Fs) al H a → H' a ≠ none → (wd B Fi).at al a := fun {Hi σi ρi Fi} Ri a x y => by
    have nin : ∀ i, a ∉ Fi i := fun i z => by
      rcases Ri.out (H', fun a => ∃ i, a ∈ Fs i) (List.mem_cons_self) i a z with e | ⟨l, e⟩
      · exact y e
      · rcases x with x | x
        · exact (wd B Fs).up hal a x l e
        · exact R.newNot x l e
    have h0 : al = 0 → B.H0 a = none := fun e => by
      subst e
      rcases x with x | x
      · exact x.2
      · exact R.old a x
    match al, hal, h0 with
    | 0, _, h0 => exact ⟨nin, h0 rfl⟩
    | 1, _, _ => exact nin
  refine for_it wk (fun i σ H => ∃ ρi, Rel c M (B.more H' Fs) H σ ρi ∧ PoS c Ml M B rs We (sFor.go h g (ds.drop i) ρi) D) ⟨ρ, ⟨Fs, R0⟩, by rw [List.drop_zero]; exact q⟩ (fun i σi Hi _ ⟨ρi, ⟨Fi, Ri⟩, _⟩ => hG Hi (kp Ri)) ?_ ?_
  · rintro i x σi Hi Hi' hlt ⟨ρi, ⟨Fi, Ri⟩, qi⟩ hY
    obtain ⟨st, d, ed, isd⟩ := hy i Hi x Hi' hlt (kp Ri) hY
    have ed2 : ds.drop i = d :: ds.drop (i + 1) := by
      obtain ⟨h1, h2⟩ := List.getElem?_eq_some_iff.mp ed
      rw [List.drop_eq_getElem_cons h1, h2]
    rw [ed2] at qi
    have Ri' := Ri.same st
    have qi := Po.bind qi
    refine sg _ Fi Hi' σi ρi x d _ Ri' (isd _ (reg Ri)) (qi.imp (fun ρ1 _ q1 σ2 R2 => ?_) fun _ _ _ => trivial)
    have q1 := Po.bind q1
    refine sb _ σ2 Hi' ρ1 _ R2 (q1.imp (fun out _ q2 => ?_) fun kx _ q2 σ' H' hf => q2 σ' H' fun p hp => hf p (List.mem_cons_of_mem _ hp))
    cases out with
    | nx ρ2 => exact fun σ' H' R' => ⟨ρ2, R', q2⟩
    | ct ρ2 => exact fun σ' H' R' => ⟨ρ2, R', q2⟩
    | bk ρ2 => exact fun σ' H' ⟨F', R'⟩ => q2 σ' H' ⟨F', R'.less⟩
    | rt d ρ2 => exact fun v H' ⟨M2, F2, σ2, F, R', n1, n2, n3⟩ => q2 v H' ⟨M2, F2, σ2, F, R'.less, n1, n2, n3⟩
  · rintro σi Hi ⟨ρi, ⟨Fi, Ri⟩, qi⟩
    rw [List.drop_length] at qi
    exact qi σi Hi ⟨Fi, Ri.less⟩
theorem vs_while {cnd : Expr} {body : List Stmt} (n : Nat) (z : Cz X c We k) (hc : VT X c M We cnd t) (hb : VSs X c We rs M M M body g) : VSt X c We rs Ml M M (.While cnd body [] pos) (sWhile t g n) := by
  obtain ⟨tt, p, s⟩ := hc.ex
  obtain ⟨tb, pb, sb⟩ := hb.ex
  refine ⟨_, ps_while z.po p pb, fun B σ H ρ D R po => ?_⟩
  refine ⟨fun m σ H => ∃ ρ, Rel c M B H σ ρ ∧ PoS c Ml M B rs We (sWhile t g m ρ) D, ⟨n, ρ, R, po⟩, ?_⟩
  rintro m σ H ⟨ρ, ⟨Fs, R⟩, q⟩
  cases m with
  | zero => exact q.elim
  | succ m =>
    refine s _ σ H ρ _ R.slots ((Po.exc_up R (Po.bind q)).imp (fun b _ q H' hs => ?_) fun _ _ q => q)
    cases b with
    | false => exact iteF (q σ H' ⟨Fs, R.same hs⟩)
    | true =>
      refine iteT ⟨fun σ' H' => ∃ ρ, Rel c M B H' σ' ρ ∧ PoS c Ml M B rs We (sWhile t g m ρ) D, fun σ' H' w => ⟨m, Nat.lt_succ_self m, w⟩, ?_⟩
      refine sb B σ H' ρ _ ⟨Fs, R.same hs⟩ ((Po.bind (r := g ρ) q).imp (fun out _ q2 => ?_) fun _ _ q => q)
      cases out with
      | nx ρ2 => exact fun σ' H' R' => ⟨ρ2, R', q2⟩
      | ct ρ2 => exact fun σ' H' R' => ⟨ρ2, R', q2⟩
      | bk ρ2 => exact q2
      | rt d ρ2 => exact q2
end
end VS
set_option Elab.async false
set_option linter.all false
set_option maxRecDepth 100000
set_option maxHeartbeats 2000000
/-! VH: comprehensions, raise, a def's promise by its body's meaning. -/
namespace VS
open PySem L2

abbrev W0 : WX := fun _ _ _ _ => False
structure VTs (X : Cx) (c : Ct) (M : Nat → Mo) (We : WX) (ifs : List Expr) (f : TF) : Prop where
  ex : ∃ tt, PTs X ifs tt ∧ ∀ (w : Wd) (σ : L2.St) (H : Hp) (ρ : Rho) (Q : Bool → Hp → Prop), Sl c M w H σ ρ →
    Po (f ρ) (fun b => ∀ H', Same H H' → Q b H') (fun k => ∀ H', Same H H' → We k none σ H') → tt σ H Q
def tTr : TF := fun _ => .ok true
/-- nothing is raised in a comprehension here -/
def noX {α : Type} : O α → O α
  | .exc _ => .bad
  | x => x
@[simp] theorem noX_ok {α : Type} (a : α) : noX (.ok a) = .ok a := rfl
@[simp] theorem noX_bad {α : Type} : noX (.bad : O α) = .bad := rfl
theorem Po.noX {α : Type} {r : O α} {P : α → Prop} {E E' : Value → Prop} (h : Po (noX r) P E) : Po r P E' := by
  cases r with
  | ok a => exact h
  | bad => exact h
  | exc k => exact h.elim
def cGo (i : Nat) (t : TF) (f : EF) : List D → Rho → O (List D)
  | [], _ => .ok []
  | d :: ds, ρ => (noX (t (ρ.set i (some d)))).bind fun b => if b = true then (noX (f (ρ.set i (some d)))).bind fun x => (cGo i t f ds ρ).bind fun xs => .ok (x :: xs) else cGo i t f ds ρ
def eLc (fi : AF) (i : Nat) (t : TF) (f : EF) : EF := fun ρ => (fi ρ).bind fun ds => gd (decide (i < ρ.length) && decide (ds.length ≤ 100000)) ((cGo i t f ds ρ).bind fun l => .ok (.lst l))

section
variable {c : Ct} {M M' M1 Ml : Nat → Mo} {B : Bs} {H H' : Hp} {σ : L2.St} {ρ : Rho} {X : Cx} {We : WX} {k al al' i j : Nat} {rs : Sh} {st : Stmt} {sts : List Stmt} {e e2 tg it : Expr} {f f2 : EF} {g g' : SF} {t : TF} {fi : AF} {pos : Pos}
theorem vts_nil : VTs X c M We [] tTr := ⟨_, pts_nil, fun w σ H ρ Q sl po => po H (Same.refl H)⟩
theorem vts_one (h : VT X c M We e t) : VTs X c M We [e] t := by
  obtain ⟨tt, p, s⟩ := h.ex
  exact ⟨tt, pts_one p, s⟩
/-- the context of a comprehension's block -/
theorem Cz.blk (z : Cz X c We k) {s : Shared} {H : Hp} {scope : Scope} {C : Addr} {cl : List (Str × Addr)} {fp : List Addr} : Cz (X.blk s H scope (compEnvC scope cl C X.env) fp) c W0 k :=
  ⟨z.K, z.calm, takes0, z.hr, PassesOwn.never⟩
theorem Po.noexc {α : Type} {r : O α} {P : α → Prop} {E E' : Value → Prop} (h : Po r P E) (n : ∀ k, r ≠ .exc k) : Po r P E' := h.imp (fun _ _ q => q) fun k e _ => (n k e).elim
theorem wipe1 (σ : L2.St) (i : Nat) : wipe σ [i] = σ.set i none := rfl
/-- a comprehension of one for, its name alone -/
theorem vo_lc {x : Str} {elt : Expr} {ifs : List Expr} {scope : Scope} {s : Sh} {p2 : Pos} (i : Nat) (z : Cz X c We k) (hN : X.N.Nodup) (hi : VI X c M We al (.Name x p2) it fi) (ok : BlkOk X.N X.env.scope scope [(x, i)])
    (hg : ∀ (s : Shared) (H : Hp) (C : Addr) (cl : List (Str × Addr)) (fp : List Addr), PG (X.blk s H scope (compEnvC scope cl C X.env) fp) (.Name x p2) (gName i))
    (ht : ∀ (s : Shared) (H : Hp) (C : Addr) (cl : List (Str × Addr)) (fp : List Addr), VTs (X.blk s H scope (compEnvC scope cl C X.env) fp) c (fset M i (.v al)) W0 ifs t)
    (he : ∀ (s' : Shared) (H : Hp) (C : Addr) (cl : List (Str × Addr)) (fp : List Addr), VO (X.blk s' H scope (compEnvC scope cl C X.env) fp) c (fset M i (.v al)) W0 s elt f)
    (hs : ∀ x, foldedSetIterable it X.env x = pure x := by intro _; rfl) : VO X c M We (.l s) (.ListComp elt [⟨.Name x p2, it, ifs, 0⟩] scope pos) (eLc fi i t f) := by
  obtain ⟨wi, p, s1⟩ := hi.ex
  -- one reading for all contexts
  obtain ⟨tt, ptt, stt⟩ : ∃ tt : TT, (∀ (s : Shared) (H : Hp) (C : Addr) (cl : List (Str × Addr)) (fp : List Addr), PTs (X.blk s H scope (compEnvC scope cl C X.env) fp) ifs tt) ∧ ∀ (w : Wd) (σ : L2.St) (H : Hp) (ρ : Rho) (Q : Bool → Hp → Prop), Sl c (fset M i (.v al)) w H σ ρ →
      Po (t ρ) (fun b => ∀ H', Same H H' → Q b H') (fun k => ∀ H', Same H H' → W0 k none σ H') → tt σ H Q :=
    ⟨fun σ H Q => ∀ (s : Shared) (H' : Hp) (C : Addr) (cl : List (Str × Addr)) (fp : List Addr), (ht s H' C cl fp).ex.choose σ H Q, fun s H' C cl fp => ⟨fun pins s' σ H Q I h => (ht s H' C cl fp).ex.choose_spec.1.run pins s' σ H Q I (h s H' C cl fp)⟩,
      fun w σ H ρ Q sl po s H' C cl fp => (ht s H' C cl fp).ex.choose_spec.2 w σ H ρ Q sl po⟩
  obtain ⟨te, pte, ste⟩ : ∃ te : TE, (∀ (s : Shared) (H : Hp) (C : Addr) (cl : List (Str × Addr)) (fp : List Addr), PE (X.blk s H scope (compEnvC scope cl C X.env) fp) elt te) ∧ ∀ (w : Wd) (σ : L2.St) (H : Hp) (ρ : Rho) (Q : VK), Sl c (fset M i (.v al)) w H σ ρ →
      Po (f ρ) (fun d => ∀ v H' F, Same H H' → (∀ a ∈ F, H a = none) → F.Nodup → Own c (fun a => NW w 0 H a ∧ a ∉ F) H' s v d F → Q v H') (fun k => ∀ H', Same H H' → W0 k none σ H') → te σ H Q :=
    ⟨fun σ H Q => ∀ (s : Shared) (H' : Hp) (C : Addr) (cl : List (Str × Addr)) (fp : List Addr), (he s H' C cl fp).ex.choose σ H Q, fun s H' C cl fp => ⟨fun pins s' σ H Q I h => (he s H' C cl fp).ex.choose_spec.1.run pins s' σ H Q I (h s H' C cl fp)⟩,
      fun w σ H ρ Q sl po s H' C cl fp => (he s H' C cl fp).ex.choose_spec.2 w σ H ρ Q sl po⟩
  refine ⟨_, pe_lc z.calm hN p ok hg ptt pte hs, fun w σ H ρ Q sl po => s1 w σ H ρ _ sl ((Po.bind po).imp (fun ds _ q J G Y H1 hs wk hG hy => ?_) fun _ _ q => q)⟩
  intro Dl hD
  have hDH : H Dl = none := hs.free hD
  obtain ⟨hb, q⟩ := Po.gd q
  rw [Bool.and_eq_true, decide_eq_true_eq, decide_eq_true_eq] at hb
  obtain ⟨hil, hdl⟩ := hb
  have q := Po.bind q
  refine lc_it wk (fun n H' => ∃ acc done Gs, H' Dl = some (.lst acc) ∧ Same H1 H' ∧ P3 (Own c (fun a => NW w 0 H a ∧ a ≠ Dl ∧ a ∉ Gs.flatten) H' s) acc done Gs ∧ Gs.flatten.Nodup ∧ (∀ a ∈ Gs.flatten, H1 a = none ∧ a ≠ Dl) ∧ done.length ≤ n ∧
      Po (cGo i t f (ds.drop n) ρ) (fun rest => ∀ v H' F, Same H H' → (∀ a ∈ F, H a = none) → F.Nodup → Own c (fun a => NW w 0 H a ∧ a ∉ F) H' (.l s) v (.lst (done ++ rest)) F → Q v H') (fun k => ∀ H', Same H H' → We k none σ H')) ?_ ?_ ?_ ?_
  · refine ⟨[], [], [], upd_same, same_new (Same.refl _) hD, .nil, by simp, by simp, by simp, ?_⟩
    rw [List.drop_zero]
    exact q.imp (fun l _ q v H' F a b d e => q v H' F a b d e) fun _ _ q => q
  · rintro n H' hn ⟨acc, done, Gs, h1, h2, _⟩
    exact hG H' fun a o _ e => h2 a o e
  · rintro n x H2 H3 hn ⟨acc, done, Gs, h1, h2, h3, h4, h5, h6, h7⟩ hY
    obtain ⟨st, d, ed, isd⟩ := hy n H2 x H3 hn (fun a o _ e => h2 a o e) hY
    have ed2 : ds.drop n = d :: ds.drop (n + 1) := by
      obtain ⟨z1, z2⟩ := List.getElem?_eq_some_iff.mp ed
      rw [List.drop_eq_getElem_cons z1, z2]
    rw [ed2] at h7
    show wipe ((wipe σ [i]).set i (some x)) [i] = wipe σ [i] ∧ _
    refine ⟨by rw [wipe1, wipe1, List.set_set, List.set_set], ?_⟩
    have h13 : Same H1 H3 := h2.trans st
    have hD3 : H3 Dl = some (.lst acc) := st _ _ h1
    -- the state of the element, the regions without the new list and what it holds
    let w' : Wd := ⟨fun a => NW w 0 H a ∧ a ≠ Dl ∧ a ∉ Gs.flatten, fun a => NW w 1 H a ∧ a ≠ Dl ∧ a ∉ Gs.flatten, fun a x => ⟨NW.up (by decide) a x.1, x.2⟩⟩
    have sl3 : Sl c (fset M i (.v al)) w' H3 ((wipe σ [i]).set i (some x)) (ρ.set i (some d)) := by
      refine ⟨by rw [wipe1]; simp [sl.1], fun j dj ej => ?_⟩
      have reg : ∀ l a, NW w l H a → H1 a ≠ none → w'.at l a := fun l a x y => match l, x with
        | 0, x => ⟨x, fun z => y (by rw [z]; exact hD), fun z => y (h5 a z).1⟩
        | 1, x => ⟨x, fun z => y (by rw [z]; exact hD), fun z => y (h5 a z).1⟩
        | _ + 2, _ => trivial
      by_cases hj : j = i
      · subst hj
        rw [List.getElem?_set_self hil] at ej
        cases ej
        refine ⟨x, by rw [wipe1, List.set_set, List.getElem?_set_self (by rw [sl.1]; exact hil)], ?_⟩
        rw [fset_self]
        exact isd _ fun a y y' => reg al a y y'
      · rw [List.getElem?_set_ne (Ne.symm hj)] at ej
        obtain ⟨v, e1, e2⟩ := sl.2 j dj ej
        refine ⟨v, by rw [wipe1, List.set_set, List.getElem?_set_ne (Ne.symm hj)]; exact e1, ?_⟩
        rw [fset_ne hj]
        exact e2.track.mono (fun a x => reg _ a (.inl x.1) fun z => x.2 (hs.free z)) fun a o _ e => h13 a o (hs a o e)
    refine stt w' _ H3 _ _ sl3 ((Po.noX (Po.bind h7)).imp (fun b _ q1 H4 hs4 => ?_) fun _ _ q => q)
    have hD4 : H4 Dl = some (.lst acc) := hs4 _ _ hD3
    have h14 : Same H1 H4 := h13.trans hs4
    have keep : ∀ {v d F} {H' : Hp}, Same H4 H' → F ∈ Gs → Own c (fun a => NW w 0 H a ∧ a ≠ Dl ∧ a ∉ Gs.flatten) H2 s v d F → Own c (fun a => NW w 0 H a ∧ a ≠ Dl ∧ a ∉ Gs.flatten ∧ H2 a ≠ none) H' s v d F := fun {v d F H'} hs' hF ho =>
      ho.track.mono (fun a x => ⟨x.1.1, x.1.2.1, x.1.2.2, x.2⟩) fun a o _ e => hs' a o (hs4 a o (st a o e))
    cases b with
    | false =>
      refine iteF ⟨acc, done, Gs, hD4, h14, h3.imp fun v d F hF ho => (keep (Same.refl _) hF ho).mono (fun a x => ⟨x.1, x.2.1, x.2.2.1⟩) fun a o _ e => e, h4, h5, Nat.le_succ_of_le h6, q1⟩
    | true =>
      refine iteT (ste w' _ H4 _ _ (sl3.same hs4) ((Po.noX (Po.bind (r := noX (f (ρ.set i (some d)))) q1)).imp (fun dy _ q2 y H5 F hs5 hn nd ho => ?_) fun _ _ q => q))
      have q2 := Po.bind (r := cGo i t f (ds.drop (n + 1)) ρ) q2
      have hD5 : H5 Dl = some (.lst acc) := hs5 _ _ hD4
      have nF : Dl ∉ F := fun z => by rw [hn Dl z] at hD4; cases hD4
      have hlen : acc.length = done.length := h3.length.1
      refine ⟨acc, hD5, Nat.lt_of_lt_of_le (by rw [hlen]; omega) (by decide : 100001 ≤ sizeLine), acc ++ [y], done ++ [dy], Gs ++ [F], upd_same, fun a o e => ?_, ?_, ?_, ?_, by simp; omega, ?_⟩
      · rw [upd_ne (ne_of_none e hD)]
        exact hs5 a o (h14 a o e)
      · have ef : (Gs ++ [F]).flatten = Gs.flatten ++ F := by simp
        have up : ∀ {v d F'}, Own c (fun a => NW w 0 H a ∧ a ≠ Dl ∧ a ∉ (Gs ++ [F]).flatten) H5 s v d F' → Dl ∉ F' → Own c (fun a => NW w 0 H a ∧ a ≠ Dl ∧ a ∉ (Gs ++ [F]).flatten) (upd H5 Dl (.lst (acc ++ [y]))) s v d F' := fun {v d F'} ho hF' =>
          ho.mono (fun _ x => x) fun a o x e => by
            have hne : a ≠ Dl := by
              intro z
              subst z
              rcases x with x | x | x
              · exact x.2.1 rfl
              · exact hF' x
              · rw [hD5] at e; cases e; exact x
            rw [upd_ne hne]; exact e
        refine (h3.imp fun v d F' hF' ho' => up ((keep hs5 hF' ho').mono (fun a x => ⟨x.1, x.2.1, fun z => ?_⟩) fun a o _ e => e) fun z => (h5 Dl (mem_flat hF' z)).2 rfl).append (.cons (up (ho.mono (fun a x => ⟨?_, fun z => ?_, fun z => ?_⟩) fun a o _ e => e) nF) .nil)
        · rw [ef] at z
          rcases List.mem_append.mp z with y' | y'
          · exact x.2.2.1 y'
          · exact x.2.2.2 ((st.trans hs4).free (hn a y'))
        · rcases x.1 with y' | y'
          · exact y'.1
          · exact .inr (hs.free (h14.free y'))
        · rcases x.1 with y' | y'
          · exact y'.2.1 z
          · rw [z, hD4] at y'; cases y'
        · rw [ef] at z
          rcases List.mem_append.mp z with y' | y'
          · rcases x.1 with z' | z'
            · exact z'.2.2 y'
            · obtain ⟨G, hG', ha'⟩ := List.mem_flatten.mp y'
              obtain ⟨v', d', ho'⟩ := h3.mem hG'
              obtain ⟨o, eo, _⟩ := ho'.there a ha'
              have := (st.trans hs4) a o eo
              rw [z'] at this; cases this
          · exact x.2 y'
      · rw [show (Gs ++ [F]).flatten = Gs.flatten ++ F by simp]
        refine List.nodup_append.mpr ⟨h4, nd, fun a ha b hb e => ?_⟩
        subst e
        obtain ⟨G, hG', ha'⟩ := List.mem_flatten.mp ha
        obtain ⟨v', d', ho'⟩ := h3.mem hG'
        obtain ⟨o, eo, _⟩ := ho'.there a ha'
        have := (st.trans hs4) a o eo
        rw [hn a hb] at this; cases this
      · intro a ha
        rw [show (Gs ++ [F]).flatten = Gs.flatten ++ F by simp] at ha
        rcases List.mem_append.mp ha with y' | y'
        · exact h5 a y'
        · exact ⟨h14.free (hn a y'), fun z => nF (by rw [← z]; exact y')⟩
      · refine q2.imp (fun rest _ q v H' F a b d e => q v H' F a b d ?_) fun _ _ q => q
        rw [List.append_assoc] at e
        exact e
  · rintro H' ⟨acc, done, Gs, h1, h2, h3, h4, h5, h6, h7⟩
    rw [List.drop_length] at h7
    have h7 : ∀ v H' F, Same H H' → (∀ a ∈ F, H a = none) → F.Nodup → Own c (fun a => NW w 0 H a ∧ a ∉ F) H' (.l s) v (.lst (done ++ [])) F → Q v H' := h7
    rw [List.append_nil] at h7
    refine h7 (.ref Dl) H' (Dl :: Gs.flatten) (hs.trans h2) (fun a ha => ?_) (List.nodup_cons.mpr ⟨fun z => (h5 Dl z).2 rfl, h4⟩) ⟨Dl, acc, done, Gs, rfl, rfl, h1, h3.imp fun v d F _ ho => ho.mono (fun a x => ⟨x.1, fun z => ?_⟩) fun a o _ e => e, rfl⟩
    · rcases List.mem_cons.mp ha with z | z
      · rw [z]; exact hDH
      · exact hs.free (h5 a z).1
    · rcases List.mem_cons.mp z with y | y
      · exact x.2.1 y
      · exact x.2.2 y

/-- x.clear(), x its own list -/
theorem vs_clear {x : Str} {p2 apos cpos : Pos} {s : Sh} (i : Nat) (hm : M i = .o (.l s)) (hN : X.N[i]? = some x := by rfl) (hv : Vis X.env.scope x := by first | exact Or.inl rfl | exact Or.inr (Or.inl rfl) | exact Or.inr (Or.inr rfl)) (hd : (x == ("__debug__" : Str)) = false := by decide)
    (hcd : (x == ("__classdict__" : Str)) = false := by decide) (hbase : attributeBase (.Name x p2) "clear" X.env (eval (.Name x p2) X.env) = eval (.Name x p2) X.env := by rfl) (hline : (apos.endLine == cpos.line) = true := by rfl)
    (hs : swapsWith (.Call (.Attribute (.Name x p2) "clear" apos) [] [] cpos) none pos.line X.env = pure false := by rfl) :
    VSt X c We rs Ml M M (.Expr (.Call (.Attribute (.Name x p2) "clear" apos) [] [] cpos) pos) (sClear i) := by
  refine ⟨_, ps_expr (pe_bm0 PySem.F.plainAttrs_list PySem.F.slot_list_clear PySem.F.type_list_clear mt_clear (pv i hN hv hd hcd) hbase hline) hs, fun B σ H ρ D R po => ?_⟩
  obtain ⟨Fs, R⟩ := R
  obtain ⟨ds, er, po⟩ := po_lst po
  obtain ⟨p, xs, Gs, h1, hp, h3, eF, keep, put⟩ := R.lst hm er
  exact ⟨_, h1, .inl ⟨rfl, xs, .of hp⟩, p, xs, rfl, rfl, hp, po _ _ ⟨_, put H [] [] [] (Same.refl H) .nil (by simp) (by simp)⟩⟩

/-! ### raise X('..') -/
/-- the facts of an own class of exceptions over ValueError -/
structure ExK (K : PySem.W.Frag) (mg : Str → Option Value) (x : Str) (C : Addr) : Prop where
  g : mg x = some (.ref C)
  q : PySem.W.excIn K C [.type "ValueError", .type "Exception", .type "BaseException", .type "object"] "ValueError.__new__" = true
  kp : PySem.W.keepIn K (.ref C) = true
  b : PySem.W.subIn K (.ref C) (.type "BaseException") = some true
  t : PySem.W.typeIn K (.ref C) = some (.type "type")
theorem vs_raise {x m : Str} {C : Addr} {n : Nat} {p p2 p3 : Pos} (z : Cz X c We k) (h : ExK X.K X.mg x C) (hg : Gl X x) (hdb : (x == ("__debug__" : Str)) = false := by decide) :
    VSt X c We rs Ml M M' (.Raise (some (.Call (.Name x p) [.Constant (.str m) n p2] [] p3)) none pos) (sExc (.ref C)) :=
  ⟨_, ps_raise z.calm z.tk (pmk_own PySem.F.excBase_ValueError h.q h.g h.kp (raises_own h.b h.t) hg hdb), fun B σ H ρ D R po => by
    obtain ⟨Fs, R⟩ := R
    exact po σ H fun p hp a o e hn => R.fr p hp a o e hn⟩
end

/-! ### a def -/
def startD (n : Nat) (ds : List D) : Rho := ds.map some ++ List.replicate (n - ds.length) none
/-- the meaning of a def: n names, the first m its parameters -/
def runF (n m : Nat) (rs : Sh) (g : SF) : List D → O D := fun ds => gd (decide (ds.length = m) && decide (m ≤ n)) ((g (startD n ds)).bind fun out => match out with
  | .nx _ => gd (decide (rs = .fz)) (.ok .non)
  | .rt d _ => .ok d
  | _ => .bad)
theorem isA_get {c : Ct} {W : Addr → Prop} {H : Hp} {vs : List V} {ds : List D} (h : IsA c W H vs ds) {n i : Nat} {d : D} (e : (startD n ds)[i]? = some (some d)) : i < ds.length ∧ ∃ v, vs[i]? = some v ∧ Is c W H v d := by
  unfold startD at e
  by_cases hi : i < ds.length
  · rw [List.getElem?_append_left (by simpa using hi), List.getElem?_map] at e
    cases e1 : ds[i]? with
    | none => rw [e1] at e; cases e
    | some d' =>
      rw [e1] at e
      cases e
      exact ⟨hi, h.getD e1⟩
  · rw [List.getElem?_append_right (by simpa using hi), List.getElem?_replicate] at e
    split at e <;> cases e
section
variable {P : Program} {w : World} {K : PySem.W.Frag} {mg : Str → Option Value} {base : Heap} {c : Ct}
/-- a def that changes nothing keeps the promise of its meaning -/
theorem fn_pure {x qual : Str} {st : Stmt} {f : Addr} {fd : FuncData} {N ps : List Str} {k : Nat} {rs : Sh} {g : SF} {M M' : Nat → Mo} (F : Fun K x qual st f fd) (S : FnScope N ps (defScope st)) (hK : K = c.K) (hM : ∀ i, i < ps.length → M i = .v 1)
    (hb : ∀ (cdv : Value) (A : Around) (outer : List Env) (s : Shared) (H : Hp) (E : XK), Cz (cxOf (L2.CX P w) P w K mg base N qual (defScope st) f cdv A outer s H E) c (fun cls d _ H => E cls d H) k →
      VSs (cxOf (L2.CX P w) P w K mg base N qual (defScope st) f cdv A outer s H E) c (fun cls d _ H => E cls d H) rs M M M' (defBody st) g) :
    FnOk P w K mg base (L2.CX P w) (k + 1) f fd ps (spP c rs (runF N.length ps.length rs g)) := by
  refine F.okX S (fun vs H Q E h => ?_) (fun cdv A outer s H vs Q E hr h => ?_)
  · obtain ⟨ds, h1, h2⟩ := h
    obtain ⟨hl, _⟩ := Po.gd h2
    rw [Bool.and_eq_true, decide_eq_true_eq] at hl
    rw [h1.length, hl.1]
  · have z : Cz (cxOf (L2.CX P w) P w K mg base N qual (defScope st) f cdv A outer s H E) c (fun cls d _ H => E cls d H) k := ⟨hK, rfl, takes_of rfl rfl rfl rfl, hr, passes_of rfl⟩
    obtain ⟨t, p, so⟩ := (hb cdv A outer s H E z).ex
    refine ⟨t, p, ?_⟩
    obtain ⟨ds, h1, h2⟩ := h
    obtain ⟨hl, h2⟩ := Po.gd h2
    rw [Bool.and_eq_true, decide_eq_true_eq, decide_eq_true_eq] at hl
    have h2 := Po.bind h2
    refine so ⟨H, [(H, fun _ => False)], []⟩ _ H (startD N.length ds) _ ⟨fun _ => [], ?_⟩ (h2.imp (fun out _ q => ?_) fun kx _ q σ' H' hf => q H' fun a o e => hf (H, fun _ => False) (by simp) a o e (fun z => z))
    · refine ⟨by simp, by simp, by simp, fun p hp a o e _ => ?_, by simp, by simp, fun a e => e, fun i d e => ?_, by simp, by simp [L2.start, startD, h1.length]⟩
      · have : p = (H, fun _ => False) := by simpa using hp
        rw [this] at e; exact e
      · obtain ⟨hi, v, e1, e2⟩ := isA_get h1 e
        have hv : i < vs.length := (List.getElem?_eq_some_iff.mp e1).1
        refine ⟨v, ?_, ?_⟩
        · unfold L2.start
          rw [List.getElem?_append_left (by simpa using hv), List.getElem?_map, e1]
          rfl
        · rw [hM i (by omega)]
          exact ⟨by decide, rfl, e2.up fun _ _ _ => by simp⟩
    · cases out with
      | nx ρ' =>
        intro σ' H' R
        obtain ⟨hrs, q⟩ := Po.gd q
        have hrs : rs = .fz := of_decide_eq_true hrs
        subst hrs
        obtain ⟨Fs, R⟩ := R
        exact q .non H' [] (fun a o e => R.fr (H, fun _ => False) (by simp) a o e (fun z => z)) (by simp) (by simp) ⟨rfl, .non⟩
      | rt d ρ' =>
        rintro v H' ⟨M2, Fs, σ2, Fp, R, n1, n2, n3⟩
        exact q v H' Fp (fun a o e => R.fr (H, fun _ => False) (by simp) a o e (fun z => z)) (fun a ha => (n2 a ha).1) n1 (n3.mono (fun a x => ⟨x.1, x.2.2⟩) fun a o _ e => e)
      | bk ρ' => exact q.elim
      | ct ρ' => exact q.elim
end
end VS
set_option Elab.async false
set_option linter.all false
set_option maxRecDepth 100000
set_option maxHeartbeats 2000000
/-! VK: defs as they stand, further rules. -/
namespace VS
open PySem L2

def eCall (fs : AF) (F : List D → O D) : EF := fun ρ => (fs ρ).bind F
def mo (l : List Mo) : Nat → Mo := fun i => l.getD i (.v 0)
/-- a def of the top -/
structure Fact (K : PySem.W.Frag) (mg : Str → Option Value) (x : Str) (st : Stmt) (ps : List Str) : Prop where
  ex : ∃ f fd, Fun K x x st f fd ∧ mg x = some (.ref f) ∧ Binds K fd ps []
/-- a def that keeps a promise -/
structure Dc (P : Program) (w : World) (K : PySem.W.Frag) (mg : Str → Option Value) (base : Heap) (k : Nat) (x : Str) (sp : Sp) : Prop where
  ex : ∃ f fd ps, FnOk P w K mg base (L2.CX P w) k f fd ps sp ∧ Binds K fd ps [] ∧ mg x = some (.ref f) ∧ PySem.W.keepIn K (.ref f) = true
/-- the built-ins' names are theirs -/
structure Bn (mg : Str → Option Value) : Prop where
  len : mg "len" = none
  isinstance : mg "isinstance" = none
  range : mg "range" = none
  zip : mg "zip" = none
  enumerate : mg "enumerate" = none
  int : mg "int" = none
  bool : mg "bool" = none
  list : mg "list" = none
  tuple : mg "tuple" = none
  str : mg "str" = none
  dict : mg "dict" = none
  sorted : mg "sorted" = none
  min : mg "min" = none
  max : mg "max" = none
  sum : mg "sum" = none
  abs : mg "abs" = none
  set : mg "set" = none
  vErr : mg "ValueError" = none

section
variable {X : Cx} {c : Ct} {M M' Ml : Nat → Mo} {We : WX} {al al' al'' k k' i : Nat} {e a b d : Expr} {f fa fb fc : EF} {pos : Pos} {t t' : TF} {rs : Sh}
theorem ve_any (h : VE X c M We al e f) : VE X c M We 2 e f := by
  obtain ⟨te, p, s⟩ := h.ex
  exact ⟨te, p, fun w σ H ρ Q sl po => s w σ H ρ Q sl (po.imp (fun d _ q v H' hs hi => q v H' hs (hi.up fun _ _ => .inl trivial)) fun _ _ q => q)⟩
/-- arguments of a call, whatever their taint -/
theorem va_arg {es : List Expr} {fs : AF} (h : VE X c M We al e f) (t : VA X c M We 2 es fs) (hs : starEach (e :: es) X.env = (false, eval e X.env) :: starEach es X.env := by rfl) : VA X c M We 2 (e :: es) (aCons f fs) := va_cons (ve_any h) t hs
theorem vo_callD {x : Str} {F : List D → O D} {es : List Expr} {fs : AF} {p : Pos} (z : Cz X c We k) (dc : Dc X.prog X.w X.K X.mg X.base k' x (spP c rs F)) (hk : k' ≤ k) (t : VA X c M We 2 (e :: es) fs) (hg : Gl X x := by rfl) (hdb : (x == ("__debug__" : Str)) = false := by decide)
    (he : starEach (e :: es) X.env = (false, eval e X.env) :: starEach es X.env := by rfl) (hpl : (backTo pos (starEach es X.env)).any (·.1) = false := by rfl) :
    VO X c M We rs (.Call (.Name x p) (e :: es) [] pos) (eCall fs F) := by
  obtain ⟨f, fd, ps, G, hb, hm, kp⟩ := dc.ex
  exact vo_call z (G.mono hk) hb hm kp hg t hdb he hpl
def negD : D → O D
  | .int i => .ok (.int (-i))
  | _ => .bad
theorem ve_neg (h : VE X c M We al a f) : VE X c M We 0 (.UnaryOp .USub a pos) (e1 negD f) := by
  obtain ⟨te, p, s⟩ := h.ex
  refine ⟨_, pe_un un_neg p, fun w σ H ρ Q sl po => s w σ H ρ _ sl ((Po.bind po).imp (fun d _ q v H1 hs hi => ?_) fun _ _ q => q)⟩
  cases d with
  | int i => exact ⟨i, is_int hi, q _ H1 hs (.int _)⟩
  | _ => exact q.elim
/-- int(n), int(a truth) -/
def intD : D → O D
  | .int i => .ok (.int i)
  | .bl b => .ok (.int (if b = true then 1 else 0))
  | _ => .bad
theorem ve_intc {p : Pos} (h : VE X c M We al e f) (hg : Gl X "int") (hm : X.mg "int" = none) (hs : starEach [e] X.env = (false, eval e X.env) :: starEach [] X.env := by rfl) (hpl : (backTo pos (starEach [] X.env)).any (·.1) = false := by rfl) :
    VE X c M We 0 (.Call (.Name "int" p) [e] [] pos) (e1 intD f) := by
  obtain ⟨te, pe, s⟩ := h.ex
  refine ⟨_, pe_callTy call_int1 hg hm PyProof.Rows.boot_int (pa_cons pe pa_nil hs) (by decide) (by decide) hs hpl, fun w σ H ρ Q sl po => s w σ H ρ _ sl ((Po.bind po).imp (fun d _ q v H1 hs hi => ?_) fun _ _ q => q)⟩
  cases d with
  | int i => exact .inl ⟨i, by rw [is_int hi], q _ H1 hs (.int _)⟩
  | bl b => exact .inr ⟨b, by rw [is_bl hi], q _ H1 hs (.int _)⟩
  | _ => exact q.elim
end
theorem fact_mk {K : PySem.W.Frag} {mg : Str → Option Value} {h : Heap} {x : Str} {st : Stmt} {ps : List Str} {f : Addr} {oc : Value} {od an : Option Addr} {osl : Array (Option Value)} {kV doc pm cdv ct : Value} (X : K.In h) (G : h.Ns mainGlobals mg)
    (hb : ∀ {fd : FuncData}, Fun K x x st f fd → Binds K fd ps [])
    (a : PySem.W.nsIn K mainGlobals x = some (some (.ref f))) (l : K.lookup f = some ⟨oc, od, .func (PySem.W.fnOf x x (defArgs st) (defBody st) (defScope st) .none kV doc pm an cdv ct), osl⟩)
    (c : PySem.W.codeIn K cdv x = true) (kp : PySem.W.keepIn K (.ref f) = true) : Fact K mg x st ps :=
  ⟨f, _, fun_mk l c kp, PySem.W.mg_of X G a, hb (fun_mk l c kp)⟩
/-- the law's own promise at the script -/
theorem walk_law {l : PySem.W.OpenLaw} {lv : Nat} {q : Program} {loose : List Str} {XP : (Str → Option Value) → Heap → Prop} {YP : World → Heap → Prop} {d : DefRec} {K : Params → PySem.W.Frag}
    (hn : l.most = some 63) (hdf : d.params.defaults = []) (hr : (callerA.depth + 3 * lv + 5 < recursionLimit)) (hu : callerA.units + 16 * lv + 200 < cLine) (hY : ∀ (w : World) (h : Heap), YP w h → (K w.params).In h)
    (Fn : ∀ (w : World) (mg : Str → Option Value) (fa : Addr) (h : Heap), (K w.params).In h → h.Ns mainGlobals mg → mg d.name = some (.ref fa) →
      ∃ fd : FuncData, (∀ (s : Shared) (u : Value), BindsTo s fd ⟨[u], []⟩ [("_law_script", u)]) ∧ ∃ (c : Ct) (F : List D → O D), c.K = K w.params ∧ (∀ ns : List Int, ns.length ≤ 63 → F [.lst (ns.map .int)] = .ok (.bl true)) ∧
        ∀ base : Heap, FnOk l.prog w (K w.params) mg base (L2.CX l.prog w) lv fa fd ["_law_script"] (spP c .fz F)) :
    PySem.W.WalkO q loose XP YP l.row.toRowW d [] (fun f vs => PySem.call f vs) := by
  refine L2.walk_of (n := 63) (k := lv) (x := "_law_script") (CX := fun w => L2.CX l.prog w) (sp := fun w vs H Q E => ∃ (a : Addr) (ns : List Int), vs = [.ref a] ∧ SqL (K w.params) H a (ns.map V.int) ∧ ns.length ≤ 63 ∧ ∀ H', Q (.bl true) H') hn (by decide) hdf ⟨rfl, hr, hu⟩ hY (fun w mg fa h KX G hm => ?_)
    (fun w H a ns hl hO hS => ⟨a, ns, rfl, hS, hl, fun _ => rfl⟩) fun w H s e s' z => ?_
  · obtain ⟨fd, h1, c, F, hc, law, h2⟩ := Fn w mg fa h KX G hm
    refine ⟨fd, h1, fun base _ _ => (h2 base).imp fun vs H Q E hsp => ?_⟩
    obtain ⟨a, ns, rfl, hS, hl, hq⟩ := hsp
    have hA : ∀ ns : List Int, IsA c (fun _ => True) H (ns.map V.int) (ns.map D.int) := by
      intro ns
      induction ns with
      | nil => exact .nil
      | cons n ns ih => exact .cons (.int n) ih
    refine ⟨[.lst (ns.map .int)], .cons ?_ .nil, ?_⟩
    · rw [← hc] at hS
      rcases hS with h | h
      · exact .lst trivial h (hA ns)
      · exact .lstK h (hA ns)
    · rw [law ns hl]
      intro v H' Fp hs hn nd ho
      rw [is_bl ho.2]
      exact hq H'
  · obtain ⟨_, _, _, _, _, _, _, _, _, _, _, _, z⟩ := z
    exact z
end VS
set_option Elab.async false
set_option linter.all false
set_option maxRecDepth 100000
set_option maxHeartbeats 2000000
/-! VL: the meanings, unfolded step by step. -/
namespace VS
open PySem L2
section
variable {ρ : Rho} {i j : Nat} {f h fa fb fc : EF} {a b : AF} {g g' : SF} {t t' : TF} {d : D}
@[simp] theorem sNx_ap : sNx ρ = .ok (.nx ρ) := rfl
@[simp] theorem sSeq_ap : sSeq g g' ρ = (g ρ).bind fun out => match out with
  | .nx ρ => g' ρ
  | o => .ok o := rfl
@[simp] theorem sSet_ap : sSet i f ρ = (f ρ).bind fun d => gd (decide (i < ρ.length)) (.ok (.nx (ρ.set i (some d)))) := rfl
@[simp] theorem sDrop_ap : sDrop f ρ = (f ρ).bind fun _ => .ok (.nx ρ) := rfl
@[simp] theorem sRet_ap : sRet f ρ = (f ρ).bind fun d => .ok (.rt d ρ) := rfl
@[simp] theorem sRetN_ap : sRetN ρ = .ok (.rt .non ρ) := rfl
@[simp] theorem sRetV_ap : sRetV i ρ = (eVar i ρ).bind fun d => .ok (.rt d (ρ.set i none)) := rfl
@[simp] theorem sIf_ap : sIf t g g' ρ = (t ρ).bind fun b => if b = true then g ρ else g' ρ := rfl
@[simp] theorem sBk_ap : sBk ρ = .ok (.bk ρ) := rfl
@[simp] theorem sCt_ap : sCt ρ = .ok (.ct ρ) := rfl
@[simp] theorem sExc_ap (k : Value) : sExc k ρ = .exc k := rfl
@[simp] theorem sApp_ap : sApp i f ρ = (eVar i ρ).bind fun x => (lstD x).bind fun l => (f ρ).bind fun d => gd (decide (l.length < 100000)) (.ok (.nx (ρ.set i (some (.lst (l ++ [d])))))) := rfl
@[simp] theorem sAppV_ap : sAppV i j ρ = (eVar i ρ).bind fun x => (lstD x).bind fun l => (eVar j ρ).bind fun d => gd (decide (l.length < 100000) && decide (i ≠ j)) (.ok (.nx ((ρ.set j none).set i (some (.lst (l ++ [d])))))) := rfl
@[simp] theorem sClear_ap : sClear i ρ = (eVar i ρ).bind fun x => (lstD x).bind fun _ => .ok (.nx (ρ.set i (some (.lst [])))) := rfl
@[simp] theorem lstD_lst (l) : lstD (.lst l) = .ok l := rfl
theorem eVar_ap : eVar i ρ = match ρ[i]? with
  | some (some d) => .ok d
  | _ => .bad := rfl
@[simp] theorem eVar_nil : eVar i [] = .bad := rfl
@[simp] theorem eVar_zs : eVar 0 (some d :: ρ) = .ok d := rfl
@[simp] theorem eVar_s {x : Option D} : eVar (i + 1) (x :: ρ) = eVar i ρ := rfl
@[simp] theorem eC_ap : eC d ρ = .ok d := rfl
@[simp] theorem e1_ap {k : D → O D} : e1 k f ρ = (f ρ).bind k := rfl
@[simp] theorem e2_ap {k : D → D → O D} : e2 k f h ρ = (f ρ).bind fun x => (h ρ).bind fun y => k x y := rfl
@[simp] theorem eImm_ap : eImm f ρ = (f ρ).bind fun d => gd d.imm (.ok d) := rfl
@[simp] theorem aNil_ap : aNil ρ = .ok [] := rfl
@[simp] theorem aCons_ap : aCons f a ρ = (f ρ).bind fun x => (a ρ).bind fun xs => .ok (x :: xs) := rfl
@[simp] theorem eTup_ap : eTup a ρ = (a ρ).bind fun ds => gd (decide (ds.length ≤ 100000)) (.ok (.tup ds)) := rfl
@[simp] theorem eLst_ap : eLst a ρ = (a ρ).bind fun ds => gd (decide (ds.length ≤ 100000)) (.ok (.lst ds)) := rfl
@[simp] theorem tE_ap : tE f ρ = (f ρ).bind fun d => match d with
  | .bl b => .ok b
  | _ => .bad := rfl
@[simp] theorem tAndF_ap : tAndF t t' ρ = (t ρ).bind fun b => if b = true then t' ρ else .ok false := rfl
@[simp] theorem tOrF_ap : tOrF t t' ρ = (t ρ).bind fun b => if b = true then .ok true else t' ρ := rfl
@[simp] theorem tNotF_ap : tNotF t ρ = (t ρ).bind fun b => .ok (!b) := rfl
@[simp] theorem eB_ap : eB t ρ = (t ρ).bind fun b => .ok (.bl b) := rfl
@[simp] theorem tTr_ap : tTr ρ = .ok true := rfl
@[simp] theorem eChain_ap {p q : Int → Int → Bool} : eChain p q fa fb fc ρ = (fa ρ).bind fun x => (fb ρ).bind fun y => match x, y with
  | .int i, .int j => if p i j = true then (fc ρ).bind fun z => match z with
      | .int k => .ok (.bl (q j k))
      | _ => .bad
    else .ok (.bl false)
  | _, _ => .bad := rfl
@[simp] theorem iSeq_ap : iSeq f ρ = (f ρ).bind fun d => match d with
  | .lst l => .ok l
  | .tup l => .ok l
  | .str s => .ok (s.cps.toList.map fun ch => .str ⟨#[ch]⟩)
  | _ => .bad := rfl
@[simp] theorem iRg1_ap : iRg1 f ρ = (f ρ).bind fun d => match d with
  | .int n => gd (decide (-(2 ^ 62) ≤ n) && decide (n < 2 ^ 62)) (.ok (rngD 0 n.toNat))
  | _ => .bad := rfl
@[simp] theorem eCall_ap {fs : AF} {F : List D → O D} : eCall fs F ρ = (fs ρ).bind F := rfl
@[simp] theorem iZp_ap : iZp f h ρ = (f ρ).bind fun x => (lstD x).bind fun xs => (h ρ).bind fun y => (lstD y).bind fun ys => .ok (pairsD xs ys) := rfl
@[simp] theorem iEn_ap : iEn f ρ = (f ρ).bind fun x => (lstD x).bind fun xs => .ok (pairsD (rngD 0 xs.length) xs) := rfl
@[simp] theorem sFor_ap {s : D → Rho → O Rho} : sFor a s g ρ = (a ρ).bind fun ds => sFor.go s g ds ρ := rfl
@[simp] theorem eLc_ap : eLc a i t f ρ = (a ρ).bind fun ds => gd (decide (i < ρ.length) && decide (ds.length ≤ 100000)) ((cGo i t f ds ρ).bind fun l => .ok (.lst l)) := rfl
@[simp] theorem gN_ap : gN i d ρ = gd (decide (i < ρ.length)) (.ok (ρ.set i (some d))) := rfl
@[simp] theorem gP_ap {x y : D} : gP i j (.tup [x, y]) ρ = gd (decide (i < ρ.length) && decide (j < ρ.length)) (.ok ((ρ.set i (some x)).set j (some y))) := rfl
end
/-! values -/
@[simp] theorem isTD_ap (T : String) (d : D) {n : String} (h : tyN d = some n) : isTD T d = .ok (.bl (isTy T n)) := by simp [isTD, h]
@[simp] theorem ty_non : tyN .non = some "NoneType" := rfl
@[simp] theorem ty_bl (b) : tyN (.bl b) = some "bool" := rfl
@[simp] theorem ty_int (b) : tyN (.int b) = some "int" := rfl
@[simp] theorem ty_str (b) : tyN (.str b) = some "str" := rfl
@[simp] theorem ty_lst (b) : tyN (.lst b) = some "list" := rfl
@[simp] theorem ty_tup (b) : tyN (.tup b) = some "tuple" := rfl
@[simp] theorem ty_dct (b) : tyN (.dct b) = some "dict" := rfl
@[simp] theorem len_lst (l) : lenD (.lst l) = .ok (.int l.length) := rfl
@[simp] theorem len_tup (l) : lenD (.tup l) = .ok (.int l.length) := rfl
@[simp] theorem len_dct (l) : lenD (.dct l) = .ok (.int l.length) := rfl
@[simp] theorem len_str (s) : lenD (.str s) = gd (decide (s.length ≤ 100000)) (.ok (.int s.length)) := rfl
theorem atI_ofNat {α : Type} (l : List α) (n : Nat) : atI l (n : Int) = l[n]? := by
  unfold atI ixN
  rw [if_pos (by omega)]
  by_cases h : n < l.length
  · rw [if_pos (by omega)]; simp
  · rw [if_neg (by omega), List.getElem?_eq_none (by omega)]; rfl
theorem atI_nn {α : Type} (l : List α) {i : Int} (h : 0 ≤ i) : atI l i = l[i.toNat]? := by
  obtain ⟨n, rfl⟩ := Int.eq_ofNat_of_zero_le h
  rw [atI_ofNat]; rfl
theorem ix_lst_nn (l : List D) {i : Int} (h : 0 ≤ i) : ixD (.lst l) (.int i) = ofO l[i.toNat]? := by
  show ofO (atI l i) = _
  rw [atI_nn l h]
@[simp] theorem ix_lst_nat (l : List D) (n : Nat) : ixD (.lst l) (.int (n : Int)) = ofO l[n]? := by
  show ofO (atI l (n : Int)) = _
  rw [atI_ofNat]
@[simp] theorem ix_tup0 (x : D) (l : List D) : ixD (.tup (x :: l)) (.int 0) = .ok x := by
  show ofO (atI (x :: l) ((0 : Nat) : Int)) = _
  rw [atI_ofNat]; rfl
@[simp] theorem ix_tup1 (x y : D) (l : List D) : ixD (.tup (x :: y :: l)) (.int 1) = .ok y := by
  show ofO (atI (x :: y :: l) ((1 : Nat) : Int)) = _
  rw [atI_ofNat]; rfl
@[simp] theorem ix_tup2 (x y z : D) (l : List D) : ixD (.tup (x :: y :: z :: l)) (.int 2) = .ok z := by
  show ofO (atI (x :: y :: z :: l) ((2 : Nat) : Int)) = _
  rw [atI_ofNat]; rfl
@[simp] theorem ix_lst0 (x : D) (l : List D) : ixD (.lst (x :: l)) (.int 0) = .ok x := by
  show ofO (atI (x :: l) ((0 : Nat) : Int)) = _
  rw [atI_ofNat]; rfl
@[simp] theorem isN_non (neg : Bool) : isND neg .non .non = .ok (.bl !neg) := rfl
@[simp] theorem isN_bl (neg b : Bool) : isND neg (.bl b) .non = .ok (.bl neg) := rfl
@[simp] theorem isN_int (neg : Bool) (b) : isND neg (.int b) .non = .ok (.bl neg) := rfl
@[simp] theorem isN_str (neg : Bool) (b) : isND neg (.str b) .non = .ok (.bl neg) := rfl
@[simp] theorem isN_lst (neg : Bool) (b) : isND neg (.lst b) .non = .ok (.bl neg) := rfl
@[simp] theorem isN_tup (neg : Bool) (b) : isND neg (.tup b) .non = .ok (.bl neg) := rfl
@[simp] theorem isN_b (neg a b : Bool) : isND neg (.bl a) (.bl b) = .ok (.bl (neg != decide (a = b))) := rfl
@[simp] theorem int_int (i) : intD (.int i) = .ok (.int i) := rfl
@[simp] theorem int_bl (b : Bool) : intD (.bl b) = .ok (.int (if b = true then 1 else 0)) := rfl
@[simp] theorem neg_int (i) : negD (.int i) = .ok (.int (-i)) := rfl
theorem shaped_int (i : Int) : SeqAt.shaped (.int i) = true := by rfl
@[simp] theorem eq_int (neg : Bool) (i j : Int) : eqD neg (.int i) (.int j) = .ok (.bl (neg != decide (i = j))) := by
  unfold eqD
  rw [toPy_int, toPy_int, shaped_int, shaped_int]
  show O.ok (D.bl (neg != (i == j))) = _
  rw [show (i == j) = decide (i = j) from by rw [Bool.eq_iff_iff]; simp]
@[simp] theorem eq_bl (neg : Bool) (i j : Bool) : eqD neg (.bl i) (.bl j) = .ok (.bl (neg != decide (i = j))) := by
  cases neg <;> cases i <;> cases j <;> rfl
/-! steps -/
theorem seq_nx {g g' : SF} {ρ ρ1 : Rho} (h : g ρ = .ok (.nx ρ1)) : sSeq g g' ρ = g' ρ1 := by rw [sSeq_ap, h]; rfl
theorem seq_to {g g' : SF} {ρ ρ1 : Rho} {r : O Out} (h : g ρ = .ok (.nx ρ1)) (h' : g' ρ1 = r) : sSeq g g' ρ = r := by rw [seq_nx h, h']
theorem seq_rt {g g' : SF} {ρ ρ1 : Rho} {d : D} (h : g ρ = .ok (.rt d ρ1)) : sSeq g g' ρ = .ok (.rt d ρ1) := by rw [sSeq_ap, h]; rfl
theorem runF_rt {n m : Nat} {rs : Sh} {g : SF} {ds : List D} {d : D} {ρ : Rho} (hm : ds.length = m) (hn : m ≤ n) (h : g (startD n ds) = .ok (.rt d ρ)) : runF n m rs g ds = .ok d := by
  unfold runF
  rw [h, hm]
  simp [hn]
/-! loops that only go on -/
theorem for_nx {α : Type} {s : D → Rho → O Rho} {g : SF} (emb : α → Rho) (step : α → D → α) : ∀ (ds : List D) (x : α), (∀ y d, d ∈ ds → ((s d (emb y)).bind g) = .ok (.nx (emb (step y d)))) → sFor.go s g ds (emb x) = .ok (.nx (emb (ds.foldl step x)))
  | [], x, _ => rfl
  | d :: ds, x, h => by
    have h1 := h x d (by simp)
    have ih := for_nx emb step ds (step x d) fun y d' hd => h y d' (by simp [hd])
    unfold sFor.go
    rw [List.foldl_cons, ← ih]
    cases hs : s d (emb x) with
    | bad => rw [hs] at h1; cases h1
    | exc k => rw [hs] at h1; cases h1
    | ok ρ1 =>
      rw [hs] at h1
      simp only [O.bind_ok] at h1 ⊢
      rw [h1]
      rfl
theorem cGo_eq {i : Nat} {t : TF} {f : EF} {ρ : Rho} (p : D → Bool) (v : D → D) : ∀ (ds : List D), (∀ d ∈ ds, t (ρ.set i (some d)) = .ok (p d)) → (∀ d ∈ ds, p d = true → f (ρ.set i (some d)) = .ok (v d)) → cGo i t f ds ρ = .ok ((ds.filter p).map v)
  | [], _, _ => rfl
  | d :: ds, ht, hf => by
    unfold cGo
    rw [ht d (by simp), cGo_eq p v ds (fun d' h => ht d' (by simp [h])) fun d' h => hf d' (by simp [h])]
    cases hp : p d with
    | true => simp [hf d (by simp) hp, hp]
    | false => simp [hp]
/-- the last one taken, or what stood there -/
def lastD {β : Type} (e : β → D) (x0 : Option D) (pre : List β) : Option D := match pre.getLast? with
  | none => x0
  | some b => some (e b)
@[simp] theorem lastD_nil {β : Type} (e : β → D) (x0 : Option D) : lastD e x0 [] = x0 := rfl
@[simp] theorem lastD_snoc {β : Type} (e : β → D) (x0 : Option D) (pre : List β) (b : β) : lastD e x0 (pre ++ [b]) = some (e b) := by simp [lastD]
/-- a loop over l: st tells the state by what is taken -/
theorem for_pre {β : Type} {s : D → Rho → O Rho} {g : SF} (e : β → D) (st : List β → Rho) : ∀ (post pre : List β), (∀ p b q, pre ++ post = p ++ b :: q → ((s (e b) (st p)).bind g) = .ok (.nx (st (p ++ [b])))) → sFor.go s g (post.map e) (st pre) = .ok (.nx (st (pre ++ post)))
  | [], pre, _ => by simp [sFor.go]
  | b :: post, pre, h => by
    have h1 := h pre b post rfl
    have ih := for_pre e st post (pre ++ [b]) fun p b' q e' => h p b' q (by rw [← e']; simp)
    rw [List.map_cons]
    unfold sFor.go
    rw [show pre ++ b :: post = pre ++ [b] ++ post from by simp, ← ih]
    cases hs : s (e b) (st pre) with
    | bad => rw [hs] at h1; cases h1
    | exc k => rw [hs] at h1; cases h1
    | ok ρ1 =>
      rw [hs] at h1
      simp only [O.bind_ok] at h1 ⊢
      rw [h1]
      rfl
theorem for_all {β : Type} {s : D → Rho → O Rho} {g : SF} (e : β → D) (st : List β → Rho) (l : List β) (h : ∀ p b q, l = p ++ b :: q → ((s (e b) (st p)).bind g) = .ok (.nx (st (p ++ [b])))) : sFor.go s g (l.map e) (st []) = .ok (.nx (st l)) :=
  for_pre e st l [] h
theorem cGo_map {β : Type} {i : Nat} {t : TF} {f : EF} {ρ : Rho} (e : β → D) (p : β → Bool) (v : β → D) : ∀ (l : List β), (∀ b ∈ l, t (ρ.set i (some (e b))) = .ok (p b)) → (∀ b ∈ l, p b = true → f (ρ.set i (some (e b))) = .ok (v b)) → cGo i t f (l.map e) ρ = .ok ((l.filter p).map v)
  | [], _, _ => rfl
  | d :: ds, ht, hf => by
    rw [List.map_cons]
    unfold cGo
    rw [ht d (by simp), cGo_map e p v ds (fun d' h => ht d' (by simp [h])) fun d' h => hf d' (by simp [h])]
    cases hp : p d with
    | true => simp [hf d (by simp) hp, hp]
    | false => simp [hp]
theorem rngD_map (n : Nat) : rngD 0 n = (List.range n).map fun (i : Nat) => D.int (i : Int) := by simp [rngD]
end VS
set_option Elab.async false
set_option linter.all false
set_option maxRecDepth 100000
set_option maxHeartbeats 2000000
namespace VS
open PySem L2
def g_is_whole : SF :=
  (sRet (eB (tAndF (tE (e1 (isTD "int") (eVar 0))) (tE (eB (tNotF (tE (e1 (isTD "bool") (eVar 0)))))))))
def F_is_whole : List D → O D := runF 1 1 .fz g_is_whole

def g_lies_in : SF :=
  (sSeq (sIf (tOrF (tNotF (tE (e1 (isTD "tuple") (eVar 2)))) (tE (e2 (eqD true) (e1 lenD (eVar 2)) (eC (.int 2))))) (sRet (eC (.bl false))) sNx)
    (sSeq (sIf (tOrF (tNotF (tE (eCall (aCons (e2 ixD (eVar 2) (eC (.int 0))) aNil) F_is_whole))) (tNotF (tE (eCall (aCons (e2 ixD (eVar 2) (eC (.int 1))) aNil) F_is_whole)))) (sRet (eC (.bl false))) sNx)
    (sRet (eB (tAndF (tE (eChain (fun i j => decide (i ≤ j)) (fun i j => decide (i < j)) (eC (.int 0)) (e2 ixD (eVar 2) (eC (.int 0))) (eVar 0))) (tE (eChain (fun i j => decide (i ≤ j)) (fun i j => decide (i < j)) (eC (.int 0)) (e2 ixD (eVar 2) (eC (.int 1))) (eVar 1))))))))
def F_lies_in : List D → O D := runF 3 3 .fz g_lies_in

def g_beside_1 : TF :=
  (tE (eCall (aCons (eVar 0) (aCons (eVar 1) (aCons (eVar 6) aNil))) F_lies_in))
def g_beside_2 : EF :=
  (eVar 6)
def g_beside : SF :=
  (sSeq (sSet 3 (eImm (e2 ixD (eVar 2) (eC (.int 0)))))
    (sSeq (sSet 4 (eImm (e2 ixD (eVar 2) (eC (.int 1)))))
    (sSeq (sSet 5 (eLst (aCons (eTup (aCons (e2 subD (eVar 3) (eC (.int 1))) (aCons (eVar 4) aNil))) (aCons (eTup (aCons (eVar 3) (aCons (e2 subD (eVar 4) (eC (.int 1))) aNil))) (aCons (eTup (aCons (eVar 3) (aCons (e2 addD (eVar 4) (eC (.int 1))) aNil))) (aCons (eTup (aCons (e2 addD (eVar 3) (eC (.int 1))) (aCons (eVar 4) aNil))) aNil))))))
    (sRet (eLc (iSeq (eVar 5)) 6 g_beside_1 g_beside_2)))))
def F_beside : List D → O D := runF 7 3 (.l .fz) g_beside

def g_all_cells_1 : SF :=
  (sApp 2 (eTup (aCons (eVar 3) (aCons (eVar 4) aNil))))
def g_all_cells_2 : SF :=
  (sFor (iRg1 (eVar 1)) (gN 4) g_all_cells_1)
def g_all_cells : SF :=
  (sSeq (sSet 2 (eLst aNil))
    (sSeq (sFor (iRg1 (eVar 0)) (gN 3) g_all_cells_2)
    (sRetV 2)))
def F_all_cells : List D → O D := runF 5 2 (.l .fz) g_all_cells

def g_law_cell_at : SF :=
  (sSeq (sIf (tE (e2 ltD (eVar 1) (e1 lenD (eVar 0)))) (sRet (eImm (e2 ixD (eVar 0) (eVar 1)))) sNx)
    (sRet (eC (.int 0))))
def F_law_cell_at : List D → O D := runF 2 2 .fz g_law_cell_at

def g_law_whole : SF :=
  (sRet (eB (tAndF (tE (e1 (isTD "int") (eVar 0))) (tE (eB (tNotF (tE (e1 (isTD "bool") (eVar 0)))))))))
def F_law_whole : List D → O D := runF 1 1 .fz g_law_whole

def g_law_same_cells_1 : SF :=
  (sSeq (sIf (tOrF (tNotF (tE (e1 (isTD "tuple") (eVar 2)))) (tOrF (tE (e2 (eqD true) (e1 lenD (eVar 2)) (eC (.int 2)))) (tOrF (tNotF (tE (eCall (aCons (e2 ixD (eVar 2) (eC (.int 0))) aNil) F_law_whole))) (tNotF (tE (eCall (aCons (e2 ixD (eVar 2) (eC (.int 1))) aNil) F_law_whole)))))) (sRet (eC (.bl false))) sNx)
    (sIf (tOrF (tE (e2 (eqD true) (e2 ixD (eVar 2) (eC (.int 0))) (e2 ixD (eVar 3) (eC (.int 0))))) (tE (e2 (eqD true) (e2 ixD (eVar 2) (eC (.int 1))) (e2 ixD (eVar 3) (eC (.int 1)))))) (sRet (eC (.bl false))) sNx))
def g_law_same_cells : SF :=
  (sSeq (sIf (tOrF (tNotF (tE (e1 (isTD "list") (eVar 0)))) (tE (e2 (eqD true) (e1 lenD (eVar 0)) (e1 lenD (eVar 1))))) (sRet (eC (.bl false))) sNx)
    (sSeq (sFor (iZp (eVar 0) (eVar 1)) (gP 2 3) g_law_same_cells_1)
    (sRet (eC (.bl true)))))
def F_law_same_cells : List D → O D := runF 4 2 .fz g_law_same_cells

def g_law_thing : SF :=
  (sSeq (sSet 3 (e2 subD (e2 modD (e2 divD (eVar 0) (eC (.int 9))) (e2 addD (eVar 1) (eC (.int 2)))) (eC (.int 1))))
    (sSeq (sSet 4 (e2 subD (e2 modD (e2 divD (eVar 0) (eC (.int 300))) (e2 addD (eVar 2) (eC (.int 2)))) (eC (.int 1))))
    (sSeq (sIf (tE (e2 ltD (e2 modD (eVar 0) (eC (.int 12))) (eC (.int 4)))) (sRet (eTup (aCons (eVar 3) (aCons (eVar 4) aNil)))) sNx)
    (sSeq (sSet 5 (eLst (aCons (eLst (aCons (eVar 3) (aCons (eVar 4) aNil))) (aCons (eTup (aCons (eVar 3) (aCons (eVar 4) (aCons (eC (.int 0)) aNil)))) (aCons (eTup (aCons (eC (.bl true)) (aCons (eC (.bl false)) aNil))) (aCons (eTup (aCons (eVar 3) aNil)) (aCons (eC (.str "ab")) (aCons (eTup (aCons (eC (.str "0")) (aCons (eVar 4) aNil))) (aCons (eTup (aCons (eVar 3) (aCons (eC .non) aNil))) aNil)))))))))
    (sSeq (sApp 5 (eTup (aCons (eTup (aCons (eVar 3) (aCons (eVar 4) aNil))) (aCons (eC (.int 0)) aNil))))
    (sRet (e2 ixD (eVar 5) (e2 subD (e2 modD (eVar 0) (eC (.int 12))) (eC (.int 4))))))))))
def F_law_thing : List D → O D := runF 6 3 .fz g_law_thing

def g_law_is_cell : SF :=
  (sSeq (sIf (tOrF (tNotF (tE (e1 (isTD "tuple") (eVar 0)))) (tOrF (tE (e2 (eqD true) (e1 lenD (eVar 0)) (eC (.int 2)))) (tOrF (tNotF (tE (eCall (aCons (e2 ixD (eVar 0) (eC (.int 0))) aNil) F_law_whole))) (tNotF (tE (eCall (aCons (e2 ixD (eVar 0) (eC (.int 1))) aNil) F_law_whole)))))) (sRet (eC (.bl false))) sNx)
    (sRet (eB (tAndF (tE (eChain (fun i j => decide (i ≤ j)) (fun i j => decide (i < j)) (eC (.int 0)) (e2 ixD (eVar 0) (eC (.int 0))) (eVar 1))) (tE (eChain (fun i j => decide (i ≤ j)) (fun i j => decide (i < j)) (eC (.int 0)) (e2 ixD (eVar 0) (eC (.int 1))) (eVar 2)))))))
def F_law_is_cell : List D → O D := runF 3 3 .fz g_law_is_cell

def g_law_due : SF :=
  (sSeq (sSet 4 (eLst aNil))
    (sSeq (sIf (tE (e2 gtD (eVar 2) (eC (.int 0)))) (sApp 4 (eTup (aCons (e2 subD (eVar 2) (eC (.int 1))) (aCons (eImm (eVar 3)) aNil)))) sNx)
    (sSeq (sIf (tE (e2 gtD (eVar 3) (eC (.int 0)))) (sApp 4 (eTup (aCons (eImm (eVar 2)) (aCons (e2 subD (eVar 3) (eC (.int 1))) aNil)))) sNx)
    (sSeq (sIf (tE (e2 ltD (eVar 3) (e2 subD (eVar 1) (eC (.int 1))))) (sApp 4 (eTup (aCons (eImm (eVar 2)) (aCons (e2 addD (eVar 3) (eC (.int 1))) aNil)))) sNx)
    (sSeq (sIf (tE (e2 ltD (eVar 2) (e2 subD (eVar 0) (eC (.int 1))))) (sApp 4 (eTup (aCons (e2 addD (eVar 2) (eC (.int 1))) (aCons (eImm (eVar 3)) aNil)))) sNx)
    (sRetV 4))))))
def F_law_due : List D → O D := runF 5 4 (.l .fz) g_law_due

def g_law_1 : SF :=
  (sSeq (sSet 6 (eCall (aCons (eVar 1) (aCons (eVar 2) (aCons (eTup (aCons (eVar 3) (aCons (eVar 4) aNil))) aNil))) F_beside))
    (sSeq (sIf (tNotF (tE (eCall (aCons (eVar 6) (aCons (eCall (aCons (eVar 1) (aCons (eVar 2) (aCons (eVar 3) (aCons (eVar 4) aNil)))) F_law_due) aNil)) F_law_same_cells))) (sRet (eC (.bl false))) sNx)
    (sApp 6 (eTup (aCons (eC (.int 0)) (aCons (eC (.int 0)) aNil))))))
def g_law_2 : SF :=
  (sApp 9 (eTup (aCons (eVar 10) (aCons (eVar 11) aNil))))
def g_law_3 : SF :=
  (sFor (iRg1 (eVar 8)) (gN 11) g_law_2)
def g_law_4 : SF :=
  (sSeq (sSet 6 (eCall (aCons (eVar 1) (aCons (eVar 8) aNil)) F_all_cells))
    (sSeq (sIf (tNotF (tE (eCall (aCons (eVar 6) (aCons (eVar 9) aNil)) F_law_same_cells))) (sRet (eC (.bl false))) sNx)
    (sClear 6)))
def g_law : SF :=
  (sSeq (sSet 1 (e2 addD (eC (.int 1)) (e2 modD (eCall (aCons (eVar 0) (aCons (eC (.int 0)) aNil)) F_law_cell_at) (eC (.int 30)))))
    (sSeq (sSet 2 (e2 addD (eC (.int 1)) (e2 modD (eCall (aCons (eVar 0) (aCons (eC (.int 1)) aNil)) F_law_cell_at) (eC (.int 30)))))
    (sSeq (sSet 3 (e2 ixD (eLst (aCons (eC (.int 0)) (aCons (e2 subD (eVar 1) (eC (.int 1))) (aCons (e2 modD (e2 divD (eCall (aCons (eVar 0) (aCons (eC (.int 2)) aNil)) F_law_cell_at) (eC (.int 3))) (eVar 1)) aNil)))) (e2 modD (eCall (aCons (eVar 0) (aCons (eC (.int 2)) aNil)) F_law_cell_at) (eC (.int 3)))))
    (sSeq (sSet 4 (e2 ixD (eLst (aCons (eC (.int 0)) (aCons (e2 subD (eVar 2) (eC (.int 1))) (aCons (e2 modD (e2 divD (eCall (aCons (eVar 0) (aCons (eC (.int 3)) aNil)) F_law_cell_at) (eC (.int 3))) (eVar 2)) aNil)))) (e2 modD (eCall (aCons (eVar 0) (aCons (eC (.int 3)) aNil)) F_law_cell_at) (eC (.int 3)))))
    (sSeq (sFor (iRg1 (eC (.int 2))) (gN 5) g_law_1)
    (sSeq (sSet 7 (eCall (aCons (eCall (aCons (eVar 0) (aCons (eC (.int 4)) aNil)) F_law_cell_at) (aCons (eVar 1) (aCons (eVar 2) aNil))) F_law_thing))
    (sSeq (sSet 6 (eCall (aCons (eVar 1) (aCons (eVar 2) (aCons (eVar 7) aNil))) F_lies_in))
    (sSeq (sIf (tOrF (tNotF (tE (e1 (isTD "bool") (eVar 6)))) (tE (e2 (eqD true) (eVar 6) (eCall (aCons (eVar 7) (aCons (eVar 1) (aCons (eVar 2) aNil))) F_law_is_cell)))) (sRet (eC (.bl false))) sNx)
    (sSeq (sIf (tOrF (tE (e2 (eqD true) (eC (.int 30)) (eC (.int 30)))) (tOrF (tE (e2 (isND true) (eCall (aCons (eVar 1) (aCons (eVar 2) (aCons (eC .non) aNil))) F_lies_in) (eC (.bl false)))) (tE (e2 (isND true) (eCall (aCons (eVar 1) (aCons (eVar 2) (aCons (eC (.int 7)) aNil))) F_lies_in) (eC (.bl false)))))) (sRet (eC (.bl false))) sNx)
    (sSeq (sSet 8 (e2 ixD (eLst (aCons (e2 addD (eC (.int 1)) (e2 modD (eVar 2) (eC (.int 4)))) (aCons (eVar 2) aNil))) (e1 intD (e2 (eqD false) (e2 modD (eCall (aCons (eVar 0) (aCons (eC (.int 5)) aNil)) F_law_cell_at) (eC (.int 4))) (eC (.int 1))))))
    (sSeq (sSet 9 (eLst aNil))
    (sSeq (sFor (iRg1 (eVar 1)) (gN 10) g_law_3)
    (fun ρ => (sSeq (sFor (iRg1 (eC (.int 2))) (gN 5) g_law_4)
    (sRet (eC (.bl true)))) (ρ.set 6 none))))))))))))))
def F_law : List D → O D := runF 12 1 .fz g_law

end VS
set_option Elab.async false
set_option linter.all false
set_option maxRecDepth 100000
set_option maxHeartbeats 2000000
namespace Pg
open PySem L2 VS
def top (i : Nat) : Stmt := PySem.Challenge.pw_basin_k01_what_lies_beside.main.body.getD i (.Pass ⟨0, 0, 0, 0⟩)
abbrev s_is_whole : Stmt := top 2
theorem sc_is_whole : FnScope ["thing"] ["thing"] (defScope s_is_whole) := ⟨rfl, rfl, rfl, by decide +kernel, rfl, by decide +kernel, by decide +kernel⟩
theorem d_is_whole {P : Program} {w : World} {K : PySem.W.Frag} {mg : Str → Option Value} {base : Heap} {c : Ct} (hK : K = c.K) (bn : Bn mg) (fx : Fact K mg "is_whole" s_is_whole ["thing"]) :
    Dc P w K mg base 1 "is_whole" (spP c .fz F_is_whole) := by
  obtain ⟨f, fd, F, hm, hb⟩ := fx.ex
  have nd := sc_is_whole.nd
  refine ⟨f, fd, _, fn_pure (M := mo [.v 1]) (M' := mo [.v 1]) F sc_is_whole hK (fun i hi => by (rcases i with _ | _) <;> first | rfl | exact absurd hi (by simp)) (fun cdv A outer s H E z => ?_), hb, hm, F.kp⟩
  exact (vss_one (vs_ret (VE.toO (ve_and (ve_isT (T := "int") z (ve_var 0) (by rfl) bn.isinstance (by rfl) bn.int (by decide +kernel) (by decide) (by decide) (by decide +kernel)) (ve_one (ve_not (ve_isT (T := "bool") z (ve_var 0) (by rfl) bn.isinstance (by rfl) bn.bool (by decide +kernel) (by decide) (by decide) (by decide +kernel))))))))

abbrev s_lies_in : Stmt := top 3
theorem sc_lies_in : FnScope ["rows", "columns", "cell"] ["rows", "columns", "cell"] (defScope s_lies_in) := ⟨rfl, rfl, rfl, by decide +kernel, rfl, by decide +kernel, by decide +kernel⟩
theorem d_lies_in {P : Program} {w : World} {K : PySem.W.Frag} {mg : Str → Option Value} {base : Heap} {c : Ct} (hK : K = c.K) (bn : Bn mg) (fx : Fact K mg "lies_in" s_lies_in ["rows", "columns", "cell"]) (d_is_whole : Dc P w K mg base 1 "is_whole" (spP c .fz F_is_whole)) :
    Dc P w K mg base 2 "lies_in" (spP c .fz F_lies_in) := by
  obtain ⟨f, fd, F, hm, hb⟩ := fx.ex
  have nd := sc_lies_in.nd
  refine ⟨f, fd, _, fn_pure (M := mo [.v 1, .v 1, .v 1]) (M' := mo [.v 1, .v 1, .v 1]) F sc_lies_in hK (fun i hi => by (rcases i with _ | (_ | (_ | _))) <;> first | rfl | exact absurd hi (by simp)) (fun cdv A outer s H E z => ?_), hb, hm, F.kp⟩
  exact (vss_cons (vs_if (VW.vt (vw_or (vt_not (vt_val (ve_isT (T := "tuple") z (ve_var 2) (by rfl) bn.isinstance (by rfl) bn.tuple (by decide +kernel) (by decide) (by decide) (by decide +kernel)))) (vw_or1 (vt_ne z (ve_len z (ve_var 2) (by rfl) bn.len) ve_int)))) (vss_one (vs_ret (VE.toO ve_bl))) vss_nil)
      (vss_cons (vs_if (VW.vt (vw_or (vt_not (vt_val (VO.toE .fz (vo_callD z d_is_whole (by decide) (va_arg (ve_ix z (ve_var 2) ve_int) va_nil))))) (vw_or1 (vt_not (vt_val (VO.toE .fz (vo_callD z d_is_whole (by decide) (va_arg (ve_ix z (ve_var 2) ve_int) va_nil)))))))) (vss_one (vs_ret (VE.toO ve_bl))) vss_nil)
      (vss_one (vs_ret (VE.toO (ve_and (ve_leLt ve_int (ve_ix z (ve_var 2) ve_int) (ve_var 0)) (ve_one (ve_leLt ve_int (ve_ix z (ve_var 2) ve_int) (ve_var 1)))))))))

abbrev s_beside : Stmt := top 4
theorem sc_beside : FnScope ["rows", "columns", "cell", "row", "column", "around", "one"] ["rows", "columns", "cell"] (defScope s_beside) := ⟨rfl, rfl, rfl, by decide +kernel, rfl, by decide +kernel, by decide +kernel⟩
theorem d_beside {P : Program} {w : World} {K : PySem.W.Frag} {mg : Str → Option Value} {base : Heap} {c : Ct} (hK : K = c.K) (bn : Bn mg) (fx : Fact K mg "beside" s_beside ["rows", "columns", "cell"]) (d_lies_in : Dc P w K mg base 2 "lies_in" (spP c .fz F_lies_in)) :
    Dc P w K mg base 3 "beside" (spP c (.l .fz) F_beside) := by
  obtain ⟨f, fd, F, hm, hb⟩ := fx.ex
  have nd := sc_beside.nd
  refine ⟨f, fd, _, fn_pure (M := mo [.v 1, .v 1, .v 1, .v 0, .v 0, .v 0, .v 0]) (M' := mo [.v 1, .v 1, .v 1, .v 0, .v 0, .v 0, .v 0]) F sc_beside hK (fun i hi => by (rcases i with _ | (_ | (_ | _))) <;> first | rfl | exact absurd hi (by simp)) (fun cdv A outer s H E z => ?_), hb, hm, F.kp⟩
  exact (vss_cons (vs_set 3 0 (ve_imm (ve_ix z (ve_var 2) ve_int)) rfl (by decide) nd)
      (vss_cons (vs_set 4 0 (ve_imm (ve_ix z (ve_var 2) ve_int)) rfl (by decide) nd)
      (vss_cons (vs_set 5 0 (VO.toE _ (vo_lst (va_cons (ve_tup (va_cons (ve_sub (ve_var 3) ve_int) (va_cons (ve_var 4) va_nil))) (va_cons (ve_tup (va_cons (ve_var 3) (va_cons (ve_sub (ve_var 4) ve_int) va_nil))) (va_cons (ve_tup (va_cons (ve_var 3) (va_cons (ve_add (ve_var 4) ve_int) va_nil))) (va_cons (ve_tup (va_cons (ve_add (ve_var 3) ve_int) (va_cons (ve_var 4) va_nil))) va_nil)))))) rfl (by decide) nd)
      (vss_one (vs_ret (vo_lc 6 z nd (vi_seq z (ve_var 5)) (blkOk_by (own := [("one", 6)]) (N := ["rows", "columns", "cell", "row", "column", "around", "one"]) (sc := defScope s_beside) (by decide +kernel)) (fun _ _ _ _ _ => pg_name (i := 6) nd rfl (Or.inl rfl)) (fun _ _ _ _ _ => (vts_one (vt_val (VO.toE .fz (vo_callD z.blk d_lies_in (by decide) (va_arg (ve_var 0) (va_arg (ve_var 1) (va_arg (ve_var 6) va_nil)))))))) (fun _ _ _ _ _ => (VE.toO (ve_var 6)))))))))

abbrev s_all_cells : Stmt := top 5
theorem sc_all_cells : FnScope ["rows", "columns", "found", "row", "column"] ["rows", "columns"] (defScope s_all_cells) := ⟨rfl, rfl, rfl, by decide +kernel, rfl, by decide +kernel, by decide +kernel⟩
theorem d_all_cells {P : Program} {w : World} {K : PySem.W.Frag} {mg : Str → Option Value} {base : Heap} {c : Ct} (hK : K = c.K) (bn : Bn mg) (fx : Fact K mg "all_cells" s_all_cells ["rows", "columns"]) :
    Dc P w K mg base 1 "all_cells" (spP c (.l .fz) F_all_cells) := by
  obtain ⟨f, fd, F, hm, hb⟩ := fx.ex
  have nd := sc_all_cells.nd
  refine ⟨f, fd, _, fn_pure (M := mo [.v 1, .v 1, .o (.l .fz), .v 0, .v 0]) (M' := mo [.v 1, .v 1, .o (.l .fz), .v 0, .v 0]) F sc_all_cells hK (fun i hi => by (rcases i with _ | (_ | _)) <;> first | rfl | exact absurd hi (by simp)) (fun cdv A outer s H E z => ?_), hb, hm, F.kp⟩
  exact (vss_cons (vs_setO 2 (vo_lst va_nil) rfl nd)
      (vss_cons (vs_for z (vi_range1 (ve_var 0) (by rfl) bn.range) (by decide) (vg_name (al := 0) 3 rfl (by decide) (by decide) nd) (vss_one (vs_for z (vi_range1 (ve_var 1) (by rfl) bn.range) (by decide) (vg_name (al := 0) 4 rfl (by decide) (by decide) nd) (vss_one (vs_app 2 (ve_tup (va_cons (ve_var 3) (va_cons (ve_var 4) va_nil))) rfl)))))
      (vss_one (vs_retV 2 rfl))))

abbrev s_law_cell_at : Stmt := top 7
theorem sc_law_cell_at : FnScope ["_law_script", "_law_k"] ["_law_script", "_law_k"] (defScope s_law_cell_at) := ⟨rfl, rfl, rfl, by decide +kernel, rfl, by decide +kernel, by decide +kernel⟩
theorem d_law_cell_at {P : Program} {w : World} {K : PySem.W.Frag} {mg : Str → Option Value} {base : Heap} {c : Ct} (hK : K = c.K) (bn : Bn mg) (fx : Fact K mg "_law_cell_at" s_law_cell_at ["_law_script", "_law_k"]) :
    Dc P w K mg base 1 "_law_cell_at" (spP c .fz F_law_cell_at) := by
  obtain ⟨f, fd, F, hm, hb⟩ := fx.ex
  have nd := sc_law_cell_at.nd
  refine ⟨f, fd, _, fn_pure (M := mo [.v 1, .v 1]) (M' := mo [.v 1, .v 1]) F sc_law_cell_at hK (fun i hi => by (rcases i with _ | (_ | _)) <;> first | rfl | exact absurd hi (by simp)) (fun cdv A outer s H E z => ?_), hb, hm, F.kp⟩
  exact (vss_cons (vs_if (vt_lt (ve_var 1) (ve_len z (ve_var 0) (by rfl) bn.len)) (vss_one (vs_ret (VE.toO (ve_imm (ve_ix z (ve_var 0) (ve_var 1)))))) vss_nil)
      (vss_one (vs_ret (VE.toO ve_int))))

abbrev s_law_whole : Stmt := top 8
theorem sc_law_whole : FnScope ["_law_found"] ["_law_found"] (defScope s_law_whole) := ⟨rfl, rfl, rfl, by decide +kernel, rfl, by decide +kernel, by decide +kernel⟩
theorem d_law_whole {P : Program} {w : World} {K : PySem.W.Frag} {mg : Str → Option Value} {base : Heap} {c : Ct} (hK : K = c.K) (bn : Bn mg) (fx : Fact K mg "_law_whole" s_law_whole ["_law_found"]) :
    Dc P w K mg base 1 "_law_whole" (spP c .fz F_law_whole) := by
  obtain ⟨f, fd, F, hm, hb⟩ := fx.ex
  have nd := sc_law_whole.nd
  refine ⟨f, fd, _, fn_pure (M := mo [.v 1]) (M' := mo [.v 1]) F sc_law_whole hK (fun i hi => by (rcases i with _ | _) <;> first | rfl | exact absurd hi (by simp)) (fun cdv A outer s H E z => ?_), hb, hm, F.kp⟩
  exact (vss_one (vs_ret (VE.toO (ve_and (ve_isT (T := "int") z (ve_var 0) (by rfl) bn.isinstance (by rfl) bn.int (by decide +kernel) (by decide) (by decide) (by decide +kernel)) (ve_one (ve_not (ve_isT (T := "bool") z (ve_var 0) (by rfl) bn.isinstance (by rfl) bn.bool (by decide +kernel) (by decide) (by decide) (by decide +kernel))))))))

abbrev s_law_same_cells : Stmt := top 9
theorem sc_law_same_cells : FnScope ["_law_found", "_law_due_here", "_law_one", "_law_cell"] ["_law_found", "_law_due_here"] (defScope s_law_same_cells) := ⟨rfl, rfl, rfl, by decide +kernel, rfl, by decide +kernel, by decide +kernel⟩
theorem d_law_same_cells {P : Program} {w : World} {K : PySem.W.Frag} {mg : Str → Option Value} {base : Heap} {c : Ct} (hK : K = c.K) (bn : Bn mg) (fx : Fact K mg "_law_same_cells" s_law_same_cells ["_law_found", "_law_due_here"]) (d_law_whole : Dc P w K mg base 1 "_law_whole" (spP c .fz F_law_whole)) :
    Dc P w K mg base 2 "_law_same_cells" (spP c .fz F_law_same_cells) := by
  obtain ⟨f, fd, F, hm, hb⟩ := fx.ex
  have nd := sc_law_same_cells.nd
  refine ⟨f, fd, _, fn_pure (M := mo [.v 1, .v 1, .v 1, .v 1]) (M' := mo [.v 1, .v 1, .v 1, .v 1]) F sc_law_same_cells hK (fun i hi => by (rcases i with _ | (_ | _)) <;> first | rfl | exact absurd hi (by simp)) (fun cdv A outer s H E z => ?_), hb, hm, F.kp⟩
  exact (vss_cons (vs_if (VW.vt (vw_or (vt_not (vt_val (ve_isT (T := "list") z (ve_var 0) (by rfl) bn.isinstance (by rfl) bn.list (by decide +kernel) (by decide) (by decide) (by decide +kernel)))) (vw_or1 (vt_ne z (ve_len z (ve_var 0) (by rfl) bn.len) (ve_len z (ve_var 1) (by rfl) bn.len))))) (vss_one (vs_ret (VE.toO ve_bl))) vss_nil)
      (vss_cons (vs_for z (vi_zip z (ve_var 0) (ve_var 1) (by rfl) bn.zip) (by decide) (vg_pair (al := 1) 2 3 z rfl rfl (by decide) (by decide) (by decide) (by decide) nd) (vss_cons (vs_if (VW.vt (vw_or (vt_not (vt_val (ve_isT (T := "tuple") z (ve_var 2) (by rfl) bn.isinstance (by rfl) bn.tuple (by decide +kernel) (by decide) (by decide) (by decide +kernel)))) (vw_or (vt_ne z (ve_len z (ve_var 2) (by rfl) bn.len) ve_int) (vw_or (vt_not (vt_val (VO.toE .fz (vo_callD z d_law_whole (by decide) (va_arg (ve_ix z (ve_var 2) ve_int) va_nil))))) (vw_or1 (vt_not (vt_val (VO.toE .fz (vo_callD z d_law_whole (by decide) (va_arg (ve_ix z (ve_var 2) ve_int) va_nil)))))))))) (vss_one (vs_ret (VE.toO ve_bl))) vss_nil)
      (vss_one (vs_if (VW.vt (vw_or (vt_ne z (ve_ix z (ve_var 2) ve_int) (ve_ix z (ve_var 3) ve_int)) (vw_or1 (vt_ne z (ve_ix z (ve_var 2) ve_int) (ve_ix z (ve_var 3) ve_int))))) (vss_one (vs_ret (VE.toO ve_bl))) vss_nil))))
      (vss_one (vs_ret (VE.toO ve_bl)))))

abbrev s_law_thing : Stmt := top 10
theorem sc_law_thing : FnScope ["_law_cell", "_law_rows", "_law_columns", "_law_row", "_law_column", "_law_some"] ["_law_cell", "_law_rows", "_law_columns"] (defScope s_law_thing) := ⟨rfl, rfl, rfl, by decide +kernel, rfl, by decide +kernel, by decide +kernel⟩
theorem d_law_thing {P : Program} {w : World} {K : PySem.W.Frag} {mg : Str → Option Value} {base : Heap} {c : Ct} (hK : K = c.K) (bn : Bn mg) (fx : Fact K mg "_law_thing" s_law_thing ["_law_cell", "_law_rows", "_law_columns"]) :
    Dc P w K mg base 1 "_law_thing" (spP c .fz F_law_thing) := by
  obtain ⟨f, fd, F, hm, hb⟩ := fx.ex
  have nd := sc_law_thing.nd
  refine ⟨f, fd, _, fn_pure (M := mo [.v 1, .v 1, .v 1, .v 0, .v 0, .o (.l .fz)]) (M' := mo [.v 1, .v 1, .v 1, .v 0, .v 0, .o (.l .fz)]) F sc_law_thing hK (fun i hi => by (rcases i with _ | (_ | (_ | _))) <;> first | rfl | exact absurd hi (by simp)) (fun cdv A outer s H E z => ?_), hb, hm, F.kp⟩
  exact (vss_cons (vs_set 3 0 (ve_sub (ve_mod (ve_div (ve_var 0) ve_int) (ve_add (ve_var 1) ve_int)) ve_int) rfl (by decide) nd)
      (vss_cons (vs_set 4 0 (ve_sub (ve_mod (ve_div (ve_var 0) ve_int) (ve_add (ve_var 2) ve_int)) ve_int) rfl (by decide) nd)
      (vss_cons (vs_if (vt_lt (ve_mod (ve_var 0) ve_int) ve_int) (vss_one (vs_ret (VE.toO (ve_tup (va_cons (ve_var 3) (va_cons (ve_var 4) va_nil)))))) vss_nil)
      (vss_cons (vs_setO 5 (vo_lst (va_cons (VO.toE _ (vo_lst (va_cons (ve_var 3) (va_cons (ve_var 4) va_nil)))) (va_cons (ve_tup (va_cons (ve_var 3) (va_cons (ve_var 4) (va_cons ve_int va_nil)))) (va_cons (ve_tup (va_cons ve_bl (va_cons ve_bl va_nil))) (va_cons (ve_tup (va_cons (ve_var 3) va_nil)) (va_cons ve_str (va_cons (ve_tup (va_cons ve_str (va_cons (ve_var 4) va_nil))) (va_cons (ve_tup (va_cons (ve_var 3) (va_cons ve_non va_nil))) va_nil)))))))) rfl nd)
      (vss_cons (vs_app 5 (ve_tup (va_cons (ve_tup (va_cons (ve_var 3) (va_cons (ve_var 4) va_nil))) (va_cons ve_int va_nil))) rfl)
      (vss_freeze 5 rfl
      (vss_one (vs_ret (VE.toO (ve_ix z (ve_var 5) (ve_sub (ve_mod (ve_var 0) ve_int) ve_int)))))))))))

abbrev s_law_is_cell : Stmt := top 11
theorem sc_law_is_cell : FnScope ["_law_thing_here", "_law_rows", "_law_columns"] ["_law_thing_here", "_law_rows", "_law_columns"] (defScope s_law_is_cell) := ⟨rfl, rfl, rfl, by decide +kernel, rfl, by decide +kernel, by decide +kernel⟩
theorem d_law_is_cell {P : Program} {w : World} {K : PySem.W.Frag} {mg : Str → Option Value} {base : Heap} {c : Ct} (hK : K = c.K) (bn : Bn mg) (fx : Fact K mg "_law_is_cell" s_law_is_cell ["_law_thing_here", "_law_rows", "_law_columns"]) (d_law_whole : Dc P w K mg base 1 "_law_whole" (spP c .fz F_law_whole)) :
    Dc P w K mg base 2 "_law_is_cell" (spP c .fz F_law_is_cell) := by
  obtain ⟨f, fd, F, hm, hb⟩ := fx.ex
  have nd := sc_law_is_cell.nd
  refine ⟨f, fd, _, fn_pure (M := mo [.v 1, .v 1, .v 1]) (M' := mo [.v 1, .v 1, .v 1]) F sc_law_is_cell hK (fun i hi => by (rcases i with _ | (_ | (_ | _))) <;> first | rfl | exact absurd hi (by simp)) (fun cdv A outer s H E z => ?_), hb, hm, F.kp⟩
  exact (vss_cons (vs_if (VW.vt (vw_or (vt_not (vt_val (ve_isT (T := "tuple") z (ve_var 0) (by rfl) bn.isinstance (by rfl) bn.tuple (by decide +kernel) (by decide) (by decide) (by decide +kernel)))) (vw_or (vt_ne z (ve_len z (ve_var 0) (by rfl) bn.len) ve_int) (vw_or (vt_not (vt_val (VO.toE .fz (vo_callD z d_law_whole (by decide) (va_arg (ve_ix z (ve_var 0) ve_int) va_nil))))) (vw_or1 (vt_not (vt_val (VO.toE .fz (vo_callD z d_law_whole (by decide) (va_arg (ve_ix z (ve_var 0) ve_int) va_nil)))))))))) (vss_one (vs_ret (VE.toO ve_bl))) vss_nil)
      (vss_one (vs_ret (VE.toO (ve_and (ve_leLt ve_int (ve_ix z (ve_var 0) ve_int) (ve_var 1)) (ve_one (ve_leLt ve_int (ve_ix z (ve_var 0) ve_int) (ve_var 2))))))))

abbrev s_law_due : Stmt := top 12
theorem sc_law_due : FnScope ["_law_rows", "_law_columns", "_law_row", "_law_column", "_law_due_here"] ["_law_rows", "_law_columns", "_law_row", "_law_column"] (defScope s_law_due) := ⟨rfl, rfl, rfl, by decide +kernel, rfl, by decide +kernel, by decide +kernel⟩
theorem d_law_due {P : Program} {w : World} {K : PySem.W.Frag} {mg : Str → Option Value} {base : Heap} {c : Ct} (hK : K = c.K) (bn : Bn mg) (fx : Fact K mg "_law_due" s_law_due ["_law_rows", "_law_columns", "_law_row", "_law_column"]) :
    Dc P w K mg base 1 "_law_due" (spP c (.l .fz) F_law_due) := by
  obtain ⟨f, fd, F, hm, hb⟩ := fx.ex
  have nd := sc_law_due.nd
  refine ⟨f, fd, _, fn_pure (M := mo [.v 1, .v 1, .v 1, .v 1, .o (.l .fz)]) (M' := mo [.v 1, .v 1, .v 1, .v 1, .o (.l .fz)]) F sc_law_due hK (fun i hi => by (rcases i with _ | (_ | (_ | (_ | _)))) <;> first | rfl | exact absurd hi (by simp)) (fun cdv A outer s H E z => ?_), hb, hm, F.kp⟩
  exact (vss_cons (vs_setO 4 (vo_lst va_nil) rfl nd)
      (vss_cons (vs_if (vt_gt (ve_var 2) ve_int) (vss_one (vs_app 4 (ve_tup (va_cons (ve_sub (ve_var 2) ve_int) (va_cons (ve_imm (ve_var 3)) va_nil))) rfl)) vss_nil)
      (vss_cons (vs_if (vt_gt (ve_var 3) ve_int) (vss_one (vs_app 4 (ve_tup (va_cons (ve_imm (ve_var 2)) (va_cons (ve_sub (ve_var 3) ve_int) va_nil))) rfl)) vss_nil)
      (vss_cons (vs_if (vt_lt (ve_var 3) (ve_sub (ve_var 1) ve_int)) (vss_one (vs_app 4 (ve_tup (va_cons (ve_imm (ve_var 2)) (va_cons (ve_add (ve_var 3) ve_int) va_nil))) rfl)) vss_nil)
      (vss_cons (vs_if (vt_lt (ve_var 2) (ve_sub (ve_var 0) ve_int)) (vss_one (vs_app 4 (ve_tup (va_cons (ve_add (ve_var 2) ve_int) (va_cons (ve_imm (ve_var 3)) va_nil))) rfl)) vss_nil)
      (vss_one (vs_retV 4 rfl)))))))

abbrev s_law : Stmt := top 13
theorem sc_law : FnScope ["_law_script", "_law_rows", "_law_columns", "_law_row", "_law_column", "_law_turn", "_law_found", "_law_thing_here", "_law_few", "_law_due_here", "_law_one", "_law_other"] ["_law_script"] (defScope s_law) := ⟨rfl, rfl, rfl, by decide +kernel, rfl, by decide +kernel, by decide +kernel⟩
theorem d_law {P : Program} {w : World} {K : PySem.W.Frag} {mg : Str → Option Value} {base : Heap} {c : Ct} {fa : Addr} {fd : FuncData} (hK : K = c.K) (bn : Bn mg) (F : Fun K "law" "law" s_law fa fd) (d_law_cell_at : Dc P w K mg base 1 "_law_cell_at" (spP c .fz F_law_cell_at)) (d_beside : Dc P w K mg base 3 "beside" (spP c (.l .fz) F_beside)) (d_law_same_cells : Dc P w K mg base 2 "_law_same_cells" (spP c .fz F_law_same_cells)) (d_law_due : Dc P w K mg base 1 "_law_due" (spP c (.l .fz) F_law_due)) (d_law_thing : Dc P w K mg base 1 "_law_thing" (spP c .fz F_law_thing)) (d_lies_in : Dc P w K mg base 2 "lies_in" (spP c .fz F_lies_in)) (d_law_is_cell : Dc P w K mg base 2 "_law_is_cell" (spP c .fz F_law_is_cell)) (d_all_cells : Dc P w K mg base 1 "all_cells" (spP c (.l .fz) F_all_cells)) {t_MOST_SIDE : Tok} (c_MOST_SIDE : mg "MOST_SIDE" = some (.int 30 t_MOST_SIDE)) :
    FnOk P w K mg base (L2.CX P w) 4 fa fd ["_law_script"] (spP c .fz F_law) := by
  have nd := sc_law.nd
  refine fn_pure (M := mo [.v 1, .v 0, .v 0, .v 0, .v 0, .v 0, .o (.l .fz), .v 0, .v 0, .o (.l .fz), .v 0, .v 0]) (M' := mo [.v 1, .v 0, .v 0, .v 0, .v 0, .v 0, .o (.l .fz), .v 0, .v 0, .o (.l .fz), .v 0, .v 0]) F sc_law hK (fun i hi => by (rcases i with _ | _) <;> first | rfl | exact absurd hi (by simp)) (fun cdv A outer s H E z => ?_)
  exact (vss_cons (vs_set 1 0 (ve_add ve_int (ve_mod (VO.toE .fz (vo_callD z d_law_cell_at (by decide) (va_arg (ve_var 0) (va_arg ve_int va_nil)))) ve_int)) rfl (by decide) nd)
      (vss_cons (vs_set 2 0 (ve_add ve_int (ve_mod (VO.toE .fz (vo_callD z d_law_cell_at (by decide) (va_arg (ve_var 0) (va_arg ve_int va_nil)))) ve_int)) rfl (by decide) nd)
      (vss_cons (vs_set 3 0 (ve_ix z (VO.toE _ (vo_lst (va_cons ve_int (va_cons (ve_sub (ve_var 1) ve_int) (va_cons (ve_mod (ve_div (VO.toE .fz (vo_callD z d_law_cell_at (by decide) (va_arg (ve_var 0) (va_arg ve_int va_nil)))) ve_int) (ve_var 1)) va_nil))))) (ve_mod (VO.toE .fz (vo_callD z d_law_cell_at (by decide) (va_arg (ve_var 0) (va_arg ve_int va_nil)))) ve_int)) rfl (by decide) nd)
      (vss_cons (vs_set 4 0 (ve_ix z (VO.toE _ (vo_lst (va_cons ve_int (va_cons (ve_sub (ve_var 2) ve_int) (va_cons (ve_mod (ve_div (VO.toE .fz (vo_callD z d_law_cell_at (by decide) (va_arg (ve_var 0) (va_arg ve_int va_nil)))) ve_int) (ve_var 2)) va_nil))))) (ve_mod (VO.toE .fz (vo_callD z d_law_cell_at (by decide) (va_arg (ve_var 0) (va_arg ve_int va_nil)))) ve_int)) rfl (by decide) nd)
      (vss_cons (vs_for z (vi_range1 ve_int (by rfl) bn.range) (by decide) (vg_name (al := 0) 5 rfl (by decide) (by decide) nd) (vss_cons (vs_setO 6 (vo_callD z d_beside (by decide) (va_arg (ve_var 1) (va_arg (ve_var 2) (va_arg (ve_tup (va_cons (ve_var 3) (va_cons (ve_var 4) va_nil))) va_nil)))) rfl nd)
      (vss_cons (vs_if (vt_not (vt_val (VO.toE .fz (vo_callD z d_law_same_cells (by decide) (va_arg (ve_var 6) (va_arg (VO.toE _ (vo_callD z d_law_due (by decide) (va_arg (ve_var 1) (va_arg (ve_var 2) (va_arg (ve_var 3) (va_arg (ve_var 4) va_nil)))))) va_nil)))))) (vss_one (vs_ret (VE.toO ve_bl))) vss_nil)
      (vss_one (vs_app 6 (ve_tup (va_cons ve_int (va_cons ve_int va_nil))) rfl)))))
      (vss_cons (vs_set 7 0 (VO.toE .fz (vo_callD z d_law_thing (by decide) (va_arg (VO.toE .fz (vo_callD z d_law_cell_at (by decide) (va_arg (ve_var 0) (va_arg ve_int va_nil)))) (va_arg (ve_var 1) (va_arg (ve_var 2) va_nil))))) rfl (by decide) nd)
      (vss_cons (vs_setM 6 0 (VO.toE .fz (vo_callD z d_lies_in (by decide) (va_arg (ve_var 1) (va_arg (ve_var 2) (va_arg (ve_var 7) va_nil))))) (fun s h => nomatch h) (by decide) nd)
      (vss_cons (vs_if (VW.vt (vw_or (vt_not (vt_val (ve_isT (T := "bool") z (ve_var 6) (by rfl) bn.isinstance (by rfl) bn.bool (by decide +kernel) (by decide) (by decide) (by decide +kernel)))) (vw_or1 (vt_ne z (ve_var 6) (VO.toE .fz (vo_callD z d_law_is_cell (by decide) (va_arg (ve_var 7) (va_arg (ve_var 1) (va_arg (ve_var 2) va_nil))))))))) (vss_one (vs_ret (VE.toO ve_bl))) vss_nil)
      (vss_cons (vs_if (VW.vt (vw_or (vt_ne z (ve_glob (by rfl) c_MOST_SIDE) ve_int) (vw_or (vt_isnt (VO.toE .fz (vo_callD z d_lies_in (by decide) (va_arg (ve_var 1) (va_arg (ve_var 2) (va_arg ve_non va_nil))))) ve_bl) (vw_or1 (vt_isnt (VO.toE .fz (vo_callD z d_lies_in (by decide) (va_arg (ve_var 1) (va_arg (ve_var 2) (va_arg ve_int va_nil))))) ve_bl))))) (vss_one (vs_ret (VE.toO ve_bl))) vss_nil)
      (vss_cons (vs_set 8 0 (ve_ix z (VO.toE _ (vo_lst (va_cons (ve_add ve_int (ve_mod (ve_var 2) ve_int)) (va_cons (ve_var 2) va_nil)))) (ve_intc (ve_eq z (ve_mod (VO.toE .fz (vo_callD z d_law_cell_at (by decide) (va_arg (ve_var 0) (va_arg ve_int va_nil)))) ve_int) ve_int) (by rfl) bn.int)) rfl (by decide) nd)
      (vss_cons (vs_setO 9 (vo_lst va_nil) rfl nd)
      (vss_cons (vs_for z (vi_range1 (ve_var 1) (by rfl) bn.range) (by decide) (vg_name (al := 0) 10 rfl (by decide) (by decide) nd) (vss_one (vs_for z (vi_range1 (ve_var 8) (by rfl) bn.range) (by decide) (vg_name (al := 0) 11 rfl (by decide) (by decide) nd) (vss_one (vs_app 9 (ve_tup (va_cons (ve_var 10) (va_cons (ve_var 11) va_nil))) rfl)))))
      (vss_kill 6 (.o (.l .fz)) (fun s h => nomatch h)
      (vss_cons (vs_for z (vi_range1 ve_int (by rfl) bn.range) (by decide) (vg_name (al := 0) 5 rfl (by decide) (by decide) nd) (vss_cons (vs_setO 6 (vo_callD z d_all_cells (by decide) (va_arg (ve_var 1) (va_arg (ve_var 8) va_nil))) rfl nd)
      (vss_cons (vs_if (vt_not (vt_val (VO.toE .fz (vo_callD z d_law_same_cells (by decide) (va_arg (ve_var 6) (va_arg (ve_var 9) va_nil)))))) (vss_one (vs_ret (VE.toO ve_bl))) vss_nil)
      (vss_one (vs_clear 6 rfl)))))
      (vss_one (vs_ret (VE.toO ve_bl)))))))))))))))))

end Pg
set_option linter.all false
set_option maxRecDepth 100000
namespace VS
open PySem L2

abbrev Cell := Int × Int
def cellD (p : Cell) : D := .tup [.int p.1, .int p.2]
def inb (R C : Int) (p : Cell) : Bool := decide (0 ≤ p.1) && decide (p.1 < R) && (decide (0 ≤ p.2) && decide (p.2 < C))
def around (p : Cell) : List Cell := [(p.1 - 1, p.2), (p.1, p.2 - 1), (p.1, p.2 + 1), (p.1 + 1, p.2)]
def besideL (R C : Int) (p : Cell) : List Cell := (around p).filter (inb R C)
def rowc (n : Nat) (r : Nat) : List Cell := (List.range n).map fun (c : Nat) => ((r : Int), (c : Int))
def blkc (n : Nat) (p : List Nat) : List Cell := (p.map (rowc n)).flatten
@[simp] theorem blkc_nil (n : Nat) : blkc n [] = [] := rfl
@[simp] theorem blkc_snoc (n : Nat) (p : List Nat) (b : Nat) : blkc n (p ++ [b]) = blkc n p ++ rowc n b := by simp [blkc]
def cellsL (R C : Int) : List Cell := blkc C.toNat (List.range R.toNat)

@[simp] theorem whole_int (i : Int) : F_is_whole [.int i] = .ok (.bl true) := rfl
@[simp] theorem whole_bl (i : Bool) : F_is_whole [.bl i] = .ok (.bl false) := rfl
@[simp] theorem whole_str (i : Str) : F_is_whole [.str i] = .ok (.bl false) := rfl
@[simp] theorem whole_non : F_is_whole [.non] = .ok (.bl false) := rfl
@[simp] theorem whole_tup (l) : F_is_whole [.tup l] = .ok (.bl false) := rfl
@[simp] theorem whole_lst (l) : F_is_whole [.lst l] = .ok (.bl false) := rfl

theorem lies_pair (R C i j : Int) : F_lies_in [.int R, .int C, .tup [.int i, .int j]] = .ok (.bl (inb R C (i, j))) := by
  simp [F_lies_in, runF, g_lies_in, startD, isTy, inb]
  by_cases h1 : 0 ≤ i <;> by_cases h2 : i < R <;> by_cases h3 : 0 ≤ j <;> by_cases h4 : j < C <;> simp [h1, h2, h3, h4]
theorem lies_cell (R C : Int) (p : Cell) : F_lies_in [.int R, .int C, cellD p] = .ok (.bl (inb R C p)) := lies_pair R C p.1 p.2
theorem beside_eq (R C : Int) (p : Cell) : F_beside [.int R, .int C, cellD p] = .ok (.lst ((besideL R C p).map cellD)) := by
  simp [F_beside, runF, g_beside, startD, cellD]
  rw [show [D.tup [D.int (p.fst - 1), D.int p.snd], D.tup [D.int p.fst, D.int (p.snd - 1)], D.tup [D.int p.fst, D.int (p.snd + 1)], D.tup [D.int (p.fst + 1), D.int p.snd]] = (around p).map cellD from rfl, cGo_map cellD (inb R C) cellD]
  · rfl
  · intro b hb
    simp [g_beside_1, lies_cell]
  · intro b hb h
    simp [g_beside_2]
theorem pre_len {β : Type} {l p q : List β} {b : β} (h : l = p ++ b :: q) : p.length < l.length := by rw [h]; simp
theorem cells_inner (R C : D) (r n : Nat) (acc : List Cell) (x : Option D) (h : acc.length + n < 100000) :
    sFor.go (gN 4) g_all_cells_1 ((List.range n).map fun (i : Nat) => D.int (i : Int)) [some R, some C, some (.lst (acc.map cellD)), some (.int (r : Int)), x] =
    .ok (.nx [some R, some C, some (.lst ((acc ++ rowc n r).map cellD)), some (.int (r : Int)), lastD (fun (i : Nat) => D.int (i : Int)) x (List.range n)]) := by
  have := for_all (s := gN 4) (g := g_all_cells_1) (fun (i : Nat) => D.int (i : Int)) (fun p => [some R, some C, some (.lst ((acc ++ p.map fun (c : Nat) => ((r : Int), (c : Int))).map cellD)), some (.int (r : Int)), lastD (fun (i : Nat) => D.int (i : Int)) x p]) (List.range n) (fun p b q e => by
    have hl := pre_len e
    rw [List.length_range] at hl
    have hz : decide (acc.length + p.length < 100000) = true := decide_eq_true (by omega)
    simp [g_all_cells_1, hz, cellD])
  simpa [rowc] using this
theorem blkc_len {n : Nat} (p : List Nat) : (blkc n p).length = p.length * n := by
  induction p with
  | nil => simp
  | cons a p ih =>
    have : blkc n (a :: p) = rowc n a ++ blkc n p := by simp [blkc]
    rw [this, List.length_append, ih]; simp [Nat.succ_mul, Nat.add_comm, rowc]
theorem all_cells_eq (R C : Int) (hR : R ≤ 100) (hC : C ≤ 100) (hR0 : 0 ≤ R) (hC0 : 0 ≤ C) : F_all_cells [.int R, .int C] = .ok (.lst ((cellsL R C).map cellD)) := by
  have b1 : (decide (-4611686018427387904 ≤ R) && decide (R < 4611686018427387904)) = true := by simp; omega
  have b2 : (decide (-4611686018427387904 ≤ C) && decide (C < 4611686018427387904)) = true := by simp; omega
  simp [F_all_cells, runF, g_all_cells, startD]
  rw [b1]
  simp [rngD_map]
  have h := for_all (s := gN 3) (g := g_all_cells_2) (fun (i : Nat) => D.int (i : Int))
    (fun p => [some (.int R), some (.int C), some (.lst ((blkc C.toNat p).map cellD)), lastD (fun (i : Nat) => D.int (i : Int)) none p, p.foldl (fun x _ => lastD (fun (i : Nat) => D.int (i : Int)) x (List.range C.toNat)) none]) (List.range R.toNat) (fun p b q e => by
    have hl := pre_len e
    rw [List.length_range] at hl
    simp [g_all_cells_2, rngD_map]
    rw [b2]
    simp only [gd_true, O.bind_ok]
    rw [cells_inner]
    · simp
    · rw [blkc_len]
      have : p.length * C.toNat ≤ 100 * 100 := Nat.mul_le_mul (by omega) (by omega)
      omega)
  simp only [List.map_nil, blkc_nil, lastD_nil, List.foldl_nil] at h
  rw [h]
  simp [cellsL]

theorem pairs_map {β : Type} (e f : β → D) (l : List β) : pairsD (l.map e) (l.map f) = l.map fun b => .tup [e b, f b] := by
  induction l with
  | nil => rfl
  | cons b l ih => simp only [List.map_cons, pairsD, List.zipWith_cons_cons] at ih ⊢; rw [ih]
@[simp] theorem lwhole_int (i : Int) : F_law_whole [.int i] = .ok (.bl true) := rfl
theorem same_cells_eq (l : List Cell) : F_law_same_cells [.lst (l.map cellD), .lst (l.map cellD)] = .ok (.bl true) := by
  simp [F_law_same_cells, runF, g_law_same_cells, startD, isTy, pairs_map]
  have h := for_all (s := gP 2 3) (g := g_law_same_cells_1) (fun b => D.tup [cellD b, cellD b])
    (fun p => [some (.lst (l.map cellD)), some (.lst (l.map cellD)), lastD cellD none p, lastD cellD none p]) l (fun p b q e => by
      simp [g_law_same_cells_1, cellD, isTy])
  simp only [lastD_nil] at h
  rw [h]
  simp
def flatD : D → Bool
  | .land _ => false
  | .pile _ => false
  | _ => true
def thingD : D → Bool
  | .land _ => false
  | .pile _ => false
  | .tup [x, y] => flatD x && flatD y
  | _ => true
def intOf : D → Option Int
  | .int i => some i
  | _ => none
def cellOf : D → Option Cell
  | .tup [x, y] => match intOf x, intOf y with
    | some i, some j => some (i, j)
    | _, _ => none
  | _ => none
def isCell (R C : Int) (d : D) : Bool := match cellOf d with
  | some p => inb R C p
  | none => false
theorem intOf_eq {x : D} {i : Int} (h : intOf x = some i) : x = .int i := by
  cases x <;> simp [intOf] at h
  rw [h]
theorem whole_any {x : D} (h : flatD x = true) : F_is_whole [x] = .ok (.bl (intOf x).isSome) := by
  cases x <;> first | rfl | cases h
theorem lwhole_any {x : D} (h : flatD x = true) : F_law_whole [x] = .ok (.bl (intOf x).isSome) := whole_any h
theorem tup3 (x y z : D) (l : List D) : decide ((((l.length : Int) + 1 + 1 + 1)) = 2) = false := by simp; omega
theorem lies_any (R C : Int) {d : D} (h : thingD d = true) : F_lies_in [.int R, .int C, d] = .ok (.bl (isCell R C d)) := by
  cases d with
  | tup l =>
    rcases l with _ | ⟨x, _ | ⟨y, _ | ⟨z, l⟩⟩⟩
    · simp [F_lies_in, runF, g_lies_in, startD, isTy, isCell, cellOf]
    · simp [F_lies_in, runF, g_lies_in, startD, isTy, isCell, cellOf]
    · simp [thingD] at h
      cases hx : intOf x with
      | none => simp [F_lies_in, runF, g_lies_in, startD, isTy, whole_any h.1, whole_any h.2, hx, isCell, cellOf]
      | some i => cases hy : intOf y with
        | none => simp [F_lies_in, runF, g_lies_in, startD, isTy, whole_any h.1, whole_any h.2, hx, hy, isCell, cellOf]
        | some j =>
          cases intOf_eq hx; cases intOf_eq hy
          exact lies_pair R C i j
    · simp [F_lies_in, runF, g_lies_in, startD, isTy, tup3 x y z l, isCell, cellOf]
  | land l => cases h
  | pile l => cases h
  | _ => simp [F_lies_in, runF, g_lies_in, startD, isTy, isCell, cellOf]
theorem is_cell_eq (R C : Int) {d : D} (h : thingD d = true) : F_law_is_cell [d, .int R, .int C] = .ok (.bl (isCell R C d)) := by
  cases d with
  | tup l =>
    rcases l with _ | ⟨x, _ | ⟨y, _ | ⟨z, l⟩⟩⟩
    · simp [F_law_is_cell, runF, g_law_is_cell, startD, isTy, isCell, cellOf]
    · simp [F_law_is_cell, runF, g_law_is_cell, startD, isTy, isCell, cellOf]
    · simp [thingD] at h
      cases hx : intOf x with
      | none => simp [F_law_is_cell, runF, g_law_is_cell, startD, isTy, lwhole_any h.1, lwhole_any h.2, hx, isCell, cellOf]
      | some i => cases hy : intOf y with
        | none => simp [F_law_is_cell, runF, g_law_is_cell, startD, isTy, lwhole_any h.1, lwhole_any h.2, hx, hy, isCell, cellOf]
        | some j =>
          cases intOf_eq hx; cases intOf_eq hy
          simp [F_law_is_cell, runF, g_law_is_cell, startD, isTy, isCell, cellOf, intOf, inb]
          by_cases h1 : 0 ≤ i <;> by_cases h2 : i < R <;> by_cases h3 : 0 ≤ j <;> by_cases h4 : j < C <;> simp [h1, h2, h3, h4]
    · simp [F_law_is_cell, runF, g_law_is_cell, startD, isTy, tup3 x y z l, isCell, cellOf]
  | land l => cases h
  | pile l => cases h
  | _ => simp [F_law_is_cell, runF, g_law_is_cell, startD, isTy, isCell, cellOf]
theorem cell_at_eq (ns : List Int) (k : Nat) : F_law_cell_at [.lst (ns.map .int), .int (k : Int)] = .ok (.int (ns.getD k 0)) := by
  by_cases h : k < ns.length
  · simp [F_law_cell_at, runF, g_law_cell_at, startD, h, List.getD]
  · simp [F_law_cell_at, runF, g_law_cell_at, startD, h, List.getD]
theorem thing_eq (x R C : Int) (hR : 0 < R) (hC : 0 < C) : ∃ d, F_law_thing [.int x, .int R, .int C] = .ok d ∧ thingD d = true := by
  have hx : 0 ≤ x % 12 := Int.emod_nonneg _ (by decide)
  have hy : x % 12 < 12 := Int.emod_lt_of_pos _ (by decide)
  have h1 : decide (0 < R + 2) = true := decide_eq_true (by omega)
  have h2 : decide (0 < C + 2) = true := decide_eq_true (by omega)
  generalize hA : x / 9 % (R + 2) - 1 = A
  generalize hB : x / 300 % (C + 2) - 1 = B
  have e4 : ∀ m : Nat, ((m + 4 : Nat) : Int) - 4 = (m : Int) := by intro m; omega
  have ix : ∀ m : Nat, m < 8 → ∃ d, ixD (.lst [.lst [.int A, .int B], .tup [.int A, .int B, .int 0], .tup [.bl true, .bl false], .tup [.int A], .str "ab", .tup [.str "0", .int B], .tup [.int A, .non], .tup [.tup [.int A, .int B], .int 0]]) (.int (m : Int)) = .ok d ∧ thingD d = true := by
    intro m hm
    rw [ix_lst_nat]
    rcases m with _ | _ | _ | _ | _ | _ | _ | _ | m
    all_goals first | omega | exact ⟨_, rfl, rfl⟩
  by_cases h4 : x % 12 < 4
  · refine ⟨.tup [.int A, .int B], runF_rt rfl (by decide) (ρ := [some (.int x), some (.int R), some (.int C), some (.int A), some (.int B), none]) ?_, rfl⟩
    simp [g_law_thing, startD, h1, h2, h4, hA, hB]
  · obtain ⟨m, hm⟩ := Int.eq_ofNat_of_zero_le (a := x % 12 - 4) (by omega)
    obtain ⟨d, hd, ht⟩ := ix m (by omega)
    refine ⟨d, ?_, ht⟩
    simp [F_law_thing, runF, g_law_thing, startD, h1, h2, h4, hA, hB, hm, -ix_lst_nat]
    rw [hd]
    rfl
theorem law_due_eq (R C r c : Int) (hr : 0 ≤ r) (hr2 : r < R) (hc : 0 ≤ c) (hc2 : c < C) : F_law_due [.int R, .int C, .int r, .int c] = .ok (.lst ((besideL R C (r, c)).map cellD)) := by
  have e1 : inb R C (r - 1, c) = decide (0 < r) := by
    by_cases h : 0 < r <;> simp [inb, h] <;> omega
  have e2 : inb R C (r, c - 1) = decide (0 < c) := by
    by_cases h : 0 < c <;> simp [inb, h] <;> omega
  have e3 : inb R C (r, c + 1) = decide (c < C - 1) := by
    by_cases h : c < C - 1 <;> simp [inb, h] <;> omega
  have e4 : inb R C (r + 1, c) = decide (r < R - 1) := by
    by_cases h : r < R - 1 <;> simp [inb, h] <;> omega
  simp [F_law_due, runF, g_law_due, startD, besideL, around, List.filter_cons, e1, e2, e3, e4]
  by_cases h1 : 0 < r <;> by_cases h2 : 0 < c <;> by_cases h3 : c < C - 1 <;> by_cases h4 : r < R - 1 <;>
    simp [h1, h2, h3, h4, cellD]
theorem third_eq (a b c : D) (x : Int) : ∃ d, ixD (.lst [a, b, c]) (.int (x % 3)) = .ok d ∧ (d = a ∨ d = b ∨ d = c) := by
  have hx : 0 ≤ x % 3 := Int.emod_nonneg _ (by decide)
  have hy : x % 3 < 3 := Int.emod_lt_of_pos _ (by decide)
  obtain ⟨m, hm⟩ := Int.eq_ofNat_of_zero_le hx
  rw [hm, ix_lst_nat]
  rcases m with _ | _ | _ | m
  · exact ⟨_, rfl, .inl rfl⟩
  · exact ⟨_, rfl, .inr (.inl rfl)⟩
  · exact ⟨_, rfl, .inr (.inr rfl)⟩
  · omega
theorem pick_eq (R x : Int) (hR : 0 < R) : ∃ r : Int, ixD (.lst [.int 0, .int (R - 1), .int (x / 3 % R)]) (.int (x % 3)) = .ok (.int r) ∧ 0 ≤ r ∧ r < R := by
  obtain ⟨d, hd, hc⟩ := third_eq (.int 0) (.int (R - 1)) (.int (x / 3 % R)) x
  rcases hc with rfl | rfl | rfl
  · exact ⟨0, hd, by omega, by omega⟩
  · exact ⟨R - 1, hd, by omega, by omega⟩
  · exact ⟨x / 3 % R, hd, Int.emod_nonneg _ (by omega), Int.emod_lt_of_pos _ hR⟩
theorem turn1 (S : D) (R C r c : Int) (x5 x6 : Option D) (hr : 0 ≤ r) (hr2 : r < R) (hc : 0 ≤ c) (hc2 : c < C) :
    g_law_1 [some S, some (.int R), some (.int C), some (.int r), some (.int c), x5, x6, none, none, none, none, none] = .ok (.nx [some S, some (.int R), some (.int C), some (.int r), some (.int c), x5, some (.lst ((besideL R C (r, c)).map cellD ++ [cellD (0, 0)])), none, none, none, none, none]) := by
  have hb : F_beside [.int R, .int C, .tup [.int r, .int c]] = _ := beside_eq R C (r, c)
  have hd := law_due_eq R C r c hr hr2 hc hc2
  have hl : (besideL R C (r, c)).length ≤ 4 := List.length_filter_le ..
  have hl2 : decide ((besideL R C (r, c)).length < 100000) = true := decide_eq_true (by omega)
  unfold g_law_1
  refine seq_to (ρ1 := [some S, some (.int R), some (.int C), some (.int r), some (.int c), x5, some (.lst ((besideL R C (r, c)).map cellD)), none, none, none, none, none]) (by simp [hb]) ?_
  refine seq_to (ρ1 := [some S, some (.int R), some (.int C), some (.int r), some (.int c), x5, some (.lst ((besideL R C (r, c)).map cellD)), none, none, none, none, none]) (by simp [hd, same_cells_eq]) ?_
  simp [hl2, cellD]
theorem turn4 (S : D) (R C F r c : Int) (x5 x6 x7 : Option D) (y z : Option D) (hR : 0 ≤ R) (hR2 : R ≤ 100) (hF : 0 ≤ F) (hF2 : F ≤ 100) :
    g_law_4 [some S, some (.int R), some (.int C), some (.int r), some (.int c), x5, x6, x7, some (.int F), some (.lst ((cellsL R F).map cellD)), y, z] = .ok (.nx [some S, some (.int R), some (.int C), some (.int r), some (.int c), x5, some (.lst []), x7, some (.int F), some (.lst ((cellsL R F).map cellD)), y, z]) := by
  have hb := all_cells_eq R F hR2 hF2 hR hF
  unfold g_law_4
  refine seq_to (ρ1 := [some S, some (.int R), some (.int C), some (.int r), some (.int c), x5, some (.lst ((cellsL R F).map cellD)), x7, some (.int F), some (.lst ((cellsL R F).map cellD)), y, z]) (by simp [hb]) ?_
  refine seq_to (ρ1 := [some S, some (.int R), some (.int C), some (.int r), some (.int c), x5, some (.lst ((cellsL R F).map cellD)), x7, some (.int F), some (.lst ((cellsL R F).map cellD)), y, z]) (by simp [same_cells_eq]) ?_
  simp
theorem in3 (S : D) (R C F rr c : Int) (x5 x6 x7 : Option D) (r n : Nat) (acc : List Cell) (x : Option D) (h : acc.length + n < 100000) :
    sFor.go (gN 11) g_law_2 ((List.range n).map fun (i : Nat) => D.int (i : Int)) [some S, some (.int R), some (.int C), some (.int rr), some (.int c), x5, x6, x7, some (.int F), some (.lst (acc.map cellD)), some (.int (r : Int)), x] =
    .ok (.nx [some S, some (.int R), some (.int C), some (.int rr), some (.int c), x5, x6, x7, some (.int F), some (.lst ((acc ++ rowc n r).map cellD)), some (.int (r : Int)), lastD (fun (i : Nat) => D.int (i : Int)) x (List.range n)]) := by
  have := for_all (s := gN 11) (g := g_law_2) (fun (i : Nat) => D.int (i : Int)) (fun p => [some S, some (.int R), some (.int C), some (.int rr), some (.int c), x5, x6, x7, some (.int F), some (.lst ((acc ++ p.map fun (c : Nat) => ((r : Int), (c : Int))).map cellD)), some (.int (r : Int)), lastD (fun (i : Nat) => D.int (i : Int)) x p]) (List.range n) (fun p b q e => by
    have hl := pre_len e
    rw [List.length_range] at hl
    have hz : decide (acc.length + p.length < 100000) = true := decide_eq_true (by omega)
    simp [g_law_2, hz, cellD])
  simpa [rowc] using this
theorem out3 (S : D) (R C F rr c : Int) (x5 x6 x7 : Option D) (hR : R ≤ 100) (hC : F ≤ 100) (hR0 : 0 ≤ R) (hC0 : 0 ≤ F) : ∃ y z, sFor (iRg1 (eVar 1)) (gN 10) g_law_3 [some S, some (.int R), some (.int C), some (.int rr), some (.int c), x5, x6, x7, some (.int F), some (.lst []), none, none] = .ok (.nx [some S, some (.int R), some (.int C), some (.int rr), some (.int c), x5, x6, x7, some (.int F), some (.lst ((cellsL R F).map cellD)), y, z]) := by
  have b1 : (decide (-4611686018427387904 ≤ R) && decide (R < 4611686018427387904)) = true := by simp; omega
  have b2 : (decide (-4611686018427387904 ≤ F) && decide (F < 4611686018427387904)) = true := by simp; omega
  have h := for_all (s := gN 10) (g := g_law_3) (fun (i : Nat) => D.int (i : Int))
    (fun p => [some S, some (.int R), some (.int C), some (.int rr), some (.int c), x5, x6, x7, some (.int F), some (.lst ((blkc F.toNat p).map cellD)), lastD (fun (i : Nat) => D.int (i : Int)) none p, p.foldl (fun x _ => lastD (fun (i : Nat) => D.int (i : Int)) x (List.range F.toNat)) none]) (List.range R.toNat) (fun p b q e => by
    have hl := pre_len e
    rw [List.length_range] at hl
    simp [g_law_3, rngD_map]
    rw [b2]
    simp only [gd_true, O.bind_ok]
    rw [in3]
    · simp
    · rw [blkc_len]
      have : p.length * F.toNat ≤ 100 * 100 := Nat.mul_le_mul (by omega) (by omega)
      omega)
  simp only [List.map_nil, blkc_nil, lastD_nil, List.foldl_nil] at h
  refine ⟨lastD (fun (i : Nat) => D.int (i : Int)) none (List.range R.toNat), (List.range R.toNat).foldl (fun x _ => lastD (fun (i : Nat) => D.int (i : Int)) x (List.range F.toNat)) none, ?_⟩
  simp [rngD_map]
  rw [b1]
  simp only [gd_true, O.bind_ok]
  rw [h]
  rfl
theorem few_eq (C x : Int) (hC : 0 < C) (hC2 : C ≤ 30) : ∃ F : Int, ixD (.lst [.int (1 + C % 4), .int C]) (.int (if x % 4 = 1 then 1 else 0)) = .ok (.int F) ∧ 0 ≤ F ∧ F ≤ 100 := by
  have h1 := Int.emod_nonneg C (b := 4) (by decide)
  have h2 := Int.emod_lt_of_pos C (b := 4) (by decide)
  by_cases h : x % 4 = 1
  · rw [if_pos h]; exact ⟨C, rfl, by omega, by omega⟩
  · rw [if_neg h]; exact ⟨1 + C % 4, rfl, by omega, by omega⟩
theorem rng2 : rngD 0 2 = [.int 0, .int 1] := rfl
theorem law_true (ns : List Int) (h : ns.length ≤ 63) : F_law [.lst (ns.map .int)] = .ok (.bl true) := by
  have hc := fun k => cell_at_eq ns k
  have hR0 := Int.emod_nonneg (ns.getD 0 0) (b := 30) (by decide)
  have hR1 := Int.emod_lt_of_pos (ns.getD 0 0) (b := 30) (by decide)
  have hC0 := Int.emod_nonneg (ns.getD 1 0) (b := 30) (by decide)
  have hC1 := Int.emod_lt_of_pos (ns.getD 1 0) (b := 30) (by decide)
  generalize hR : 1 + ns.getD 0 0 % 30 = R
  generalize hC : 1 + ns.getD 1 0 % 30 = C
  have pR : 0 < R := by omega
  have pC : 0 < C := by omega
  obtain ⟨r, hr, hr1, hr2⟩ := pick_eq R (ns.getD 2 0) pR
  obtain ⟨c, hcc, hc1, hc2⟩ := pick_eq C (ns.getD 3 0) pC
  obtain ⟨th, ht, hth⟩ := thing_eq (ns.getD 4 0) R C pR pC
  have dR : decide (0 < R) = true := decide_eq_true pR
  have dC : decide (0 < C) = true := decide_eq_true pC
  have c0 : F_law_cell_at [.lst (ns.map .int), .int 0] = .ok (.int (ns.getD 0 0)) := hc 0
  have c1 : F_law_cell_at [.lst (ns.map .int), .int 1] = .ok (.int (ns.getD 1 0)) := hc 1
  have c2 : F_law_cell_at [.lst (ns.map .int), .int 2] = .ok (.int (ns.getD 2 0)) := hc 2
  have c3 : F_law_cell_at [.lst (ns.map .int), .int 3] = .ok (.int (ns.getD 3 0)) := hc 3
  have c4 : F_law_cell_at [.lst (ns.map .int), .int 4] = .ok (.int (ns.getD 4 0)) := hc 4
  have c5 : F_law_cell_at [.lst (ns.map .int), .int 5] = .ok (.int (ns.getD 5 0)) := hc 5
  generalize hS : (D.lst (ns.map .int)) = S at c0 c1 c2 c3 c4 c5 ⊢
  generalize ns.getD 0 0 = x0 at *
  generalize ns.getD 1 0 = x1 at *
  generalize ns.getD 2 0 = x2 at *
  generalize ns.getD 3 0 = x3 at *
  generalize ns.getD 4 0 = x4 at *
  generalize ns.getD 5 0 = x5 at *
  clear hc hS
  obtain ⟨F, hF, hF1, hF2⟩ := few_eq C x5 pC (by omega)
  obtain ⟨y, z, ho⟩ := out3 S R C F r c (some (.int 1)) (some (.bl (isCell R C th))) (some th) (by omega) hF2 (by omega) hF1
  have lt := lies_any R C hth
  have it := is_cell_eq R C hth
  have l1 : F_lies_in [.int R, .int C, .non] = .ok (.bl false) := lies_any R C rfl
  have l2 : F_lies_in [.int R, .int C, .int 7] = .ok (.bl false) := lies_any R C rfl
  refine runF_rt rfl (by decide) (ρ := [some S, some (.int R), some (.int C), some (.int r), some (.int c), some (.int 1), some (.lst []), some th, some (.int F), some (.lst ((cellsL R F).map cellD)), y, z]) ?_
  unfold g_law
  refine seq_to (ρ1 := [some S, some (.int R), none, none, none, none, none, none, none, none, none, none]) (by simp [startD, c0, hR]) ?_
  refine seq_to (ρ1 := [some S, some (.int R), some (.int C), none, none, none, none, none, none, none, none, none]) (by simp [c1, hC]) ?_
  refine seq_to (ρ1 := [some S, some (.int R), some (.int C), some (.int r), none, none, none, none, none, none, none, none]) (by simp [c2, dR, hr]) ?_
  refine seq_to (ρ1 := [some S, some (.int R), some (.int C), some (.int r), some (.int c), none, none, none, none, none, none, none]) (by simp [c3, dC, hcc]) ?_
  refine seq_to (ρ1 := [some S, some (.int R), some (.int C), some (.int r), some (.int c), some (.int 1), some (.lst ((besideL R C (r, c)).map cellD ++ [cellD (0, 0)])), none, none, none, none, none]) (by
    simp [rng2, sFor.go, turn1, hr1, hr2, hc1, hc2]) ?_
  refine seq_to (ρ1 := [some S, some (.int R), some (.int C), some (.int r), some (.int c), some (.int 1), some (.lst ((besideL R C (r, c)).map cellD ++ [cellD (0, 0)])), some th, none, none, none, none]) (by simp [c4, ht]) ?_
  refine seq_to (ρ1 := [some S, some (.int R), some (.int C), some (.int r), some (.int c), some (.int 1), some (.bl (isCell R C th)), some th, none, none, none, none]) (by simp [lt]) ?_
  refine seq_to (ρ1 := [some S, some (.int R), some (.int C), some (.int r), some (.int c), some (.int 1), some (.bl (isCell R C th)), some th, none, none, none, none]) (by simp [it, isTy]) ?_
  refine seq_to (ρ1 := [some S, some (.int R), some (.int C), some (.int r), some (.int c), some (.int 1), some (.bl (isCell R C th)), some th, none, none, none, none]) (by simp [l1, l2]) ?_
  refine seq_to (ρ1 := [some S, some (.int R), some (.int C), some (.int r), some (.int c), some (.int 1), some (.bl (isCell R C th)), some th, some (.int F), none, none, none]) (by simp [c5, hF]) ?_
  refine seq_to (ρ1 := [some S, some (.int R), some (.int C), some (.int r), some (.int c), some (.int 1), some (.bl (isCell R C th)), some th, some (.int F), some (.lst []), none, none]) (by simp) ?_
  refine seq_to (ρ1 := [some S, some (.int R), some (.int C), some (.int r), some (.int c), some (.int 1), some (.bl (isCell R C th)), some th, some (.int F), some (.lst ((cellsL R F).map cellD)), y, z]) ho ?_
  simp [rng2, sFor.go, turn4, hF1, hF2, show 0 ≤ R by omega, show R ≤ 100 by omega]
end VS
set_option Elab.async false
set_option linter.all false
set_option maxRecDepth 100000
set_option maxHeartbeats 2000000
namespace Pg
open PySem L2 VS
theorem fin {P : Program} {w : World} {K : PySem.W.Frag} {mg : Str → Option Value} {fa : Addr} (hfa : mg "law" = some (.ref fa)) (bn : Bn mg)
    (f_is_whole : Fact K mg "is_whole" s_is_whole ["thing"])
    (f_lies_in : Fact K mg "lies_in" s_lies_in ["rows", "columns", "cell"])
    (f_beside : Fact K mg "beside" s_beside ["rows", "columns", "cell"])
    (f_all_cells : Fact K mg "all_cells" s_all_cells ["rows", "columns"])
    (f_law_cell_at : Fact K mg "_law_cell_at" s_law_cell_at ["_law_script", "_law_k"])
    (f_law_whole : Fact K mg "_law_whole" s_law_whole ["_law_found"])
    (f_law_same_cells : Fact K mg "_law_same_cells" s_law_same_cells ["_law_found", "_law_due_here"])
    (f_law_thing : Fact K mg "_law_thing" s_law_thing ["_law_cell", "_law_rows", "_law_columns"])
    (f_law_is_cell : Fact K mg "_law_is_cell" s_law_is_cell ["_law_thing_here", "_law_rows", "_law_columns"])
    (f_law_due : Fact K mg "_law_due" s_law_due ["_law_rows", "_law_columns", "_law_row", "_law_column"])
    (f_law : Fact K mg "law" s_law ["_law_script"]) {t_MOST_SIDE : Tok} (c_MOST_SIDE : mg "MOST_SIDE" = some (.int 30 t_MOST_SIDE)) :
    ∃ fd : FuncData, (∀ (s : Shared) (u : Value), BindsTo s fd ⟨[u], []⟩ [("_law_script", u)]) ∧ ∃ (c : Ct) (F : List D → O D), c.K = K ∧ (∀ ns : List Int, ns.length ≤ 63 → F [.lst (ns.map .int)] = .ok (.bl true)) ∧ ∀ base : Heap, FnOk P w K mg base (L2.CX P w) 4 fa fd ["_law_script"] (spP c .fz F) := by
  obtain ⟨f, fd, F, hm, hb⟩ := f_law.ex
  have e := hfa.symm.trans hm
  cases e
  refine ⟨fd, fun s u => ?_, ⟨K, 0, 0⟩, F_law, rfl, law_true, fun base => ?_⟩
  · obtain ⟨oc, od, kV, doc, pm, an, cdv, ct, osl, rfl, lk, hcd⟩ := F.ex
    exact .of_eq rfl
  have d_is_whole := d_is_whole (P := P) (w := w) (base := base) (c := ⟨K, 0, 0⟩) rfl bn f_is_whole
  have d_lies_in := d_lies_in (P := P) (w := w) (base := base) (c := ⟨K, 0, 0⟩) rfl bn f_lies_in d_is_whole
  have d_beside := d_beside (P := P) (w := w) (base := base) (c := ⟨K, 0, 0⟩) rfl bn f_beside d_lies_in
  have d_all_cells := d_all_cells (P := P) (w := w) (base := base) (c := ⟨K, 0, 0⟩) rfl bn f_all_cells
  have d_law_cell_at := d_law_cell_at (P := P) (w := w) (base := base) (c := ⟨K, 0, 0⟩) rfl bn f_law_cell_at
  have d_law_whole := d_law_whole (P := P) (w := w) (base := base) (c := ⟨K, 0, 0⟩) rfl bn f_law_whole
  have d_law_same_cells := d_law_same_cells (P := P) (w := w) (base := base) (c := ⟨K, 0, 0⟩) rfl bn f_law_same_cells d_law_whole
  have d_law_thing := d_law_thing (P := P) (w := w) (base := base) (c := ⟨K, 0, 0⟩) rfl bn f_law_thing
  have d_law_is_cell := d_law_is_cell (P := P) (w := w) (base := base) (c := ⟨K, 0, 0⟩) rfl bn f_law_is_cell d_law_whole
  have d_law_due := d_law_due (P := P) (w := w) (base := base) (c := ⟨K, 0, 0⟩) rfl bn f_law_due
  exact d_law rfl bn F d_law_cell_at d_beside d_law_same_cells d_law_due d_law_thing d_lies_in d_law_is_cell d_all_cells c_MOST_SIDE
end Pg
open PySem PySem.W PyProof.Rows
set_option maxRecDepth 100000 in
set_option maxHeartbeats 0 in
theorem PySem.Challenge.cw_basin_k01_what_lies_beside_holds : PySem.Challenge.rw_basin_k01_what_lies_beside.Holds := by
  w_on; o_law; k_head; (case hw => w_witness2)
  k_fill
  refine VS.walk_law (l := PySem.Challenge.rw_basin_k01_what_lies_beside) (lv := 4) rfl rfl (by decide) (by decide) (fun w h Y => PySem.W.kIn_of Y) ?F
  case F =>
    intro w mg fa h KX G hmg
    refine' Pg.fin hmg ⟨(PySem.W.mg_none_of KX G ?b0), (PySem.W.mg_none_of KX G ?b1), (PySem.W.mg_none_of KX G ?b2), (PySem.W.mg_none_of KX G ?b3), (PySem.W.mg_none_of KX G ?b4), (PySem.W.mg_none_of KX G ?b5), (PySem.W.mg_none_of KX G ?b6), (PySem.W.mg_none_of KX G ?b7), (PySem.W.mg_none_of KX G ?b8), (PySem.W.mg_none_of KX G ?b9), (PySem.W.mg_none_of KX G ?b10), (PySem.W.mg_none_of KX G ?b11), (PySem.W.mg_none_of KX G ?b12), (PySem.W.mg_none_of KX G ?b13), (PySem.W.mg_none_of KX G ?b14), (PySem.W.mg_none_of KX G ?b15), (PySem.W.mg_none_of KX G ?b16), (PySem.W.mg_none_of KX G ?b17)⟩
      (VS.fact_mk KX G (fun F => F.binds fun _ _ _ _ _ _ us hl => match us, hl with | [_], _ => rfl) ?a0 ?l0 ?c0 ?k0)
      (VS.fact_mk KX G (fun F => F.binds fun _ _ _ _ _ _ us hl => match us, hl with | [_, _, _], _ => rfl) ?a1 ?l1 ?c1 ?k1)
      (VS.fact_mk KX G (fun F => F.binds fun _ _ _ _ _ _ us hl => match us, hl with | [_, _, _], _ => rfl) ?a2 ?l2 ?c2 ?k2)
      (VS.fact_mk KX G (fun F => F.binds fun _ _ _ _ _ _ us hl => match us, hl with | [_, _], _ => rfl) ?a3 ?l3 ?c3 ?k3)
      (VS.fact_mk KX G (fun F => F.binds fun _ _ _ _ _ _ us hl => match us, hl with | [_, _], _ => rfl) ?a4 ?l4 ?c4 ?k4)
      (VS.fact_mk KX G (fun F => F.binds fun _ _ _ _ _ _ us hl => match us, hl with | [_], _ => rfl) ?a5 ?l5 ?c5 ?k5)
      (VS.fact_mk KX G (fun F => F.binds fun _ _ _ _ _ _ us hl => match us, hl with | [_, _], _ => rfl) ?a6 ?l6 ?c6 ?k6)
      (VS.fact_mk KX G (fun F => F.binds fun _ _ _ _ _ _ us hl => match us, hl with | [_, _, _], _ => rfl) ?a7 ?l7 ?c7 ?k7)
      (VS.fact_mk KX G (fun F => F.binds fun _ _ _ _ _ _ us hl => match us, hl with | [_, _, _], _ => rfl) ?a8 ?l8 ?c8 ?k8)
      (VS.fact_mk KX G (fun F => F.binds fun _ _ _ _ _ _ us hl => match us, hl with | [_, _, _, _], _ => rfl) ?a9 ?l9 ?c9 ?k9)
      (VS.fact_mk KX G (fun F => F.binds fun _ _ _ _ _ _ us hl => match us, hl with | [_], _ => rfl) ?a10 ?l10 ?c10 ?k10)
      (PySem.W.mg_of KX G ?m0)
    (case b0 => k_is)
    (case b1 => k_is)
    (case b2 => k_is)
    (case b3 => k_is)
    (case b4 => k_is)
    (case b5 => k_is)
    (case b6 => k_is)
    (case b7 => k_is)
    (case b8 => k_is)
    (case b9 => k_is)
    (case b10 => k_is)
    (case b11 => k_is)
    (case b12 => k_is)
    (case b13 => k_is)
    (case b14 => k_is)
    (case b15 => k_is)
    (case b16 => k_is)
    (case b17 => k_is)
    (case a0 => k_is)
    (case l0 => k_is)
    (case c0 => k_is)
    (case k0 => k_is)
    (case a1 => k_is)
    (case l1 => k_is)
    (case c1 => k_is)
    (case k1 => k_is)
    (case a2 => k_is)
    (case l2 => k_is)
    (case c2 => k_is)
    (case k2 => k_is)
    (case a3 => k_is)
    (case l3 => k_is)
    (case c3 => k_is)
    (case k3 => k_is)
    (case a4 => k_is)
    (case l4 => k_is)
    (case c4 => k_is)
    (case k4 => k_is)
    (case a5 => k_is)
    (case l5 => k_is)
    (case c5 => k_is)
    (case k5 => k_is)
    (case a6 => k_is)
    (case l6 => k_is)
    (case c6 => k_is)
    (case k6 => k_is)
    (case a7 => k_is)
    (case l7 => k_is)
    (case c7 => k_is)
    (case k7 => k_is)
    (case a8 => k_is)
    (case l8 => k_is)
    (case c8 => k_is)
    (case k8 => k_is)
    (case a9 => k_is)
    (case l9 => k_is)
    (case c9 => k_is)
    (case k9 => k_is)
    (case a10 => k_is)
    (case l10 => k_is)
    (case c10 => k_is)
    (case k10 => k_is)
    (case m0 => k_is)
