import PyProof.Rows.All
import Wide.All
import OpenK.AllK
import Wide.FinOn
import HandS.ForMost
import HandS.ForExc
import HandS.Flow
import HandS.TupAny
import HandS.TupMul
import HandS.Deep
import HandS.IsInst
import HandS.Zip
import HandS.Sort
import HandS.SortInts
import HandS.Remove
import HandS.StrMore
import HandS.SetFor
import HandS.Wide
import HandS.Defaults
import HandS.HeadEnd
import HandS.HeadHook1
import HandS.HeadHook2
import HandS.HeadWalk
import KE.KDictKeyed
import KE.KDictWalk
import KE.KDictLaw
import KE.KDictItemsList
import KE.SortData
import KE.GoesEnum
import KE.KStateDown
import HandS.Style
import HandS.Strs
import HandS.Conv
import HandS.Text
import HandS.HeadHook4
import HandS.Head0
import HandS.Head1
import HandS.Head2
import PySem.Challenge.RW_tilehands_k03_is_parting
set_option Elab.async false
set_option linter.all false
set_option maxRecDepth 100000
set_option maxHeartbeats 4000000
namespace PD
open PySem PySem.Spec PyProof.Rows L2

abbrev D := PyData

mutual
def imm : PyData → Bool
  | .none => true
  | .bool _ => true
  | .int _ => true
  | .str _ => true
  | .list _ => false
  | .tuple xs => immL xs
  | .dict _ => false
def immL : List PyData → Bool
  | [] => true
  | x :: xs => imm x && immL xs
end

mutual
def nk : PyData → Option NestedKey
  | .none => some .none
  | .bool b => some (.num (if b = true then 1 else 0))
  | .int i => some (.num i)
  | .str x => some (.text x)
  | .list _ => none
  | .tuple xs => (nkL xs).map .tup
  | .dict _ => none
def nkL : List PyData → Option (List NestedKey)
  | [] => some []
  | x :: xs => match nk x, nkL xs with
    | some k, some ks => some (k :: ks)
    | _, _ => none
end

/-- a dict with tuple keys, at a -/
def DxOk (P : Program) (w : World) (a : Addr) (xs : List (NestedKey × Addr × Value)) : Heap → Prop := fun h =>
  ∃ o es ep, h.get? a = some o ∧ o.ExactDict ∧ o.data = .dict es ep ∧ es.toList = xs.map (entryOfKey (nestedKind P w)) ∧ (xs.map (·.1)).Nodup ∧ (a == sysModules) = false ∧ xs.length ≤ sizeLine

/-- a tuple that is known to its object (so that its methods may be called) -/
def TupF (K : PySem.W.Frag) (H : Hp) (a : Addr) (xs : List V) : Prop :=
  (∃ o : Obj, H a = some (.frz o (.tup xs)) ∧ o.dict = none) ∨
    ∃ (o : Obj) (its : Array Value) (n : Nat), K.lookup a = some o ∧ o.cls = .type "tuple" ∧ o.dict = none ∧ o.data = .seq its n ∧ its.size ≤ sizeLine ∧ Vals xs its.toList
/-- a list that nobody may change -/
def ScrF (K : PySem.W.Frag) (H : Hp) (a : Addr) (xs : List V) : Prop :=
  (∃ o : Obj, H a = some (.frz o (.lst xs))) ∨
    ∃ (o : Obj) (its : Array Value) (n : Nat), K.lookup a = some o ∧ o.cls = .type "list" ∧ o.dict = none ∧ o.data = .seq its n ∧ its.size ≤ sizeLine ∧ Vals xs its.toList
theorem ScrF.sq {K : PySem.W.Frag} {H : Hp} {a : Addr} {xs : List V} (h : ScrF K H a xs) : SqL K H a xs := by
  rcases h with ⟨o, h⟩ | h
  · exact .inl (.inr ⟨o, h⟩)
  · exact .inr h
theorem TupF.sq {K : PySem.W.Frag} {H : Hp} {a : Addr} {xs : List V} (h : TupF K H a xs) : SqT K H a xs := by
  rcases h with ⟨o, h, _⟩ | ⟨o, its, n, h1, h2, _, h4, h5, h6⟩
  · exact .inl (.inr ⟨o, h⟩)
  · exact .inr ⟨o, its, n, h1, h2, h4, h5, h6⟩

section
variable (K : PySem.W.Frag) (P : Program) (w : World) (H : Hp)
mutual
/-- v stands for the data d; F: the lists, dicts and instances that it is made of -/
inductive Rp : V → PyData → List Addr → Prop
  | non : Rp .non .none []
  | bl (b : Bool) : Rp (.bl b) (.bool b) []
  | int (i : Int) : Rp (.int i) (.int i) []
  | str (x : Str) : Rp (.str x) (.str x) []
  | lst {a : Addr} {xs : List V} {ds : List PyData} {F : List Addr} : H a = some (.lst xs) → RpL xs ds F → Rp (.ref a) (.list ds) (a :: F)
  /-- the script: read, never written -/
  | fz {a : Addr} {ns : List Int} : ScrF K H a (ns.map V.int) → Rp (.ref a) (.dict [(.none, .list (ns.map PyData.int))]) []
  | tup {a : Addr} {xs : List V} {ds : List PyData} {F : List Addr} : TupF K H a xs → RpL xs ds F → Rp (.ref a) (.tuple ds) F
  | dk {a : Addr} {kvs : List (Key × V)} {ds : List (PyData × PyData)} {F : List Addr} : H a = some (.dK kvs) → RpK kvs ds F → Rp (.ref a) (.dict ds) (a :: F)
  | dx {a : Addr} {xs : List (NestedKey × Addr × Value)} {ds : List (PyData × PyData)} {F : List Addr} : H a = some (.ext (DxOk P w a xs)) → xs ≠ [] → RpX xs ds F → Rp (.ref a) (.dict ds) (a :: F)
inductive RpL : List V → List PyData → List Addr → Prop
  | nil : RpL [] [] []
  | cons {v : V} {vs : List V} {d : PyData} {ds : List PyData} {F G : List Addr} : Rp v d F → RpL vs ds G → RpL (v :: vs) (d :: ds) (F ++ G)
inductive RpK : List (Key × V) → List (PyData × PyData) → List Addr → Prop
  | nil : RpK [] [] []
  | int {i : Int} {v : V} {r : List (Key × V)} {d : PyData} {ds : List (PyData × PyData)} {F G : List Addr} : Rp v d F → RpK r ds G → RpK ((.inl i, v) :: r) ((.int i, d) :: ds) (F ++ G)
  | str {x : Str} {v : V} {r : List (Key × V)} {d : PyData} {ds : List (PyData × PyData)} {F G : List Addr} : Rp v d F → RpK r ds G → RpK ((.inr x, v) :: r) ((.str x, d) :: ds) (F ++ G)
inductive RpX : List (NestedKey × Addr × Value) → List (PyData × PyData) → List Addr → Prop
  | nil : RpX [] [] []
  | cons {k : NestedKey} {b : Addr} {u : Value} {v : V} {r : List (NestedKey × Addr × Value)} {kd d : PyData} {ds : List (PyData × PyData)} {F G : List Addr} :
      nk kd = some k → k.depth ≤ 8 → Rp (.ref b) kd [] → RelV v u → Rp v d F → RpX r ds G → RpX ((k, b, u) :: r) ((kd, d) :: ds) (F ++ G)
end
end

section
variable {K : PySem.W.Frag} {P : Program} {w : World} {H H' H'' : Hp}

mutual
theorem Rp.imm : ∀ {d : PyData} {v : V} {F : List Addr}, Rp K P w H v d F → imm d = true → F = []
  | .none, _, _, h, _ => by cases h; rfl
  | .bool _, _, _, h, _ => by cases h; rfl
  | .int _, _, _, h, _ => by cases h; rfl
  | .str _, _, _, h, _ => by cases h; rfl
  | .list _, _, _, _, e => by simp [PD.imm] at e
  | .dict _, _, _, _, e => by simp [PD.imm] at e
  | .tuple ds, _, _, h, e => by
    cases h with
    | tup h1 h2 => exact RpL.imm h2 (by simpa [PD.imm] using e)
theorem RpL.imm : ∀ {ds : List PyData} {vs : List V} {F : List Addr}, RpL K P w H vs ds F → immL ds = true → F = []
  | [], _, _, h, _ => by cases h; rfl
  | d :: ds, _, _, h, e => by
    cases h with
    | cons h1 h2 =>
      have e' : PD.imm d = true ∧ immL ds = true := by simpa [immL] using e
      rw [Rp.imm h1 e'.1, RpL.imm h2 e'.2]; rfl
end

/-- what may change: what may be written, at O; the rest stays; nothing goes -/
def Chg (O : Addr → Prop) (H H' : Hp) : Prop := (∀ a o, H a = some o → (¬ O a ∨ ¬ Mut (some o)) → H' a = some o) ∧ ∀ a, H' a = none → H a = none
theorem Chg.of_same {O : Addr → Prop} (h : Same H H') : Chg O H H' := ⟨fun a o e _ => h a o e, fun _ e => h.free e⟩
theorem Chg.refl {O : Addr → Prop} : Chg O H H := ⟨fun _ _ e _ => e, fun _ e => e⟩
theorem Chg.trans {O : Addr → Prop} (a : Chg O H H') (b : Chg O H' H'') : Chg O H H'' := ⟨fun c o e k => b.1 c o (a.1 c o e k) k, fun c e => a.2 c (b.2 c e)⟩
theorem Chg.mono {O O' : Addr → Prop} (a : Chg O H H') (h : ∀ c, O c → O' c) : Chg O' H H' := ⟨fun c o e k => a.1 c o e (k.imp (fun z y => z (h c y)) id), a.2⟩
theorem Mut.some {H : Hp} {a : Addr} (h : Mut (H a)) : H a ≠ none := by
  intro e; rw [e] at h; exact h

theorem Rd.chg {O : Addr → Prop} {a : Addr} {u : HO} (r : Rd H a u) (c : Chg O H H') (h : ¬ O a) : Rd H' a u := by
  rcases r with r | ⟨o, r⟩
  · exact .inl (c.1 a _ r (.inl h))
  · exact .inr ⟨o, c.1 a _ r (.inl h)⟩
theorem TupF.chg {O : Addr → Prop} {a : Addr} {xs : List V} (r : TupF K H a xs) (c : Chg O H H') : TupF K H' a xs := by
  rcases r with ⟨o, r, d⟩ | r
  · exact .inl ⟨o, c.1 a _ r (.inr (by simp [Mut])), d⟩
  · exact .inr r

theorem ScrF.chg {O : Addr → Prop} {a : Addr} {xs : List V} (r : ScrF K H a xs) (c : Chg O H H') : ScrF K H' a xs := by
  rcases r with ⟨o, r⟩ | r
  · exact .inl ⟨o, c.1 a _ r (.inr (by simp [Mut]))⟩
  · exact .inr r
mutual
theorem Rp.chg {O : Addr → Prop} (c : Chg O H H') : ∀ {d : PyData} {v : V} {F : List Addr}, Rp K P w H v d F → (∀ a ∈ F, ¬ O a) → Rp K P w H' v d F
  | .none, _, _, h, _ => by cases h; exact .non
  | .bool _, _, _, h, _ => by cases h; exact .bl _
  | .int _, _, _, h, _ => by cases h; exact .int _
  | .str _, _, _, h, _ => by cases h; exact .str _
  | .list ds, _, _, h, n => by
    cases h with
    | lst h1 h2 => exact .lst (c.1 _ _ h1 (.inl (n _ (by simp)))) (RpL.chg c h2 fun a ha => n a (by simp [ha]))
  | .tuple ds, _, _, h, n => by
    cases h with
    | tup h1 h2 => exact .tup (TupF.chg h1 c) (RpL.chg c h2 n)
  | .dict ds, _, _, h, n => by
    cases h with
    | dk h1 h2 => exact .dk (c.1 _ _ h1 (.inl (n _ (by simp)))) (RpK.chg c h2 fun a ha => n a (by simp [ha]))
    | dx h1 h0 h2 => exact .dx (c.1 _ _ h1 (.inl (n _ (by simp)))) h0 (RpX.chg c h2 fun a ha => n a (by simp [ha]))
    | fz h1 => exact .fz (ScrF.chg h1 c)
theorem RpL.chg {O : Addr → Prop} (c : Chg O H H') : ∀ {ds : List PyData} {vs : List V} {F : List Addr}, RpL K P w H vs ds F → (∀ a ∈ F, ¬ O a) → RpL K P w H' vs ds F
  | [], _, _, h, _ => by cases h; exact .nil
  | d :: ds, _, _, h, n => by
    cases h with
    | cons h1 h2 => exact .cons (Rp.chg c h1 fun a ha => n a (by simp [ha])) (RpL.chg c h2 fun a ha => n a (by simp [ha]))
theorem RpK.chg {O : Addr → Prop} (c : Chg O H H') : ∀ {ds : List (PyData × PyData)} {vs : List (Key × V)} {F : List Addr}, RpK K P w H vs ds F → (∀ a ∈ F, ¬ O a) → RpK K P w H' vs ds F
  | [], _, _, h, _ => by cases h; exact .nil
  | (k, d) :: ds, _, _, h, n => by
    cases h with
    | int h1 h2 => exact .int (Rp.chg c h1 fun a ha => n a (by simp [ha])) (RpK.chg c h2 fun a ha => n a (by simp [ha]))
    | str h1 h2 => exact .str (Rp.chg c h1 fun a ha => n a (by simp [ha])) (RpK.chg c h2 fun a ha => n a (by simp [ha]))
theorem RpX.chg {O : Addr → Prop} (c : Chg O H H') : ∀ {ds : List (PyData × PyData)} {vs : List (NestedKey × Addr × Value)} {F : List Addr}, RpX K P w H vs ds F → (∀ a ∈ F, ¬ O a) → RpX K P w H' vs ds F
  | [], _, _, h, _ => by cases h; exact .nil
  | (k, d) :: ds, _, _, h, n => by
    cases h with
    | cons e1 e2 h0 r h1 h2 => exact .cons e1 e2 (Rp.chg c h0 fun a ha => absurd ha (by simp)) r (Rp.chg c h1 fun a ha => n a (by simp [ha])) (RpX.chg c h2 fun a ha => n a (by simp [ha]))
end
theorem Rp.same {d : PyData} {v : V} {F : List Addr} (h : Rp K P w H v d F) (s : Same H H') : Rp K P w H' v d F := h.chg (O := fun _ => False) (Chg.of_same s) fun _ _ z => z
theorem RpL.same {d : List PyData} {v : List V} {F : List Addr} (h : RpL K P w H v d F) (s : Same H H') : RpL K P w H' v d F := h.chg (O := fun _ => False) (Chg.of_same s) fun _ _ z => z

theorem RpL.length : ∀ {ds : List PyData} {vs : List V} {F : List Addr}, RpL K P w H vs ds F → vs.length = ds.length
  | [], _, _, h => by cases h; rfl
  | d :: ds, _, _, h => by
    cases h with
    | cons h1 h2 => simp [RpL.length h2]
theorem RpL.append : ∀ {ds : List PyData} {vs : List V} {F : List Addr} {es : List PyData} {us : List V} {G : List Addr}, RpL K P w H vs ds F → RpL K P w H us es G → RpL K P w H (vs ++ us) (ds ++ es) (F ++ G)
  | [], _, _, _, _, _, h, h' => by cases h; exact h'
  | d :: ds, _, _, _, _, _, h, h' => by
    cases h with
    | cons h1 h2 =>
      rw [List.append_assoc]
      exact .cons h1 (RpL.append h2 h')
theorem RpL.get : ∀ {ds : List PyData} {vs : List V} {F : List Addr} {i : Nat} {d : PyData}, RpL K P w H vs ds F → ds[i]? = some d → ∃ v G, vs[i]? = some v ∧ Rp K P w H v d G ∧ ∀ a ∈ G, a ∈ F
  | [], _, _, _, _, _, e => by simp at e
  | d :: ds, _, _, 0, _, h, e => by
    cases h with
    | cons h1 h2 =>
      simp at e; subst e
      exact ⟨_, _, rfl, h1, fun a ha => by simp [ha]⟩
  | d :: ds, _, _, i + 1, _, h, e => by
    cases h with
    | cons h1 h2 =>
      obtain ⟨v, G, e1, h3, h4⟩ := RpL.get (i := i) h2 (by simpa using e)
      exact ⟨v, G, by simpa using e1, h3, fun a ha => by simp [h4 a ha]⟩
theorem RpL.of_get : ∀ {ds : List PyData} {vs : List V} {F : List Addr} {i : Nat} {v : V}, RpL K P w H vs ds F → vs[i]? = some v → ∃ d G, ds[i]? = some d ∧ Rp K P w H v d G ∧ ∀ a ∈ G, a ∈ F
  | [], _, _, _, _, h, e => by cases h; simp at e
  | d :: ds, _, _, 0, _, h, e => by
    cases h with
    | cons h1 h2 =>
      simp at e; subst e
      exact ⟨_, _, rfl, h1, fun a ha => by simp [ha]⟩
  | d :: ds, _, _, i + 1, _, h, e => by
    cases h with
    | cons h1 h2 =>
      obtain ⟨v, G, e1, h3, h4⟩ := RpL.of_get (i := i) h2 (by simpa using e)
      exact ⟨v, G, by simpa using e1, h3, fun a ha => by simp [h4 a ha]⟩
theorem RpL.take : ∀ {ds : List PyData} {vs : List V} {F : List Addr} (n : Nat), RpL K P w H vs ds F → ∃ G, RpL K P w H (vs.take n) (ds.take n) G ∧ (∀ a ∈ G, a ∈ F)
  | _, _, _, 0, _ => ⟨[], .nil, fun a ha => by simp at ha⟩
  | [], _, _, n + 1, h => by cases h; exact ⟨[], .nil, fun a ha => by simp at ha⟩
  | d :: ds, _, _, n + 1, h => by
    cases h with
    | cons h1 h2 =>
      obtain ⟨G, h3, h4⟩ := RpL.take n h2
      refine ⟨_, .cons h1 h3, fun a ha => ?_⟩
      rcases List.mem_append.mp ha with z | z
      · simp [z]
      · simp [h4 a z]
theorem RpL.drop : ∀ {ds : List PyData} {vs : List V} {F : List Addr} (n : Nat), RpL K P w H vs ds F → ∃ G, RpL K P w H (vs.drop n) (ds.drop n) G ∧ (∀ a ∈ G, a ∈ F)
  | _, _, _, 0, h => ⟨_, h, fun a ha => ha⟩
  | [], _, _, n + 1, h => by cases h; exact ⟨[], .nil, fun a ha => by simp at ha⟩
  | d :: ds, _, _, n + 1, h => by
    cases h with
    | cons h1 h2 =>
      obtain ⟨G, h3, h4⟩ := RpL.drop n h2
      exact ⟨_, h3, fun a ha => by simp [h4 a ha]⟩
theorem RpL.all : ∀ {ds : List PyData} {vs : List V} {F : List Addr}, RpL K P w H vs ds F → immL ds = true → RpL K P w H vs ds []
  | _, _, _, h, e => by have z := RpL.imm h e; subst z; exact h
theorem immL_append : ∀ {xs ys : List PyData}, immL (xs ++ ys) = (immL xs && immL ys)
  | [], _ => by simp [immL]
  | x :: xs, ys => by simp [immL, immL_append (xs := xs), Bool.and_assoc]
theorem immL_mem : ∀ {xs : List PyData} {x : PyData}, immL xs = true → x ∈ xs → imm x = true
  | [], _, _, h => by simp at h
  | y :: ys, x, e, h => by
    have e' : PD.imm y = true ∧ immL ys = true := by simpa [immL] using e
    rcases List.mem_cons.mp h with rfl | h
    · exact e'.1
    · exact immL_mem e'.2 h
theorem immL_iff : ∀ {xs : List PyData}, immL xs = true ↔ ∀ x ∈ xs, imm x = true
  | [] => by simp [immL]
  | y :: ys => by simp [immL, immL_iff (xs := ys)]
/-! from data: what the rules of the kit read -/
mutual
theorem RpL.dp : ∀ {ds : List PyData} {vs : List V} {F : List Addr}, RpL K P w H vs ds F → PyData.canLayAll0 ds = true → DpAll K H vs ds
  | [], _, _, h, _ => by cases h; exact .nil
  | d :: ds, _, _, h, e => by
    have e' : d.canLay0 = true ∧ PyData.canLayAll0 ds = true := by simpa [PyData.canLayAll0] using e
    cases h with
    | cons h1 h2 => exact .cons (Rp.dp0 h1 e'.1) (RpL.dp h2 e'.2)
theorem Rp.dp0 : ∀ {d : PyData} {v : V} {F : List Addr}, Rp K P w H v d F → d.canLay0 = true → Dp K H v d
  | .none, _, _, h, _ => by cases h; exact .non
  | .bool _, _, _, h, _ => by cases h; exact .bl _
  | .int _, _, _, h, _ => by cases h; exact .int _
  | .str _, _, _, h, _ => by cases h; exact .str _
  | .list ds, _, _, h, e => by
    cases h with
    | lst h1 h2 => exact .lst (.inl (.inl h1)) (RpL.dp h2 (by simpa [PyData.canLay0] using e))
  | .tuple ds, _, _, h, e => by
    cases h with
    | tup h1 h2 => exact .tup h1.sq (RpL.dp h2 (by simpa [PyData.canLay0] using e))
  | .dict ds, _, _, h, e => by simp [PyData.canLay0] at e
end
theorem Rp.dp {d : PyData} {v : V} {F : List Addr} (h : Rp K P w H v d F) (e : SeqAt.shaped d = true) : Dp K H v d := Rp.dp0 h (SeqAt.canLay_of_shaped e)
end
end PD
set_option maxHeartbeats 4000000
namespace PD
open PySem PySem.Spec PyProof.Rows L2

/-- a slot: nothing; data of its own; its own, but locked (a loop walks it); a view of what others hold (of the slots R) -/
inductive Sl where
  | un
  | own (d : PyData)
  | lk (d : PyData)
  | vw (R : List Nat) (d : PyData)
namespace Sl
def val : Sl → Option PyData
  | .un => none
  | .own d => some d
  | .lk d => some d
  | .vw _ d => some d
def ol : Sl → Bool
  | .own _ => true
  | .lk _ => true
  | _ => false
def isOwn : Sl → Bool
  | .own _ => true
  | _ => false
def roots : Sl → List Nat
  | .vw R _ => R
  | _ => []
end Sl
abbrev Rho := List Sl
abbrev Fp := Nat → List Addr
abbrev Tn := Option (List Nat)

/-- what stood at a start: the heap, what may be changed, whether slot 0 is handed in and out -/
structure Base where
  H : Hp
  O : Addr → Prop
  all : Bool
  io : Bool
  pin : Option V
def Base.ok (b : Base) (j : Nat) (a : Addr) : Prop := b.H a = none ∨ (b.O a ∧ (b.all = true ∨ (b.io = true ∧ j = 0)))

section
variable (K : PySem.W.Frag) (P : Program) (w : World)
structure Sta (B : List Base) (σ : L2.St) (H : Hp) (ρ : Rho) (φ : Fp) : Prop where
  len : ρ.length = σ.length
  val : ∀ (i : Nat) (s : Sl) (d : PyData), ρ[i]? = some s → s.val = some d → ∃ v, σ[i]? = some (some v) ∧ Rp K P w H v d (φ i)
  tree : ∀ (i : Nat) (s : Sl), ρ[i]? = some s → s.ol = true → (φ i).Nodup ∧ ∀ a ∈ φ i, Mut (H a)
  disj : ∀ (i j : Nat) (s t : Sl), ρ[i]? = some s → ρ[j]? = some t → i ≠ j → s.val ≠ none → t.ol = true → j ∉ s.roots → ∀ a ∈ φ i, a ∉ φ j
  chg : ∀ b ∈ B, Chg b.O b.H H
  bok : ∀ b ∈ B, ∀ (j : Nat) (t : Sl), ρ[j]? = some t → t.ol = true → (t.isOwn = true ∨ b.all = false) → ∀ a ∈ φ j, b.ok j a
  pin : ∀ b ∈ B, ∀ v, b.pin = some v → σ[0]? = some (some v)
/-- a value at hand -/
def VC (ρ : Rho) (φ : Fp) (H0 H : Hp) (t : Tn) (v : V) (d : PyData) (F : List Addr) : Prop :=
  Rp K P w H v d F ∧ match t with
    | none => (∀ a ∈ F, H0 a = none ∧ Mut (H a)) ∧ F.Nodup
    | some R => ∀ (j : Nat) (s : Sl), ρ[j]? = some s → s.ol = true → j ∉ R → ∀ a ∈ F, a ∉ φ j
inductive VCL (ρ : Rho) (φ : Fp) (Hf : Hp) : Hp → List Tn → List V → List PyData → List (List Addr) → Prop
  | nil {H : Hp} : VCL ρ φ Hf H [] [] [] []
  | cons {H H1 : Hp} {t : Tn} {v : V} {d : PyData} {F : List Addr} {ts : List Tn} {vs : List V} {ds : List PyData} {Fs : List (List Addr)} :
      Same H H1 → VC K P w ρ φ H H1 t v d F → Same H1 Hf → VCL ρ φ Hf H1 ts vs ds Fs → VCL ρ φ Hf H (t :: ts) (v :: vs) (d :: ds) (F :: Fs)
end

def imm1 : PyData → Bool
  | .list xs => immL xs
  | d => imm d
def tnt (r : PyData) (ts : List Tn) : Tn := if imm1 r = true then none else some (ts.flatMap fun t => t.getD [])

section
variable {K : PySem.W.Frag} {P : Program} {w : World}
/-- what comes of values: new, or made of what they were made of -/
def Res (H H' : Hp) (F0 : List Addr) (v : V) (r : PyData) (F : List Addr) : Prop :=
  Rp K P w H' v r F ∧ (imm1 r = true → (∀ a ∈ F, H a = none ∧ Mut (H' a)) ∧ F.Nodup) ∧ ∀ a ∈ F, H a = none ∨ a ∈ F0

theorem Sta.same {B : List Base} {σ : L2.St} {H H' : Hp} {ρ : Rho} {φ : Fp} (S : Sta K P w B σ H ρ φ) (s : Same H H') : Sta K P w B σ H' ρ φ where
  len := S.len
  val := fun i t d e1 e2 => let ⟨v, h1, h2⟩ := S.val i t d e1 e2; ⟨v, h1, h2.same s⟩
  tree := fun i t e1 e2 => ⟨(S.tree i t e1 e2).1, fun a ha => by
    have m := (S.tree i t e1 e2).2 a ha
    cases q : H a with
    | none => rw [q] at m; exact m.elim
    | some o => rw [q] at m; rw [s a o q]; exact m⟩
  disj := S.disj
  chg := fun b hb => (S.chg b hb).trans (Chg.of_same s)
  bok := S.bok
  pin := S.pin
theorem Sta.alloc {B : List Base} {σ : L2.St} {H : Hp} {ρ : Rho} {φ : Fp} (S : Sta K P w B σ H ρ φ) {j : Nat} {t : Sl} (e : ρ[j]? = some t) (o : t.ol = true) {a : Addr} (ha : a ∈ φ j) : H a ≠ none := Mut.some ((S.tree j t e o).2 a ha)
theorem Mut.same {H H' : Hp} {a : Addr} (m : Mut (H a)) (s : Same H H') : Mut (H' a) := by
  cases q : H a with
  | none => rw [q] at m; exact m.elim
  | some o => rw [q] at m; rw [s a o q]; exact m
theorem VC.same {ρ : Rho} {φ : Fp} {H0 H H' : Hp} {t : Tn} {v : V} {d : PyData} {F : List Addr} (h : VC K P w ρ φ H0 H t v d F) (s : Same H H') : VC K P w ρ φ H0 H' t v d F := by
  refine ⟨h.1.same s, ?_⟩
  have q := h.2
  cases t with
  | none => exact ⟨fun a ha => ⟨(q.1 a ha).1, Mut.same (q.1 a ha).2 s⟩, q.2⟩
  | some R => exact q
theorem VCL.toL {ρ : Rho} {φ : Fp} {Hf : Hp} : ∀ {H : Hp} {ts : List Tn} {vs : List V} {ds : List PyData} {Fs : List (List Addr)}, VCL K P w ρ φ Hf H ts vs ds Fs → RpL K P w Hf vs ds Fs.flatten
  | _, _, _, _, _, .nil => .nil
  | _, _, _, _, _, .cons _ h s r => .cons (h.1.same s) (VCL.toL r)
theorem VCL.start {ρ : Rho} {φ : Fp} {Hf : Hp} : ∀ {H : Hp} {ts : List Tn} {vs : List V} {ds : List PyData} {Fs : List (List Addr)}, VCL K P w ρ φ Hf H ts vs ds Fs → ts ≠ [] → Same H Hf
  | _, _, _, _, _, .nil, h => absurd rfl h
  | _, _, _, _, _, .cons s _ s2 r, _ => s.trans s2
/-- what the values are made of, against the slots -/
theorem VCL.apart {ρ : Rho} {φ : Fp} {Hf Hs : Hp} {B : List Base} {σ : L2.St} (S : Sta K P w B σ Hs ρ φ) : ∀ {H : Hp} {ts : List Tn} {vs : List V} {ds : List PyData} {Fs : List (List Addr)}, VCL K P w ρ φ Hf H ts vs ds Fs → Same Hs H →
    ∀ (j : Nat) (s : Sl), ρ[j]? = some s → s.ol = true → j ∉ (ts.flatMap fun t => t.getD []) → ∀ a ∈ Fs.flatten, a ∉ φ j
  | _, _, _, _, _, .nil, _, _, _, _, _, _, a, ha => by simp at ha
  | H, _, _, _, _, .cons (t := t) s0 h s r, sH, j, sl, e, o, hj, a, ha => by
    rw [List.flatten_cons] at ha
    rw [List.flatMap_cons] at hj
    rcases List.mem_append.mp ha with z | z
    · have q := h.2
      cases t with
      | none =>
        intro hm
        exact S.alloc e o hm (sH.free (q.1 a z).1)
      | some R => exact q j sl e o (fun k => hj (by simp [k])) a z
    · exact VCL.apart S r (sH.trans s0) j sl e o (fun k => hj (List.mem_append_right _ k)) a z
theorem VCL.new {ρ : Rho} {φ : Fp} {Hf : Hp} : ∀ {H : Hp} {ts : List Tn} {vs : List V} {ds : List PyData} {Fs : List (List Addr)}, VCL K P w ρ φ Hf H ts vs ds Fs → (∀ t ∈ ts, t = none) →
    (∀ a ∈ Fs.flatten, H a = none ∧ Mut (Hf a)) ∧ Fs.flatten.Nodup
  | _, _, _, _, _, .nil, _ => by simp
  | H, _, _, _, _, .cons (H1 := H1) (t := t) (F := F) (Fs := Fs) s0 h s r, ht => by
    have e : t = none := ht t (by simp)
    subst e
    have q1 : ∀ a ∈ F, H a = none ∧ Mut (H1 a) := h.2.1
    have q2 : F.Nodup := h.2.2
    obtain ⟨n1, n2⟩ := VCL.new r fun t' h' => ht t' (List.mem_cons_of_mem _ h')
    rw [List.flatten_cons]
    refine ⟨fun a ha => ?_, ?_⟩
    · rcases List.mem_append.mp ha with z | z
      · exact ⟨(q1 a z).1, Mut.same (q1 a z).2 s⟩
      · exact ⟨s0.free (n1 a z).1, (n1 a z).2⟩
    · refine List.nodup_append.mpr ⟨q2, n2, fun a ha b hb e => ?_⟩
      subst e
      exact Mut.some (q1 a ha).2 (n1 a hb).1
theorem Res.vc {ρ : Rho} {φ : Fp} {Hf Hs H' : Hp} {B : List Base} {σ : L2.St} (S : Sta K P w B σ Hs ρ φ) {ts : List Tn} {vs : List V} {ds : List PyData} {Fs : List (List Addr)} {v : V} {r : PyData} {F : List Addr}
    (c : VCL K P w ρ φ Hf Hs ts vs ds Fs) (hs : Same Hs Hf) (h : Res (K := K) (P := P) (w := w) Hf H' Fs.flatten v r F) : VC K P w ρ φ Hs H' (tnt r ts) v r F := by
  refine ⟨h.1, ?_⟩
  unfold tnt
  by_cases i : imm1 r = true
  · rw [if_pos i]
    obtain ⟨q1, q2⟩ := h.2.1 i
    exact ⟨fun a ha => ⟨hs.free (q1 a ha).1, (q1 a ha).2⟩, q2⟩
  · rw [if_neg i]
    intro j s e o hj a ha
    rcases h.2.2 a ha with z | z
    · intro hm
      exact S.alloc e o hm (hs.free z)
    · exact c.apart S (Same.refl _) j s e o hj a z
end

/-- by values: data in, data out -/
def rD (K : PySem.W.Frag) (P : Program) (w : World) (f : List PyData → Option PyData) : List V → Hp → VK → Prop := fun xs H Q =>
  ∃ ds F r, RpL K P w H xs ds F ∧ f ds = some r ∧ ∀ v H' G, Same H H' → Res (K := K) (P := P) (w := w) H H' F v r G → Q v H'
end PD
set_option maxHeartbeats 4000000
namespace PD
open PySem PySem.Spec PyProof.Rows L2

/-! ## the small language -/
inductive Bop where
  | add | sub | mul | fdiv | mod | pow
  deriving DecidableEq
inductive Cop where
  | eq | ne | lt | le | gt | ge | is | isnot | in_ | notin
  deriving DecidableEq
inductive Ty where
  | int | bool | str | tuple | list
  deriving DecidableEq
/-- built-in functions -/
inductive Bi where
  | len | sum | max | min | sorted | list | tuple | int | str | abs | listRange1 | sortedSet | lenSet | listRange2 | dict | set
  deriving DecidableEq
/-- methods that change nothing -/
inductive Me where
  | count | index | find | get | join | split
  deriving DecidableEq
/-- methods that change -/
inductive Mu where
  | append | remove | extend | pop | clear
  deriving DecidableEq
inductive Tg where
  | one (i : Nat) | many (is : List Nat)
  deriving DecidableEq

mutual
inductive E where
  | v (i : Nat)
  | c (d : PyData)
  | g (k : Nat)
  | bin (o : Bop) (a b : E)
  | neg (a : E)
  | cmp (o : Cop) (a b : E)
  | chain (o o' : Cop) (a b c : E)
  | and2 (a b : E)
  | or2 (a b : E)
  | one (a : E)
  | not1 (a : E)
  | ife (t a b : E)
  | ix (a b : E)
  | sl (a lo hi : E)
  | omit
  | rev (a : E)
  | tup (es : EL)
  | lst (es : EL)
  | dic0
  | call (f : Nat) (es : EL)
  | bi (b : Bi) (es : EL)
  | me (m : Me) (o : E) (es : EL)
  | isi (a : E) (t : Ty)
  | lc (elt : E) (tg : Tg) (it : It) (cond : E) (own : List (Str × Nat))
inductive EL where
  | nil
  | cons (e : E) (es : EL)
inductive It where
  | ex (e : E)
  | rng (a : E)
  | rng2 (a b : E)
  | enu (e : E)
  | zip (a b : E)
end
mutual
inductive S where
  | set (i : Nat) (e : E)
  | setT (is : List Nat) (e : E)
  | aug (i : Nat) (o : Bop) (e : E)
  | ixset (x : Nat) (i e : E)
  | ixaug (x : Nat) (i : E) (o : Bop) (e : E)
  | mut (m : Mu) (x : Nat) (es : EL)
  | ex (e : E)
  | io (f : Nat) (x : Nat) (es : EL)
  | ret (e : E)
  | ret0
  | pass
  | brk
  | cnt
  | ife (c : E) (a b : SL)
  | for_ (tg : Tg) (it : It) (body : SL)
  | while_ (c : E) (body : SL)
  | raise (c : Str)
  | try_ (body : SL) (c : Str) (h : SL)
inductive SL where
  | nil
  | cons (s : S) (r : SL)
end

/-! ## what it computes -/
inductive R where
  | ok (d : PyData) (t : Tn)
  | ex (c : Str)
  | no
inductive RL where
  | ok (ds : List PyData) (ts : List Tn)
  | ex (c : Str)
  | no
inductive RT where
  | ok (b : Bool)
  | ex (c : Str)
  | no
/-- a def's end: the value, or the exception; and slot 0 as it is then -/
inductive Out where
  | ret (d : PyData) (io : PyData)
  | ex (c : Str) (io : PyData)
  | no
structure Tab where
  fn : Nat → List PyData → Out
  io : Nat → Bool
  /-- is the exception c one of d's -/
  sub : Str → Str → Option Bool
  consts : Nat → Option PyData

def lineN : Nat := 16777216
def truth : PyData → Option Bool
  | .none => some false
  | .bool b => some b
  | .int i => some (i != 0)
  | .str x => if x.length ≤ lineN then some ((x.length : Int) != 0) else none
  | .list xs => some (!xs.isEmpty)
  | .tuple xs => some (!xs.isEmpty)
  | .dict _ => none

def small64 (i : Int) : Bool := decide (-(2 ^ 64) < i) && decide (i < 2 ^ 64)
def asInts : List PyData → Option (List Int)
  | [] => some []
  | .int i :: r => (asInts r).map (i :: ·)
  | _ => none
def rep {α : Type} (k : Int) (xs : List α) : List α := (List.replicate k.toNat xs).flatten

def addD : PyData → PyData → Option PyData
  | .int i, .int j => some (.int (i + j))
  | .str x, .str y => if x.length + y.length ≤ lineN then some (.str (x ++ y)) else none
  | .list x, .list y => if x.length + y.length ≤ lineN then some (.list (x ++ y)) else none
  | .tuple x, .tuple y => if x.length + y.length ≤ lineN then some (.tuple (x ++ y)) else none
  | _, _ => none
def subD : PyData → PyData → Option PyData
  | .int i, .int j => some (.int (i - j))
  | _, _ => none
def mulD : PyData → PyData → Option PyData
  | .int i, .int j => if small64 i || small64 j then some (.int (i * j)) else none
  | .list x, .int k => if -(2 ^ 63) ≤ k ∧ k < 2 ^ 63 ∧ x.length * k.toNat ≤ lineN then some (.list (rep k x)) else none
  | .tuple x, .int k => if x ≠ [] ∧ 2 ≤ k ∧ k ≤ 1000 ∧ x.length ≤ 1000 then some (.tuple (rep k x)) else none
  | _, _ => none
def fdivD : PyData → PyData → Option PyData
  | .int i, .int j => if j ≠ 0 ∧ j.natAbs < 1073741824 then some (.int (i.fdiv j)) else none
  | _, _ => none
def modD : PyData → PyData → Option PyData
  | .int i, .int j => if j ≠ 0 then some (.int (i.fmod j)) else none
  | _, _ => none
def powD : PyData → PyData → Option PyData
  | .int i, .int j => if 0 ≤ j ∧ j ≤ 1000000 ∧ i.natAbs < 2 ^ 64 then some (.int (i ^ j.toNat)) else none
  | _, _ => none
def bop : Bop → PyData → PyData → Option PyData
  | .add => addD
  | .sub => subD
  | .mul => mulD
  | .fdiv => fdivD
  | .mod => modD
  | .pow => powD

/-- places of a dict -/
def dlook (kvs : List (PyData × PyData)) (k : PyData) : Option PyData :=
  match kvs with
  | [] => none
  | (k', d) :: r => if PyData.eqv k' k = true then some d else dlook r k
def dput (kvs : List (PyData × PyData)) (k d : PyData) : List (PyData × PyData) :=
  match kvs with
  | [] => [(k, d)]
  | (k', d') :: r => if PyData.eqv k' k = true then (k', d) :: r else (k', d') :: dput r k d

/-- a key that the kit's dicts take: 1, an int or a text; 2, a tuple of such -/
def keyOk (k : PyData) : Bool :=
  match k with
  | .int _ => true
  | .str _ => true
  | .tuple _ => match nk k with
    | some n => decide (n.depth ≤ 8)
    | none => false
  | _ => false
def inStr (x y : Str) : Bool := !(Builtin.Str.occurrences y x 0 y.length 1).isEmpty

def eqD (a b : PyData) : Option Bool := if SeqAt.shaped a && SeqAt.shaped b then some (PyData.eqv a b) else none
def ltD : PyData → PyData → Option Bool
  | .int i, .int j => some (decide (i < j))
  | _, _ => none
def leD : PyData → PyData → Option Bool
  | .int i, .int j => some (decide (i ≤ j))
  | _, _ => none
def isNoneD : PyData → Bool
  | .none => true
  | _ => false
def isD : PyData → PyData → Option Bool
  | a, .none => some (isNoneD a)
  | .bool a, .bool b => some (decide (a = b))
  | .int _, .bool _ => some false
  | _, _ => none
def inD : PyData → PyData → Option Bool
  | .str x, .str y => some (inStr x y)
  | a, .list xs => if SeqAt.shaped a && SeqAt.shaped (.list xs) then some (xs.any fun z => PyData.eqv z a) else none
  | a, .tuple xs => if SeqAt.shaped a && SeqAt.shaped (.tuple xs) then some (xs.any fun z => PyData.eqv z a) else none
  | _, _ => none
def cop : Cop → PyData → PyData → Option Bool
  | .eq, a, b => eqD a b
  | .ne, a, b => (eqD a b).map (!·)
  | .lt, a, b => ltD a b
  | .le, a, b => leD a b
  | .gt, a, b => ltD b a
  | .ge, a, b => leD b a
  | .is, a, b => isD a b
  | .isnot, a, b => (isD a b).map (!·)
  | .in_, a, b => inD a b
  | .notin, a, b => (inD a b).map (!·)

/-- a place counted from either end -/
def atN {α : Type} (xs : List α) (i : Int) : Option α := if 0 ≤ i then xs[i.toNat]? else if 0 ≤ i + xs.length then xs[(i + xs.length).toNat]? else none
def atPos (n : Nat) (i : Int) : Option Nat := if 0 ≤ i then (if i.toNat < n then some i.toNat else none) else if 0 ≤ i + n then some (i + n).toNat else none
def ixop : PyData → PyData → Option PyData
  | .dict [(.none, .list xs)], .int i => atN xs i
  | .list xs, .int i => atN xs i
  | .tuple xs, .int i => atN xs i
  | .str z, .int i => if z.length ≤ lineN then (atN z.cps.toList i).map fun c => .str ⟨#[c]⟩ else none
  | _, _ => none
def slIx (n dflt : Nat) : Option Int → Nat
  | none => dflt
  | some i => if i < 0 then (i + n).toNat else min i.toNat n
def cutL {α : Type} (xs : List α) (lo hi : Option Int) : List α := (xs.drop (slIx xs.length 0 lo)).take (slIx xs.length xs.length hi - slIx xs.length 0 lo)
def slop : PyData → Option Int → Option Int → Option PyData
  | .list xs, lo, hi => some (.list (cutL xs lo hi))
  | .tuple xs, lo, hi => some (.tuple (cutL xs lo hi))
  | .str z, lo, hi => if z.length ≤ lineN then some (.str ⟨(cutL z.cps.toList lo hi).toArray⟩) else none
  | _, _, _ => none

/-- the order of data of one kind -/
def dupFree : List Int → List Int
  | [] => []
  | x :: r => x :: (dupFree r).filter (· ≠ x)
def sortI (xs : List Int) : List Int := xs.mergeSort (fun a b => decide (a ≤ b))

def rangeL (a b : Int) : List PyData := (List.range (b - a).toNat).map fun i => .int (a + (i : Nat))
def rangeOk (a b : Int) : Bool := decide (-(2 ^ 62) ≤ a) && decide (a < 2 ^ 62) && decide (-(2 ^ 62) ≤ b) && decide (b < 2 ^ 62)

def seqItems : PyData → Option (List PyData)
  | .list xs => some xs
  | .tuple xs => some xs
  | _ => none
def eqvCount (xs : List PyData) (k : PyData) : Nat := xs.countP fun z => PyData.eqv z k
def eqvIndex (xs : List PyData) (k : PyData) : Option Nat := xs.findIdx? fun z => PyData.eqv z k
def allAlike (ds : List PyData) : Bool := ds.all fun d => ds.all fun d' => PySem.W.alike d d'
def isTup1 : PyData → Bool
  | .tuple (_ :: _) => true
  | _ => false
def noTup : PyData → Bool
  | .none => false
  | .tuple _ => false
  | _ => true
/-- what Python can sort, as the kit knows it -/
def sortOk (ds : List PyData) : Bool := allAlike ds && (ds.all isTup1 || ds.all noTup) && decide (PyData.depthAll ds ≤ 64)
def sortD (ds : List PyData) : List PyData := ds.mergeSort (PySem.W.dataLe false id)

def lenD : List PyData → Option PyData
  | [.list xs] => some (.int xs.length)
  | [.tuple xs] => some (.int xs.length)
  | [.str x] => if x.length ≤ lineN then some (.int x.length) else none
  | [.dict [(.none, .list xs)]] => some (.int xs.length)
  | _ => none
def sumD : List PyData → Option PyData
  | [.list xs] => (asInts xs).map fun ns => .int ns.sum
  | _ => none
def maxD : List PyData → Option PyData
  | [.int i, .int j] => some (.int (if j > i then j else i))
  | [.list xs] => (asInts xs).bind fun ns => ns.max?.map .int
  | _ => none
def minD : List PyData → Option PyData
  | [.int i, .int j] => some (.int (if j < i then j else i))
  | [.list xs] => (asInts xs).bind fun ns => ns.min?.map .int
  | _ => none
def listD : List PyData → Option PyData
  | [.list xs] => some (.list xs)
  | [.tuple xs] => some (.list xs)
  | _ => none
def tupleD : List PyData → Option PyData
  | [.list xs] => some (.tuple xs)
  | [.tuple xs] => some (.tuple xs)
  | _ => none
def intD : List PyData → Option PyData
  | [.bool b] => some (.int (if b then 1 else 0))
  | [.int i] => some (.int i)
  | _ => none
def absD : List PyData → Option PyData
  | [.int i] => some (.int (if i < 0 then -i else i))
  | _ => none
def sortedD : List PyData → Option PyData
  | [.list xs] => if sortOk xs && PyData.canLayAll0 xs then some (.list (sortD xs)) else none
  | [.tuple xs] => if sortOk xs && PyData.canLayAll0 xs then some (.list (sortD xs)) else none
  | _ => none
def sortedSetD : List PyData → Option PyData
  | [.tuple xs] => if xs.length < 64 then (asInts xs).map fun ns => .list ((sortI (dupFree ns)).map .int) else none
  | _ => none
def listRangeD : List PyData → Option PyData
  | [.int n] => if rangeOk 0 n && decide (n.toNat ≤ lineN) then some (.list (rangeL 0 n)) else none
  | _ => none
def biop : Bi → List PyData → Option PyData
  | .len => lenD
  | .sum => sumD
  | .max => maxD
  | .min => minD
  | .list => listD
  | .tuple => tupleD
  | .int => intD
  | .abs => absD
  | .sorted => sortedD
  | .sortedSet => sortedSetD
  | .listRange1 => listRangeD
  | _ => fun _ => none
def countD (x : PyData) : List PyData → Option PyData
  | [k] => match x with
    | .list xs => if SeqAt.shaped k && SeqAt.shaped (.list xs) then some (.int (eqvCount xs k)) else none
    | .tuple xs => if SeqAt.shaped k && SeqAt.shaped (.tuple xs) then some (.int (eqvCount xs k)) else none
    | _ => none
  | _ => none
def indexD (x : PyData) : List PyData → Option PyData
  | [k] => match x with
    | .list xs => if SeqAt.shaped k && SeqAt.shaped (.list xs) then (eqvIndex xs k).map fun (i : Nat) => .int i else none
    | .tuple xs => if SeqAt.shaped k && SeqAt.shaped (.tuple xs) then (eqvIndex xs k).map fun (i : Nat) => .int i else none
    | _ => none
  | _ => none
def meop : Me → PyData → List PyData → Option PyData
  | .count => countD
  | .index => indexD
  | _ => fun _ _ => none
def isTy : Ty → PyData → Option Bool
  | _, .dict _ => none
  | .int, .int _ => some true
  | .int, .bool _ => some true
  | .bool, .bool _ => some true
  | .str, .str _ => some true
  | .tuple, .tuple _ => some true
  | .list, .list _ => some true
  | _, _ => some false
def partOf : R → Option (Option Int)
  | .ok (.int i) _ => some (some i)
  | _ => none

def Rho.at (ρ : Rho) (i : Nat) : Sl := ρ.getD i .un
def rd (ρ : Rho) (i : Nat) : R := match Rho.at ρ i with
  | .un => .no
  | .own d => .ok d (if imm d = true then none else some [i])
  | .lk d => .ok d (if imm d = true then none else some [i])
  | .vw R d => .ok d (if imm d = true then none else some (i :: R))
/-- stored at a slot -/
def put (ρ : Rho) (i : Nat) (d : PyData) (t : Tn) : Rho := ρ.set i (if imm d = true then .own d else match t with
  | none => .own d
  | some R => .vw R d)
def putAll (ρ : Rho) : List Nat → List PyData → Tn → Option Rho
  | [], [], _ => some ρ
  | i :: is, d :: ds, t => putAll (put ρ i d (if imm d = true then none else some (t.getD []))) is ds t
  | _, _, _ => none
def putTg (ρ : Rho) (tg : Tg) (d : PyData) (t : Tn) : Option Rho := match tg with
  | .one i => some (put ρ i d (if imm d = true then none else some (t.getD [])))
  | .many is => match d with
    | .tuple ds => putAll ρ is ds t
    | _ => none
def wipeR (ρ : Rho) : List Nat → Rho
  | [] => ρ
  | v :: vs => (wipeR ρ vs).set v .un

/-- the loop of a comprehension -/
def lcLoop (cond : Rho → RT) (elt : Rho → R) (tg : Tg) (own : List Nat) (ρ : Rho) (t : Tn) : List PyData → List PyData → List Tn → RL
  | [], acc, ts => .ok acc ts
  | d :: ds, acc, ts => match putTg (wipeR ρ own) tg d t with
    | none => .no
    | some ρ1 => match cond ρ1 with
      | .ok false => lcLoop cond elt tg own ρ t ds acc ts
      | .ok true => match elt ρ1 with
        | .ok x tx => if acc.length < lineN ∧ (tx = none) then lcLoop cond elt tg own ρ t ds (acc ++ [x]) (ts ++ [tx]) else .no
        | _ => .no
      | _ => .no
def enuL (i : Nat) : List PyData → List PyData
  | [] => []
  | d :: ds => .tuple [.int i, d] :: enuL (i + 1) ds
def zipL : List PyData → List PyData → List PyData
  | a :: as, b :: bs => .tuple [a, b] :: zipL as bs
  | _, _ => []

inductive RI where
  | ok (ds : List PyData) (t : Tn)
  | ex (c : Str)
  | no
def tkeys (kvs : List (PyData × PyData)) : List PyData := kvs.map (·.1)

def E.isOmit : E → Bool
  | .omit => true
  | _ => false
def ofR (r : R) : RT := match r with
  | .ok x _ => match truth x with
    | some k => .ok k
    | none => .no
  | .ex c => .ex c
  | .no => .no
def wR (r : R) : R × RT := (r, ofR r)
def R.bind (r : R) (k : PyData → Tn → R) : R := match r with
  | .ok d t => k d t
  | .ex c => .ex c
  | .no => .no
def RL.bindR (r : RL) (k : List PyData → List Tn → R) : R := match r with
  | .ok d t => k d t
  | .ex c => .ex c
  | .no => .no
def RL.bindN (r : RL) (k : List PyData → List Tn → R) : R := match r with
  | .ok d t => k d t
  | _ => .no
def RI.bindR (r : RI) (k : List PyData → Tn → R) : R := match r with
  | .ok d t => k d t
  | .ex c => .ex c
  | .no => .no
def R.bindI (r : R) (k : PyData → Tn → RI) : RI := match r with
  | .ok d t => k d t
  | .ex c => .ex c
  | .no => .no
def RT.bindR (r : RT) (k : Bool → R) : R := match r with
  | .ok b => k b
  | .ex c => .ex c
  | .no => .no
def RT.bind (r : RT) (k : Bool → RT) : RT := match r with
  | .ok b => k b
  | .ex c => .ex c
  | .no => .no
def optR (t : Tn) : Option PyData → R
  | some d => .ok d t
  | none => .no
def optB : Option Bool → R
  | some d => .ok (.bool d) none
  | none => .no
def okR (r : Option PyData) (ts : List Tn) : R := match r with
  | some d => .ok d (tnt d ts)
  | none => .no
def optT : Option Bool → (Bool → R) → R
  | some b, k => k b
  | none, _ => .no
def mkT (ds : List PyData) (ts : List Tn) : Tn := if immL ds = true ∨ ts.all (·.isNone) = true then none else some (ts.flatMap fun t => t.getD [])
def okI (r : Option PyData) (ts : List Tn) : R := match r with
  | some d => .ok d (if imm d = true then none else some (ts.flatMap fun t => t.getD []))
  | none => .no
def revD : PyData → Option PyData
  | .tuple xs => some (.tuple xs.reverse)
  | .list xs => some (.list xs.reverse)
  | _ => none
def negR : PyData → R
  | .int i => .ok (.int (-i)) none
  | _ => .no
def outR : Out → R
  | .ret d _ => .ok d none
  | .ex c _ => .ex c
  | .no => .no
def callR (T : Tab) (f : Nat) (ds : List PyData) : R := if T.io f = true then .no else outR (T.fn f ds)
def slR (x : PyData) (tx : Tn) (l h : Option (Option Int)) : R := match l, h with
  | some l, some h => okR (slop x l h) [tx]
  | _, _ => .no
def lcR : RL → R
  | .ok xs _ => .ok (.list xs) none
  | _ => .no
def itD : PyData → Tn → RI
  | .list xs, t => .ok xs t
  | .tuple xs, t => .ok xs t
  | _, _ => .no
def rngI (a b : Int) : RI := if rangeOk a b = true then .ok (rangeL a b) none else .no
def rng1D : PyData → RI
  | .int n => rngI 0 n
  | _ => .no
def rng2D : PyData → PyData → RI
  | .int m, .int n => rngI m n
  | _, _ => .no
def enuD : PyData → Tn → RI
  | .list xs, t => .ok (enuL 0 xs) t
  | _, _ => .no
def zipD : PyData → Tn → PyData → Tn → RI
  | .tuple xs, t, .tuple ys, t' => .ok (zipL xs ys) (some (t.getD [] ++ t'.getD []))
  | _, _, _, _ => .no

mutual
def evB (T : Tab) : E → Rho → R × RT
  | .v i, ρ => wR (rd ρ i)
  | .c d, ρ => wR (.ok d none)
  | .g k, ρ => wR (optR none (T.consts k))
  | .bin o a b, ρ => wR ((evB T a ρ).1.bind fun x tx => (evB T b ρ).1.bind fun y ty => okR (bop o x y) [tx, ty])
  | .neg a, ρ => wR ((evB T a ρ).1.bind fun x _ => negR x)
  | .cmp o a b, ρ => wR ((evB T a ρ).1.bind fun x tx => (evB T b ρ).1.bind fun y ty => optB (cop o x y))
  | .chain o o' a b c, ρ => wR ((evB T a ρ).1.bind fun x tx => (evB T b ρ).1.bind fun y ty => optT (cop o x y) fun k =>
      if k = true then (evB T c ρ).1.bind fun z tz => optB (cop o' y z) else .ok (.bool false) none)
  | .and2 a b, ρ => ((evB T a ρ).1.bind fun x tx => optT (truth x) fun k => if k = true then (evB T b ρ).1 else .ok x tx,
      (evB T a ρ).2.bind fun k => if k = true then (evB T b ρ).2 else .ok false)
  | .or2 a b, ρ => ((evB T a ρ).1.bind fun x tx => optT (truth x) fun k => if k = true then .ok x tx else (evB T b ρ).1,
      (evB T a ρ).2.bind fun k => if k = true then .ok true else (evB T b ρ).2)
  | .one a, ρ => evB T a ρ
  | .not1 a, ρ => ((evB T a ρ).1.bind fun x tx => optT (truth x) fun k => .ok (.bool (!k)) none, (evB T a ρ).2.bind fun k => .ok (!k))
  | .ife t a b, ρ => ((evB T t ρ).2.bindR fun k => if k = true then (evB T a ρ).1 else (evB T b ρ).1, .no)
  | .ix a b, ρ => wR ((evB T a ρ).1.bind fun x tx => (evB T b ρ).1.bind fun y ty => okI (ixop x y) [tx, ty])
  | .sl a lo hi, ρ => wR ((evB T a ρ).1.bind fun x tx => slR x tx (if lo.isOmit = true then some none else partOf (evB T lo ρ).1) (if hi.isOmit = true then some none else partOf (evB T hi ρ).1))
  | .rev a, ρ => wR ((evB T a ρ).1.bind fun x tx => okR (revD x) [tx])
  | .omit, ρ => wR .no
  | .tup es, ρ => wR ((evL T es ρ).bindR fun ds ts => if ds.length ≤ lineN then .ok (.tuple ds) (mkT ds ts) else .no)
  | .lst es, ρ => wR ((evL T es ρ).bindR fun ds ts => if ds.length ≤ lineN then .ok (.list ds) (mkT ds ts) else .no)
  | .dic0, ρ => wR (.ok (.dict []) none)
  | .call f es, ρ => wR ((evL T es ρ).bindR fun ds ts => callR T f ds)
  | .bi b es, ρ => wR ((evL T es ρ).bindR fun ds ts => okR (biop b ds) ts)
  | .me m o es, ρ => wR ((evB T o ρ).1.bind fun x tx => (evL T es ρ).bindN fun ds ts => okR (meop m x ds) (tx :: ts))
  | .isi a t, ρ => wR ((evB T a ρ).1.bind fun x tx => optB (isTy t x))
  | .lc elt tg it cond own, ρ => wR ((evI T it ρ).bindR fun ds t => lcR (lcLoop (fun ρ1 => if cond.isOmit = true then .ok true else (evB T cond ρ1).2) (fun ρ1 => (evB T elt ρ1).1) tg (own.map (·.2)) ρ t ds [] []))
def evL (T : Tab) : EL → Rho → RL
  | .nil, ρ => .ok [] []
  | .cons e es, ρ => match (evB T e ρ).1 with
    | .ok d t => match evL T es ρ with
      | .ok ds ts => .ok (d :: ds) (t :: ts)
      | .ex c => .ex c
      | .no => .no
    | .ex c => .ex c
    | .no => .no
def evI (T : Tab) : It → Rho → RI
  | .ex e, ρ => (evB T e ρ).1.bindI itD
  | .rng a, ρ => (evB T a ρ).1.bindI fun x _ => rng1D x
  | .rng2 a b, ρ => (evB T a ρ).1.bindI fun x _ => (evB T b ρ).1.bindI fun y _ => rng2D x y
  | .enu e, ρ => (evB T e ρ).1.bindI enuD
  | .zip a b, ρ => (evB T a ρ).1.bindI fun x t => (evB T b ρ).1.bindI fun y t' => zipD x t y t'
end
def ev (T : Tab) (e : E) (ρ : Rho) : R := (evB T e ρ).1
def evT (T : Tab) (e : E) (ρ : Rho) : RT := (evB T e ρ).2
end PD
set_option maxHeartbeats 4000000
namespace PD
open PySem PySem.Spec PyProof.Rows L2

/-! ## tuples known to their objects -/
def tupO (us : List Value) : Obj := { cls := .type "tuple", data := .seq us.toArray }
section
variable {X : Cx} {pins : List (Addr × Obj)} {σ : L2.St} {H : Hp} {s : Shared}
/-- a new tuple is laid -/
theorem laidT {xs : List V} {us : List Value} {h' : Heap} {t' : Nat} {a : Addr} (I : Inv X pins σ H s) (k : ∀ b u, s.heap.get? b = some u → h'.get? b = some u) (ha : s.heap.objs.size ≤ a) (ho : h'.get? a = some (tupO us)) (r : Vals xs us) (hz : xs.length ≤ sizeLine) :
    Inv X pins σ (upd H a (.frz (tupO us) (.tup xs))) { s with heap := h', toks := t' } :=
  I.laid k ha ⟨ho, hz, us, r, ⟨_, ho, rfl, _, rfl⟩⟩
/-- what a new tuple is to its maker -/
def NewT (H : Hp) (xs : List V) (Q : VK) : Prop := ∀ p o, H p = none → o.dict = none → Q (.ref p) (upd H p (.frz o (.tup xs)))
theorem NewT.ep {xs : List V} {us : List Value} {h' : Heap} {t' : Nat} {a : Addr} {Q : VK} (q : NewT H xs Q) (I : Inv X pins σ H s) (k : ∀ b u, s.heap.get? b = some u → h'.get? b = some u) (ha : s.heap.objs.size ≤ a) (ho : h'.get? a = some (tupO us)) (r : Vals xs us) (hz : xs.length ≤ sizeLine) :
    EP X pins σ Q (.ref a) { s with heap := h', toks := t' } :=
  ⟨.ref a, _, laidT I k ha ho r hz, rfl, q a (tupO us) (I.hok.fresh ha) rfl⟩
end
section
variable {X : Cx}
def rCatF (K : PySem.W.Frag) : R2 := fun x y H Q => ∃ a b xs ys, x = .ref a ∧ y = .ref b ∧ SqT K H a xs ∧ SqT K H b ys ∧ xs.length + ys.length ≤ sizeLine ∧
  (xs = [] → Q (.ref b) H) ∧ (xs ≠ [] → ys = [] → Q (.ref a) H) ∧ (xs ≠ [] → ys ≠ [] → NewT H (xs ++ ys) Q)
theorem op_catF : OpR X (binaryOp .Add) (rCatF X.K) := by
  intro pins s σ H x y v u Q I rx ry h
  obtain ⟨a, b, xs, ys, rfl, rfl, ha, hb, hz, q0, q1, q2⟩ := h
  cases rx
  cases ry
  obtain ⟨its, r1, p1, _⟩ := I.tuple ha
  obtain ⟨its2, r2, p2, _⟩ := I.tuple hb
  by_cases hx : xs = []
  · subst hx
    cases r1
    exact cat_tup0 p1 p2 ⟨.ref b, H, I, rfl, q0 rfl⟩
  · refine HT.cat_tup p1 p2 (fun z => hx (r1.nil_iff.mp z)) (fun z => ⟨.ref a, H, I, rfl, q1 hx (r2.nil_iff.mp z)⟩) (fun z => ?_) (by rw [← r1.length, ← r2.length]; exact hz)
    exact (q2 hx fun w => z (r2.nil_iff.mpr w)).ep (t' := s.toks) I (fun b o q => Heap.get?_push_of_some _ q) (Nat.le_refl _) (Heap.get?_push_size _ rfl) (r1.append r2) (by rw [List.length_append]; exact hz)
def rSlF (K : PySem.W.Frag) : V → Option Int → Option Int → Hp → VK → Prop := fun x lo hi H Q => ∃ a xs, x = .ref a ∧ SqT K H a xs ∧
  (HT.sIx xs.length 0 lo = 0 ∧ HT.sIx xs.length xs.length hi = xs.length → Q (.ref a) H) ∧ (¬ (HT.sIx xs.length 0 lo = 0 ∧ HT.sIx xs.length xs.length hi = xs.length) → NewT H (cutV xs lo hi) Q)
theorem sl_tupF : SlR X (rSlF X.K) := by
  intro pins s σ H x v vl vu lo hi sl Q I rx hs pl pu h
  obtain ⟨a, xs, rfl, hx, q1, q2⟩ := h
  cases rx
  obtain ⟨its, r, ht, hz⟩ := I.tuple hx
  have hlen : its.toArray.size = xs.length := by rw [List.size_toArray]; exact r.length.symm
  refine ⟨"tuple", _, PyProof.Rows.slot_tuple_getitem.lookup, ht.typeIs, ?_⟩
  by_cases hw : HT.sIx xs.length 0 lo = 0 ∧ HT.sIx xs.length xs.length hi = xs.length
  · exact getItem_tuple_whole ht hs pl pu (by rw [hlen]; exact hw) ⟨.ref a, H, I, rfl, q1 hw⟩
  · refine HT.getItem_tuple_cut ht hs pl pu (by rw [hlen]; exact hw) ?_ (by rw [hlen]; exact hz)
    rw [hlen]
    exact (q2 hw).ep (t' := s.toks) I (fun b o q => Heap.get?_push_of_some _ q) (Nat.le_refl _) (Heap.get?_push_size _ rfl) ((r.drop (HT.sIx xs.length 0 lo)).take (HT.sIx xs.length xs.length hi - HT.sIx xs.length 0 lo)) (Nat.le_trans (cutV_length xs lo hi) hz)
theorem call_tupleF : CallR X (.type "tuple") (fun xs H Q => ∃ p ys, xs = [.ref p] ∧ ((SqL X.K H p ys ∧ NewT H ys Q) ∨ (SqT X.K H p ys ∧ Q (.ref p) H))) := by
  intro pins s σ H xs us Q I r h
  obtain ⟨p, ys, rfl, h⟩ := h
  obtain ⟨u, rfl, rx⟩ := vals1 r
  cases rx
  rcases h with ⟨hq, q⟩ | ⟨hq, q⟩
  · obtain ⟨its, r', pl, hz⟩ := I.list hq
    have hlen := r'.length
    refine call_tuple_list pl.isList (fun h' kp => ?_) (by simp only [List.size_toArray] <;> omega)
    have I1 : Inv X pins σ H { s with heap := h' } := I.kept (t' := s.toks) kp
    exact NewT.ep (s := { s with heap := h' }) (t' := s.toks) q I1 (fun b o e => Heap.get?_push_of_some _ e) (Nat.le_refl _) (Heap.get?_push_size _ rfl) r' hz
  · obtain ⟨its, r', pl, hz⟩ := I.tuple hq
    exact call_tuple_same pl ⟨.ref p, H, I, rfl, q⟩
def tTupF (t : TA) : TE := fun σ H Q => t σ H fun xs H1 => xs.length ≤ sizeLine ∧ NewT H1 xs Q
theorem pe_tupF {es : List Expr} {t : TA} {pos : Pos} {x1} (h : PA X es t) : PE X (.Tuple es x1 pos) (tTupF t) := by
  refine ⟨fun pins s σ H Q I hq => ?_⟩
  refine wpAny_Tuple_spliced (thn (h.run pos pins s σ H _ I hq) fun us s1 ⟨xs, H1, I1, r, z, q⟩ => ⟨by rw [← r.length]; exact z, ?_⟩)
  exact q.ep (t' := s1.toks) I1 (fun b u e => Heap.get?_push_of_some _ e) (Nat.le_refl _) (Heap.get?_push_size _ rfl) r z
def rRepF (K : PySem.W.Frag) : R2 := fun x y H Q => ∃ l k xs, x = .ref l ∧ y = .int k ∧ SqT K H l xs ∧ xs ≠ [] ∧ 2 ≤ k ∧ k ≤ 1000 ∧ xs.length ≤ 1000 ∧ NewT H (List.replicate k.toNat xs).flatten Q
theorem op_repF : OpR X (binaryOp .Mult) (rRepF X.K) := by
  intro pins s σ H x y v u Q I rx ry h
  obtain ⟨l, k, xs, rfl, rfl, hT, hne, h1, h2, hz, q⟩ := h
  cases rx
  obtain ⟨t, rfl⟩ := ry
  obtain ⟨its, r, ⟨⟨cls, dd, data, sl⟩, ho, hc, n, hd⟩, hs⟩ := I.tuple hT
  simp only at hc hd
  subst hc hd
  have hle : its.length = xs.length := r.length.symm
  have hn : its ≠ [] := fun e => hne (by
    rw [e] at hle
    exact List.eq_nil_of_length_eq_zero hle.symm)
  have hi : its.toArray.isEmpty = false := by
    cases its with
    | nil => exact absurd rfl hn
    | cons a b => rfl
  have hsz0 : its.toArray.size = xs.length := by rw [List.size_toArray, hle]
  have hm : ((its.toArray.size : Nat) : Int) * k ≤ 1000000 := by
    rw [hsz0]
    have a1 : ((xs.length : Nat) : Int) * k ≤ 1000 * k := Int.mul_le_mul_of_nonneg_right (by omega) (by omega)
    omega
  have flen : (List.replicate k.toNat its).flatten.length ≤ sizeLine := by
    rw [PyProof.Rows.lm_len_rep_flat, hle, sizeLine_eq]
    have a1 : k.toNat * xs.length ≤ 1000 * 1000 := Nat.mul_le_mul (by omega) hz
    omega
  have c0 : (decide (k < -(2 ^ 63)) || decide (k ≥ 2 ^ 63)) = false := by
    rw [decide_eq_false (by omega), decide_eq_false (by omega)] <;> rfl
  have c1 : (its.toArray.isEmpty || k == 1) = false := by
    rw [hi, Bool.false_or]
    exact beq_eq_false_iff_ne.mpr (by omega)
  have c2 : (decide (k ≤ 0) || its.toArray.isEmpty) = false := by
    rw [hi, Bool.or_false]
    exact decide_eq_false (by omega)
  have c4 : Builtin.Tuple.tupleTooMany (((its.toArray.size : Nat) : Int) * k) = false := by
    unfold Builtin.Tuple.tupleTooMany
    rw [sizeLine_eq]
    exact decide_eq_false (by omega)
  refine wpAny_binaryOp_repeat_ref (T := "tuple") (U := "int") (by decide) ⟨_, ho, rfl⟩ (fun s' => typeIs_int s' k t) noFill_tuple_mul F.fills_int_mul F.slot_int_rmul repeat_tuple F.slot_int_index.lookup
    (call_meets F.slot_int_rmul (typeIs_int s k t) F.entry_int_rmul (F.args_int_rmul_2 _ _) (int_rmul_tuple k t l its.toArray n dd sl)
      ⟨ho, rfl, ⟨_, ho, rfl⟩, call_meets F.slot_tuple_mul ⟨_, ho, rfl⟩ F.entry_tuple_mul (F.args_tuple_mul_2 _ _) (tuple_mulW l its.toArray n dd sl k t c0 c1 c2 (by omega) c4 (by rw [size_rep, List.size_toArray]; exact flen)) ⟨ho, ?_⟩⟩)
  rw [size_rep]
  exact q.ep (t' := s.toks) I (fun b ob q => Heap.get?_push_of_some _ q) (Nat.le_refl _) (Heap.get?_push_size _ rfl) (r.rep k.toNat) (by rw [PyProof.Rows.lm_len_rep_flat, sizeLine_eq]; have a1 : k.toNat * xs.length ≤ 1000 * 1000 := Nat.mul_le_mul (by omega) hz; omega)
end
end PD
set_option maxHeartbeats 4000000
namespace PD
open PySem PySem.Spec PyProof.Rows L2

theorem line_eq : lineN = sizeLine := by rw [sizeLine_eq]; rfl
theorem line_lt : lineN < 2 ^ 63 := by decide

section
variable {K : PySem.W.Frag} {P : Program} {w : World} {H : Hp}
theorem same_upd {p : Addr} {o : HO} (hp : H p = none) : Same H (upd H p o) := fun b u e => by rw [upd_ne (ne_of_none e hp)]; exact e
theorem res_atom {F0 : List Addr} {v : V} {r : PyData} (h : Rp K P w H v r []) : Res (K := K) (P := P) (w := w) H H F0 v r [] :=
  ⟨h, fun _ => by simp, fun a ha => by simp at ha⟩
theorem res_old {F0 F : List Addr} {v : V} {r : PyData} (h : Rp K P w H v r F) (hi : ∀ a ∈ F, a ∈ F0) (hl : ∀ xs, r ≠ .list xs) : Res (K := K) (P := P) (w := w) H H F0 v r F := by
  refine ⟨h, fun i => ?_, fun a ha => .inr (hi a ha)⟩
  have e : imm r = true := by
    cases r with
    | list xs => exact absurd rfl (hl xs)
    | _ => exact i
  rw [h.imm e]
  simp
theorem res_old' {F0 F : List Addr} {v : V} {r : PyData} (h : Rp K P w H v r F) (hi : ∀ a ∈ F, a ∈ F0) (hl : imm1 r = imm r) : Res (K := K) (P := P) (w := w) H H F0 v r F := by
  refine ⟨h, fun i => ?_, fun a ha => .inr (hi a ha)⟩
  rw [h.imm (by rw [← hl]; exact i)]
  simp
theorem res_lst {F0 F : List Addr} {xs : List V} {ds : List PyData} {p : Addr} (hp : H p = none) (h : RpL K P w H xs ds F) (hi : ∀ a ∈ F, a ∈ F0) : Res (K := K) (P := P) (w := w) H (upd H p (.lst xs)) F0 (.ref p) (.list ds) (p :: F) := by
  refine ⟨.lst upd_same (h.same (same_upd hp)), fun i => ?_, fun a ha => ?_⟩
  · have e : F = [] := h.imm i
    subst e
    refine ⟨fun a ha => ?_, by simp⟩
    have e : a = p := by simpa using ha
    subst e
    exact ⟨hp, by rw [upd_same]; trivial⟩
  · rcases List.mem_cons.mp ha with e | z
    · subst e; exact .inl hp
    · exact .inr (hi a z)
theorem res_tup {F0 F : List Addr} {xs : List V} {ds : List PyData} {p : Addr} {o : Obj} (hp : H p = none) (ho : o.dict = none) (h : RpL K P w H xs ds F) (hi : ∀ a ∈ F, a ∈ F0) : Res (K := K) (P := P) (w := w) H (upd H p (.frz o (.tup xs))) F0 (.ref p) (.tuple ds) F := by
  refine ⟨.tup (.inl ⟨o, upd_same, ho⟩) (h.same (same_upd hp)), fun i => ?_, fun a ha => .inr (hi a ha)⟩
  have e : F = [] := h.imm i
  subst e
  simp
end

/-- two values in, one out -/
def rB (K : PySem.W.Frag) (P : Program) (w : World) (f : PyData → PyData → Option PyData) : R2 := fun x y H Q =>
  ∃ d e F G r, Rp K P w H x d F ∧ Rp K P w H y e G ∧ f d e = some r ∧ ∀ v H' L, Same H H' → Res (K := K) (P := P) (w := w) H H' (F ++ G) v r L → Q v H'

section
variable {X : Cx}
theorem opb_sub : OpR X (binaryOp .Sub) (rB X.K X.prog X.w subD) := by
  intro pins s σ H x y v u Q I rx ry h
  obtain ⟨d, e, F, G, r, hx, hy, hf, k⟩ := h
  unfold subD at hf
  split at hf
  · cases hx; cases hy; cases hf
    exact op_sub pins s σ H _ _ v u Q I rx ry ⟨_, _, rfl, rfl, k _ _ _ (Same.refl _) (res_atom (.int _))⟩
  · cases hf
theorem opb_add : OpR X (binaryOp .Add) (rB X.K X.prog X.w addD) := by
  intro pins s σ H x y v u Q I rx ry h
  obtain ⟨d, e, F, G, r, hx, hy, hf, k⟩ := h
  unfold addD at hf
  split at hf
  · cases hx; cases hy; cases hf
    exact op_add pins s σ H _ _ v u Q I rx ry ⟨_, _, rfl, rfl, k _ _ _ (Same.refl _) (res_atom (.int _))⟩
  · split at hf
    · rename_i hz
      cases hx; cases hy; cases hf
      exact op_add_str pins s σ H _ _ v u Q I rx ry ⟨_, _, rfl, rfl, by rw [← line_eq]; exact hz, k _ _ _ (Same.refl _) (res_atom (.str _))⟩
    · cases hf
  · split at hf
    · rename_i hz
      cases hf
      cases hx with
      | lst h1 h2 =>
        cases hy with
        | lst g1 g2 =>
          refine op_cat pins s σ H _ _ v u Q I rx ry ⟨_, _, _, _, rfl, rfl, h1, g1, by rw [h2.length, g2.length, ← line_eq]; exact hz, fun p hp => k _ _ _ (same_upd hp) (res_lst hp (h2.append g2) fun a ha => ?_)⟩
          simp only [List.cons_append, List.mem_cons, List.mem_append] at ha ⊢
          rcases ha with z | z
          · exact .inr (.inl z)
          · exact .inr (.inr (.inr z))
    · cases hf
  · split at hf
    · rename_i hz
      cases hf
      cases hx with
      | tup h1 h2 =>
        cases hy with
        | tup g1 g2 =>
          refine op_catF pins s σ H _ _ v u Q I rx ry ⟨_, _, _, _, rfl, rfl, h1.sq, g1.sq, by rw [h2.length, g2.length, ← line_eq]; exact hz, fun e => ?_, fun n e => ?_, fun _ _ p ob hp ho => k _ _ _ (same_upd hp) (res_tup hp ho (h2.append g2) fun a ha => ha)⟩
          · subst e
            cases h2
            exact k _ _ _ (Same.refl _) (res_old' (.tup g1 g2) (fun a ha => by simp [ha]) rfl)
          · subst e
            cases g2
            rw [List.append_nil, List.append_nil] at k
            exact k _ _ _ (Same.refl _) (res_old' (.tup h1 h2) (fun a ha => by simp [ha]) rfl)
    · cases hf
  · cases hf
theorem small64_of {i : Int} (h : small64 i = true) : -(2 ^ 64) < i ∧ i < 2 ^ 64 := by
  unfold small64 at h
  simpa using h
theorem rep_mem {α : Type} {k : Int} {xs : List α} {x : α} (h : x ∈ rep k xs) : x ∈ xs := by
  unfold rep at h
  obtain ⟨l, h1, h2⟩ := List.mem_flatten.mp h
  rw [(List.mem_replicate.mp h1).2] at h2
  exact h2
theorem RpL.rep {K : PySem.W.Frag} {P : Program} {w : World} {H : Hp} {xs : List V} {ds : List PyData} {F : List Addr} (h : RpL K P w H xs ds F) : ∀ (n : Nat), ∃ G, RpL K P w H (List.replicate n xs).flatten (List.replicate n ds).flatten G ∧ ∀ a ∈ G, a ∈ F
  | 0 => ⟨[], .nil, fun a ha => by simp at ha⟩
  | n + 1 => by
    obtain ⟨G, h1, h2⟩ := RpL.rep h n
    refine ⟨F ++ G, by simp only [List.replicate_succ, List.flatten_cons]; exact h.append h1, fun a ha => ?_⟩
    rcases List.mem_append.mp ha with z | z
    · exact z
    · exact h2 a z
theorem opb_mul : OpR X (binaryOp .Mult) (rB X.K X.prog X.w mulD) := by
  intro pins s σ H x y v u Q I rx ry h
  obtain ⟨d, e, F, G, r, hx, hy, hf, k⟩ := h
  unfold mulD at hf
  split at hf
  · split at hf
    · rename_i hz
      cases hx; cases hy; cases hf
      refine op_mul pins s σ H _ _ v u Q I rx ry ⟨_, _, rfl, rfl, ?_, k _ _ _ (Same.refl _) (res_atom (.int _))⟩
      rcases Bool.or_eq_true_iff.mp hz with z | z
      · exact .inl (small64_of z)
      · exact .inr (small64_of z)
    · cases hf
  · split at hf
    · rename_i hz
      cases hf
      cases hx with
      | lst h1 h2 =>
        cases hy
        obtain ⟨L, g1, g2⟩ := h2.rep (Int.toNat _)
        exact op_rep pins s σ H _ _ v u Q I rx ry ⟨_, _, _, rfl, rfl, h1, hz.1, hz.2.1, by rw [h2.length, ← line_eq]; exact hz.2.2, fun p hp => k _ _ _ (same_upd hp) (res_lst hp g1 fun a ha => by simp [g2 a ha])⟩
    · cases hf
  · split at hf
    · rename_i hz
      cases hf
      cases hx with
      | tup h1 h2 =>
        cases hy
        obtain ⟨L, g1, g2⟩ := h2.rep (Int.toNat _)
        refine op_repF pins s σ H _ _ v u Q I rx ry ⟨_, _, _, rfl, rfl, h1.sq, fun e => hz.1 ?_, hz.2.1, hz.2.2.1, by rw [h2.length]; exact hz.2.2.2, fun p ob hp ho => k _ _ _ (same_upd hp) (res_tup hp ho g1 fun a ha => by simp [g2 a ha])⟩
        have := h2.length
        rw [e] at this
        exact List.eq_nil_of_length_eq_zero this.symm
    · cases hf
  · cases hf
theorem opb_fdiv : OpR X (binaryOp .FloorDiv) (rB X.K X.prog X.w fdivD) := by
  intro pins s σ H x y v u Q I rx ry h
  obtain ⟨d, e, F, G, r, hx, hy, hf, k⟩ := h
  unfold fdivD at hf
  split at hf
  · split at hf
    · rename_i hz
      cases hx; cases hy; cases hf
      exact op_fdivN pins s σ H _ _ v u Q I rx ry ⟨_, _, rfl, rfl, hz, k _ _ _ (Same.refl _) (res_atom (.int _))⟩
    · cases hf
  · cases hf
theorem opb_mod : OpR X (binaryOp .Mod) (rB X.K X.prog X.w modD) := by
  intro pins s σ H x y v u Q I rx ry h
  obtain ⟨d, e, F, G, r, hx, hy, hf, k⟩ := h
  unfold modD at hf
  split at hf
  · split at hf
    · rename_i hz
      cases hx; cases hy; cases hf
      exact op_modN pins s σ H _ _ v u Q I rx ry ⟨_, _, rfl, rfl, hz, k _ _ _ (Same.refl _) (res_atom (.int _))⟩
    · cases hf
  · cases hf
theorem opb_pow : OpR X (binaryOp .Pow) (rB X.K X.prog X.w powD) := by
  intro pins s σ H x y v u Q I rx ry h
  obtain ⟨d, e, F, G, r, hx, hy, hf, k⟩ := h
  unfold powD at hf
  split at hf
  · split at hf
    · rename_i hz
      cases hx; cases hy; cases hf
      exact op_pow pins s σ H _ _ v u Q I rx ry ⟨_, _, rfl, rfl, hz, k _ _ _ (Same.refl _) (res_atom (.int _))⟩
    · cases hf
  · cases hf
def Bop.op : Bop → Operator
  | .add => .Add
  | .sub => .Sub
  | .mul => .Mult
  | .fdiv => .FloorDiv
  | .mod => .Mod
  | .pow => .Pow
theorem opb (o : Bop) : OpR X (binaryOp o.op) (rB X.K X.prog X.w (bop o)) := by
  cases o
  · exact opb_add
  · exact opb_sub
  · exact opb_mul
  · exact opb_fdiv
  · exact opb_mod
  · exact opb_pow
end

/-! ## comparisons -/
def rC (K : PySem.W.Frag) (P : Program) (w : World) (f : PyData → PyData → Option Bool) : R2 := fun x y H Q =>
  ∃ d e F G r, Rp K P w H x d F ∧ Rp K P w H y e G ∧ f d e = some r ∧ Q (.bl r) H
section
variable {X : Cx}
theorem map_not {o : Option Bool} {r : Bool} (h : o.map (!·) = some r) : o = some (!r) := by
  cases o with
  | none => cases h
  | some b => cases h; simp
theorem opc_eq (hu : X.A.units + 66 < cLine) : OpR X (compareOp .Eq) (rC X.K X.prog X.w (cop .eq)) := by
  intro pins s σ H x y v u Q I rx ry h
  obtain ⟨d, e, F, G, r, hx, hy, hf, k⟩ := h
  have hf : eqD d e = some r := hf
  unfold eqD at hf
  split at hf
  · rename_i hz
    cases hf
    obtain ⟨z1, z2⟩ := Bool.and_eq_true_iff.mp hz
    exact op_eqD (by omega) pins s σ H x y v u Q I rx ry ⟨d, e, hx.dp z1, hy.dp z2, z1, z2, k⟩
  · cases hf
theorem opc_ne (hu : X.A.units + 66 < cLine) : OpR X (compareOp .NotEq) (rC X.K X.prog X.w (cop .ne)) := by
  intro pins s σ H x y v u Q I rx ry h
  obtain ⟨d, e, F, G, r, hx, hy, hf, k⟩ := h
  have hf := map_not hf
  unfold eqD at hf
  split at hf
  · rename_i hz
    have hr : PyData.eqv d e = !r := Option.some.inj hf
    obtain ⟨z1, z2⟩ := Bool.and_eq_true_iff.mp hz
    exact op_neD (by omega) pins s σ H x y v u Q I rx ry ⟨d, e, hx.dp z1, hy.dp z2, z1, z2, by rw [hr, Bool.not_not]; exact k⟩
  · cases hf
theorem opc_lt : OpR X (compareOp .Lt) (rC X.K X.prog X.w (cop .lt)) := by
  intro pins s σ H x y v u Q I rx ry h
  obtain ⟨d, e, F, G, r, hx, hy, hf, k⟩ := h
  have hf : ltD d e = some r := hf
  unfold ltD at hf
  split at hf
  · cases hx; cases hy; cases hf
    exact op_lt pins s σ H _ _ v u Q I rx ry ⟨_, _, rfl, rfl, k⟩
  · cases hf
theorem opc_le : OpR X (compareOp .LtE) (rC X.K X.prog X.w (cop .le)) := by
  intro pins s σ H x y v u Q I rx ry h
  obtain ⟨d, e, F, G, r, hx, hy, hf, k⟩ := h
  have hf : leD d e = some r := hf
  unfold leD at hf
  split at hf
  · cases hx; cases hy; cases hf
    exact op_le pins s σ H _ _ v u Q I rx ry ⟨_, _, rfl, rfl, k⟩
  · cases hf
theorem opc_gt : OpR X (compareOp .Gt) (rC X.K X.prog X.w (cop .gt)) := by
  intro pins s σ H x y v u Q I rx ry h
  obtain ⟨d, e, F, G, r, hx, hy, hf, k⟩ := h
  have hf : ltD e d = some r := hf
  unfold ltD at hf
  split at hf
  · cases hx; cases hy; cases hf
    exact op_gt pins s σ H _ _ v u Q I rx ry ⟨_, _, rfl, rfl, k⟩
  · cases hf
theorem opc_ge : OpR X (compareOp .GtE) (rC X.K X.prog X.w (cop .ge)) := by
  intro pins s σ H x y v u Q I rx ry h
  obtain ⟨d, e, F, G, r, hx, hy, hf, k⟩ := h
  have hf : leD e d = some r := hf
  unfold leD at hf
  split at hf
  · cases hx; cases hy; cases hf
    exact op_ge pins s σ H _ _ v u Q I rx ry ⟨_, _, rfl, rfl, k⟩
  · cases hf
theorem Rp.is_none {K : PySem.W.Frag} {P : Program} {w : World} {H : Hp} {x : V} {d : PyData} {F : List Addr} (h : Rp K P w H x d F) : decide (x = .non) = isNoneD d := by
  cases h <;> simp [isNoneD]
theorem isD_cases {d e : PyData} {r : Bool} (h : isD d e = some r) : (e = .none ∧ r = isNoneD d) ∨ (∃ a b, d = .bool a ∧ e = .bool b ∧ r = decide (a = b)) ∨ ∃ i b, d = .int i ∧ e = .bool b ∧ r = false := by
  unfold isD at h
  split at h
  · cases h; exact .inl ⟨rfl, rfl⟩
  · cases h; exact .inr (.inl ⟨_, _, rfl, rfl, rfl⟩)
  · cases h; exact .inr (.inr ⟨_, _, rfl, rfl, rfl⟩)
  · cases h
theorem op_isIB : OpR X (compareOp .Is) (fun x y H Q => ∃ i b, x = .int i ∧ y = .bl b ∧ Q (.bl false) H) := by
  intro pins s σ H x y v u Q I rx ry h
  obtain ⟨i, b, rfl, rfl, q⟩ := h
  obtain ⟨t, rfl⟩ := rx
  cases (show u = Value.bool b from ry)
  exact wpAny_is_other rfl (fun z => by cases z) ⟨.bl false, H, I, rfl, q⟩
theorem op_notIB : OpR X (compareOp .IsNot) (fun x y H Q => ∃ i b, x = .int i ∧ y = .bl b ∧ Q (.bl true) H) := by
  intro pins s σ H x y v u Q I rx ry h
  obtain ⟨i, b, rfl, rfl, q⟩ := h
  obtain ⟨t, rfl⟩ := rx
  cases (show u = Value.bool b from ry)
  exact wpAny_isNot_other rfl (fun z => by cases z) ⟨.bl true, H, I, rfl, q⟩
theorem opc_is : OpR X (compareOp .Is) (rC X.K X.prog X.w (cop .is)) := by
  intro pins s σ H x y v u Q I rx ry h
  obtain ⟨d, e, F, G, r, hx, hy, hf, k⟩ := h
  rcases isD_cases hf with ⟨rfl, rfl⟩ | ⟨a, b, rfl, rfl, rfl⟩ | ⟨i, b, rfl, rfl, rfl⟩
  · cases hy
    exact op_isN pins s σ H _ _ v u Q I rx ry ⟨rfl, by rw [hx.is_none]; exact k⟩
  · cases hx; cases hy
    exact op_isBl pins s σ H _ _ v u Q I rx ry ⟨_, _, rfl, rfl, k⟩
  · cases hx; cases hy
    exact op_isIB pins s σ H _ _ v u Q I rx ry ⟨_, _, rfl, rfl, k⟩
theorem opc_isnot : OpR X (compareOp .IsNot) (rC X.K X.prog X.w (cop .isnot)) := by
  intro pins s σ H x y v u Q I rx ry h
  obtain ⟨d, e, F, G, r, hx, hy, hf, k⟩ := h
  have e : r = !(!r) := (Bool.not_not r).symm
  rcases isD_cases (map_not hf) with ⟨rfl, q⟩ | ⟨a, b, rfl, rfl, q⟩ | ⟨i, b, rfl, rfl, q⟩
  · cases hy
    exact op_notN pins s σ H _ _ v u Q I rx ry ⟨rfl, by rw [hx.is_none, ← q, Bool.not_not]; exact k⟩
  · cases hx; cases hy
    exact op_notBl pins s σ H _ _ v u Q I rx ry ⟨_, _, rfl, rfl, by rw [← q, Bool.not_not]; exact k⟩
  · cases hx; cases hy
    have e3 : r = true := by
      rw [e, q]; rfl
    rw [e3] at k
    exact op_notIB pins s σ H _ _ v u Q I rx ry ⟨_, _, rfl, rfl, k⟩
theorem in_room {d : PyData} {ds : List PyData} (se : SeqAt.shaped d = true) (hu : X.A.units + 66 < cLine) : X.A.units + 1 + min (PyData.depthAll ds) d.depth < cLine := room_in_shaped se (by omega)
theorem inD_cases {d e : PyData} {r : Bool} (h : inD d e = some r) : (∃ x y, d = .str x ∧ e = .str y ∧ r = inStr x y) ∨
    (∃ xs, (e = .list xs ∨ e = .tuple xs) ∧ SeqAt.shaped d = true ∧ PyData.canLayAll0 xs = true ∧ r = xs.any fun z => PyData.eqv z d) := by
  unfold inD at h
  split at h
  · cases h; exact .inl ⟨_, _, rfl, rfl, rfl⟩
  · split at h
    · rename_i hz
      cases h
      obtain ⟨z1, z2⟩ := Bool.and_eq_true_iff.mp hz
      exact .inr (⟨_, .inl rfl, z1, by simpa [PyData.canLay0] using SeqAt.canLay_of_shaped z2, rfl⟩)
    · cases h
  · split at h
    · rename_i hz
      cases h
      obtain ⟨z1, z2⟩ := Bool.and_eq_true_iff.mp hz
      exact .inr (⟨_, .inr rfl, z1, by simpa [PyData.canLay0] using SeqAt.canLay_of_shaped z2, rfl⟩)
    · cases h
  · cases h
theorem opc_in (hu : X.A.units + 66 < cLine) : OpR X (compareOp .In) (rC X.K X.prog X.w (cop .in_)) := by
  intro pins s σ H x y v u Q I rx ry h
  obtain ⟨d, e, F, G, r, hx, hy, hf, k⟩ := h
  rcases inD_cases hf with ⟨a, b, rfl, rfl, rfl⟩ | ⟨xs, rfl | rfl, sd, se, rfl⟩
  · cases hx; cases hy
    exact op_in_str pins s σ H _ _ v u Q I rx ry ⟨_, _, rfl, rfl, k⟩
  · have hl : PyData.canLay0 (.list xs) = true := by simpa [PyData.canLay0] using se
    obtain ⟨as, r1⟩ := Dp.reads I d x v (hx.dp sd) rx
    obtain ⟨bs, r2⟩ := Dp.reads I (.list xs) y u (hy.dp0 hl) ry
    exact SeqAt.in_list_reads r2 r1 se (SeqAt.canLay_of_shaped sd) (in_room sd hu) ⟨.bl _, H, I, rfl, k⟩
  · have hl : PyData.canLay0 (.tuple xs) = true := by simpa [PyData.canLay0] using se
    obtain ⟨as, r1⟩ := Dp.reads I d x v (hx.dp sd) rx
    obtain ⟨bs, r2⟩ := Dp.reads I (.tuple xs) y u (hy.dp0 hl) ry
    exact SeqAt.in_tuple_reads r2 r1 se (SeqAt.canLay_of_shaped sd) (in_room sd hu) ⟨.bl _, H, I, rfl, k⟩
theorem opc_notin (hu : X.A.units + 66 < cLine) : OpR X (compareOp .NotIn) (rC X.K X.prog X.w (cop .notin)) := by
  intro pins s σ H x y v u Q I rx ry h
  obtain ⟨d, e, F, G, r, hx, hy, hf, k⟩ := h
  have en : r = !(!r) := (Bool.not_not r).symm
  rcases inD_cases (map_not hf) with ⟨a, b, rfl, rfl, q⟩ | ⟨xs, rfl | rfl, sd, se, q⟩
  · cases hx; cases hy
    exact op_notin_str pins s σ H _ _ v u Q I rx ry ⟨_, _, rfl, rfl, by unfold inStr at q; rw [← q, Bool.not_not]; exact k⟩
  · have hl : PyData.canLay0 (.list xs) = true := by simpa [PyData.canLay0] using se
    obtain ⟨as, r1⟩ := Dp.reads I d x v (hx.dp sd) rx
    obtain ⟨bs, r2⟩ := Dp.reads I (.list xs) y u (hy.dp0 hl) ry
    exact SeqAt.notIn_list_reads r2 r1 se (SeqAt.canLay_of_shaped sd) (in_room sd hu) ⟨.bl _, H, I, rfl, by rw [← q, Bool.not_not]; exact k⟩
  · have hl : PyData.canLay0 (.tuple xs) = true := by simpa [PyData.canLay0] using se
    obtain ⟨as, r1⟩ := Dp.reads I d x v (hx.dp sd) rx
    obtain ⟨bs, r2⟩ := Dp.reads I (.tuple xs) y u (hy.dp0 hl) ry
    exact SeqAt.notIn_tuple_reads r2 r1 se (SeqAt.canLay_of_shaped sd) (in_room sd hu) ⟨.bl _, H, I, rfl, by rw [← q, Bool.not_not]; exact k⟩
def Cop.op : Cop → CmpOp
  | .eq => .Eq
  | .ne => .NotEq
  | .lt => .Lt
  | .le => .LtE
  | .gt => .Gt
  | .ge => .GtE
  | .is => .Is
  | .isnot => .IsNot
  | .in_ => .In
  | .notin => .NotIn
theorem opc (hu : X.A.units + 66 < cLine) (o : Cop) : OpR X (compareOp o.op) (rC X.K X.prog X.w (cop o)) := by
  cases o
  · exact opc_eq hu
  · exact opc_ne hu
  · exact opc_lt
  · exact opc_le
  · exact opc_gt
  · exact opc_ge
  · exact opc_is
  · exact opc_isnot
  · exact opc_in hu
  · exact opc_notin hu
end
end PD
set_option maxHeartbeats 4000000
namespace PD
open PySem PySem.Spec PyProof.Rows L2

theorem atN_atI {α : Type} (xs : List α) (i : Int) : atN xs i = atI xs i := by
  unfold atN atI ixN
  by_cases h0 : 0 ≤ i
  · rw [if_pos h0, if_pos h0]
    by_cases h1 : i < xs.length
    · rw [if_pos h1]; rfl
    · rw [if_neg h1]
      exact List.getElem?_eq_none (by omega)
  · rw [if_neg h0, if_neg h0]
    by_cases h1 : 0 ≤ i + xs.length
    · rw [if_pos h1, if_pos (by omega)]; rfl
    · rw [if_neg h1, if_neg (by omega)]; rfl
section
variable {K : PySem.W.Frag} {P : Program} {w : World} {H : Hp}
theorem RpL.at {ds : List PyData} {vs : List V} {F : List Addr} {i : Int} {d : PyData} (h : RpL K P w H vs ds F) (e : atN ds i = some d) : ∃ v G, atI vs i = some v ∧ Rp K P w H v d G ∧ ∀ a ∈ G, a ∈ F := by
  rw [atN_atI] at e
  unfold atI at e ⊢
  rw [h.length]
  cases q : ixN ds.length i with
  | none => rw [q] at e; cases e
  | some j =>
    rw [q] at e
    exact h.get (i := j) e
end
/-- an item of what is at hand -/
def rI2 (K : PySem.W.Frag) (P : Program) (w : World) (f : PyData → PyData → Option PyData) : R2 := fun x y H Q =>
  ∃ d e F G r, Rp K P w H x d F ∧ Rp K P w H y e G ∧ f d e = some r ∧ ∀ v L, Rp K P w H v r L → (∀ a ∈ L, a ∈ F ++ G) → Q v H
theorem atI_map {α β : Type} (f : α → β) (l : List α) (i : Int) : atI (l.map f) i = (atI l i).map f := by
  unfold atI
  rw [List.length_map]
  cases ixN l.length i with
  | none => rfl
  | some j => exact List.getElem?_map
section
variable {X : Cx}
theorem opi : IxR X (rI2 X.K X.prog X.w ixop) := by
  intro value slice pins s σ H x y v u Q I rx ry h hs
  obtain ⟨d, e, F, G, r, hx, hy, hf, k⟩ := h
  unfold ixop at hf
  split at hf
  · cases hy
    cases hx with
    | @fz a ns h1 =>
      rw [atN_atI, atI_map] at hf
      obtain ⟨n, q6, q7⟩ := Option.map_eq_some_iff.mp hf
      subst q7
      have q8 := congrArg (Option.map V.int) q6
      rw [← atI_map] at q8
      exact ix_list value slice pins s σ H _ _ v u Q I rx ry ⟨_, _, _, _, rfl, rfl, h1.sq, q8, k _ _ (.int n) (by simp)⟩ hs
    | dk h1 h2 =>
      cases h2
    | dx h1 h0 h2 =>
      cases h2 with
      | cons e1 e2 h3 _ _ _ => cases h3
  · cases hy
    cases hx with
    | lst h1 h2 =>
      obtain ⟨z, L, q1, q2, q3⟩ := h2.at hf
      exact ix_list value slice pins s σ H _ _ v u Q I rx ry ⟨_, _, _, _, rfl, rfl, .inl (.inl h1), q1, k _ _ q2 fun a ha => by simp [q3 a ha]⟩ hs
  · cases hy
    cases hx with
    | tup h1 h2 =>
      obtain ⟨z, L, q1, q2, q3⟩ := h2.at hf
      exact ix_tup value slice pins s σ H _ _ v u Q I rx ry ⟨_, _, _, _, rfl, rfl, h1.sq, q1, k _ _ q2 fun a ha => by simp [q3 a ha]⟩ hs
  · split at hf
    · rename_i hz
      cases hy; cases hx
      obtain ⟨c, q1, q2⟩ := Option.map_eq_some_iff.mp hf
      subst q2
      rw [atN_atI] at q1
      exact ix_str value slice pins s σ H _ _ v u Q I rx ry ⟨_, _, _, rfl, rfl, by rw [← line_eq]; exact hz, q1, k _ _ (.str _) (by simp)⟩ hs
    · cases hf
  · cases hf

/-! ## slices -/
theorem slIx_eq (n d : Nat) (o : Option Int) : slIx n d o = HT.sIx n d o := by
  cases o <;> rfl
theorem cutL_cutV (xs : List V) (lo hi : Option Int) : cutL xs lo hi = cutV xs lo hi := by
  unfold cutL cutV
  rw [slIx_eq, slIx_eq]
theorem RpL.cut {K : PySem.W.Frag} {P : Program} {w : World} {H : Hp} {ds : List PyData} {vs : List V} {F : List Addr} (h : RpL K P w H vs ds F) (lo hi : Option Int) :
    ∃ G, RpL K P w H (cutV vs lo hi) (cutL ds lo hi) G ∧ ∀ a ∈ G, a ∈ F := by
  rw [← cutL_cutV]
  unfold cutL
  rw [h.length]
  obtain ⟨G, h1, h2⟩ := h.drop (slIx ds.length 0 lo)
  obtain ⟨L, h3, h4⟩ := h1.take (slIx ds.length ds.length hi - slIx ds.length 0 lo)
  exact ⟨L, h3, fun a ha => h2 a (h4 a ha)⟩
def rS (K : PySem.W.Frag) (P : Program) (w : World) : V → Option Int → Option Int → Hp → VK → Prop := fun x lo hi H Q =>
  ∃ d F r, Rp K P w H x d F ∧ slop d lo hi = some r ∧ ∀ v H' L, Same H H' → Res (K := K) (P := P) (w := w) H H' F v r L → Q v H'
theorem ops : SlR X (rS X.K X.prog X.w) := by
  intro pins s σ H x v vl vu lo hi sl Q I rx hs pl pu h
  obtain ⟨d, F, r, hx, hf, k⟩ := h
  unfold slop at hf
  split at hf
  · cases hf
    cases hx with
    | lst h1 h2 =>
      obtain ⟨G, q1, q2⟩ := h2.cut lo hi
      exact sl_list pins s σ H _ v vl vu lo hi sl Q I rx hs pl pu ⟨_, _, rfl, .inl (.inl h1), fun p hp => k _ _ _ (same_upd hp) (res_lst hp q1 fun a ha => by simp [q2 a ha])⟩
  · cases hf
    cases hx with
    | tup h1 h2 =>
      obtain ⟨G, q1, q2⟩ := h2.cut lo hi
      refine sl_tupF pins s σ H _ v vl vu lo hi sl Q I rx hs pl pu ⟨_, _, rfl, h1.sq, fun hw => ?_, fun _ p ob hp ho => k _ _ _ (same_upd hp) (res_tup hp ho q1 q2)⟩
      rename_i ds _ vs
      have hl := h2.length
      have e : cutL ds lo hi = ds := by
        unfold cutL
        rw [slIx_eq, slIx_eq, ← hl, hw.1, hw.2, hl]
        simp
      rw [e] at k
      exact k _ _ _ (Same.refl _) (res_old' (.tup h1 h2) (fun a ha => ha) rfl)
  · split at hf
    · rename_i hz
      cases hf; cases hx
      refine sl_str pins s σ H _ v vl vu lo hi sl Q I rx hs pl pu ⟨_, rfl, by rw [← line_eq]; exact hz, ?_⟩
      rename_i z
      have e : (⟨(cutL z.cps.toList lo hi).toArray⟩ : Str) = cutS z lo hi := by
        unfold cutS cutL
        rw [slIx_eq, slIx_eq]
        simp [Str.length]
      rw [← e]
      exact k _ _ _ (Same.refl _) (res_atom (.str _))
    · cases hf
  · cases hf

/-! ## truth -/
theorem truth_tru {K : PySem.W.Frag} {P : Program} {w : World} {H : Hp} {x : V} {d : PyData} {F : List Addr} {b : Bool} (h : Rp K P w H x d F) (e : truth d = some b) : TruV K x H b := by
  have hl := line_eq
  cases h with
  | non => cases e; rfl
  | bl b => cases e; rfl
  | int i => cases e; rfl
  | str z =>
    have e : (if z.length ≤ lineN then some ((z.length : Int) != 0) else none) = some b := e
    split at e
    · cases e
      rename_i hz
      exact ⟨by rw [← hl]; exact hz, rfl⟩
    · cases e
  | lst h1 h2 =>
    cases e
    refine .inl ⟨_, .inl (.inl h1), ?_⟩
    have := h2.length
    rename_i a xs ds F
    cases xs <;> cases ds <;> first | rfl | (simp at this)
  | tup h1 h2 =>
    cases e
    refine .inr (.inl ⟨_, h1.sq, ?_⟩)
    have := h2.length
    rename_i a xs ds
    cases xs <;> cases ds <;> first | rfl | (simp at this)
  | dk _ _ => cases e
  | dx _ _ _ => cases e
  | fz _ => cases e

/-! ## isinstance -/
def Ty.name : Ty → String
  | .int => "int"
  | .bool => "bool"
  | .str => "str"
  | .tuple => "tuple"
  | .list => "list"
theorem isi_ty {K : PySem.W.Frag} {P : Program} {w : World} {H : Hp} {x : V} {d : PyData} {F : List Addr} {t : Ty} {b : Bool} (h : Rp K P w H x d F) (e : isTy t d = some b) : ∃ n, TyX K H x (.type n) ∧ PySem.W.kitOne K (.type n) (.type t.name) = some b := by
  cases h with
  | non => exact ⟨_, .base .non, by cases t <;> cases e <;> exact kit_ty (by decide +kernel)⟩
  | bl c => exact ⟨_, .base (.bl c), by cases t <;> cases e <;> exact kit_ty (by decide +kernel)⟩
  | int c => exact ⟨_, .base (.int c), by cases t <;> cases e <;> exact kit_ty (by decide +kernel)⟩
  | str c => exact ⟨_, .base (.str c), by cases t <;> cases e <;> exact kit_ty (by decide +kernel)⟩
  | lst h1 h2 => exact ⟨_, .base (.lst h1), by cases t <;> cases e <;> exact kit_ty (by decide +kernel)⟩
  | tup h1 h2 =>
    have k : PySem.W.kitOne K (.type "tuple") (.type t.name) = some b := by cases t <;> cases e <;> exact kit_ty (by decide +kernel)
    rcases h1 with ⟨o, h1, _⟩ | ⟨o, its, n, h1, h3, _⟩
    · exact ⟨_, .fTuple h1, k⟩
    · exact ⟨_, .kTuple h1 h3, k⟩
  | dk _ _ => cases t <;> cases e
  | dx _ _ _ => cases t <;> cases e
  | fz _ => cases t <;> cases e
theorem call_isiD {t : Ty} : CallR X (.builtin "isinstance") (fun xs H Q => ∃ x d F b, xs = [x, .ty t.name] ∧ Rp X.K X.prog X.w H x d F ∧ isTy t d = some b ∧ Q (.bl b) H) := by
  intro pins s σ H xs us Q I r h
  obtain ⟨x, d, F, b, rfl, hx, hb, q⟩ := h
  obtain ⟨n, h1, h2⟩ := isi_ty hx hb
  exact call_isi pins s σ H _ us Q I r ⟨_, _, _, _, _, rfl, .ty _, h1, h2, q⟩
end
end PD
set_option maxHeartbeats 4000000
namespace PD
open PySem PySem.Spec PyProof.Rows L2

section
variable {K : PySem.W.Frag} {P : Program} {w : World} {H : Hp}
theorem RpL.one {d : PyData} {vs : List V} {F : List Addr} (h : RpL K P w H vs [d] F) : ∃ v, vs = [v] ∧ Rp K P w H v d F := by
  cases h with
  | cons h1 h2 =>
    cases h2
    exact ⟨_, rfl, by rw [List.append_nil]; exact h1⟩
theorem RpL.two {d e : PyData} {vs : List V} {F : List Addr} (h : RpL K P w H vs [d, e] F) : ∃ v u F1 F2, vs = [v, u] ∧ F = F1 ++ F2 ∧ Rp K P w H v d F1 ∧ Rp K P w H u e F2 := by
  cases h with
  | cons h1 h2 =>
    obtain ⟨u, rfl, h3⟩ := h2.one
    exact ⟨_, _, _, _, rfl, rfl, h1, h3⟩
theorem asInts_eq : ∀ {ds : List PyData} {ns : List Int}, asInts ds = some ns → ds = ns.map .int
  | [], ns, h => by cases h; rfl
  | .int i :: r, ns, h => by
    obtain ⟨m, h1, h2⟩ := Option.map_eq_some_iff.mp (show (asInts r).map (i :: ·) = some ns from h)
    subst h2
    rw [List.map_cons, ← asInts_eq h1]
  | .none :: r, ns, h => by cases h
  | .bool _ :: r, ns, h => by cases h
  | .str _ :: r, ns, h => by cases h
  | .list _ :: r, ns, h => by cases h
  | .tuple _ :: r, ns, h => by cases h
  | .dict _ :: r, ns, h => by cases h
theorem asInts_map : ∀ (ns : List Int), asInts (ns.map .int) = some ns
  | [] => rfl
  | n :: ns => by simp [asInts, asInts_map ns]
theorem RpL.ints : ∀ {ns : List Int} {vs : List V} {F : List Addr}, RpL K P w H vs (ns.map PyData.int) F → vs = ns.map V.int
  | [], _, _, h => by cases h; rfl
  | n :: ns, _, _, h => by
    cases h with
    | cons h1 h2 =>
      cases h1
      rw [RpL.ints h2]; rfl
theorem RpL.of_ints : ∀ (ns : List Int), RpL K P w H (ns.map V.int) (ns.map PyData.int) []
  | [] => .nil
  | n :: ns => .cons (F := []) (G := []) (.int n) (RpL.of_ints ns)
theorem immL_ints (ns : List Int) : immL (ns.map PyData.int) = true := immL_iff.mpr fun x hx => by
  obtain ⟨n, _, rfl⟩ := List.mem_map.mp hx
  rfl
end

section
variable {X : Cx}
abbrev rDX (X : Cx) (f : List PyData → Option PyData) : List V → Hp → VK → Prop := rD X.K X.prog X.w f
theorem cl_len : CallR X (.builtin "len") (rDX X lenD) := by
  intro pins s σ H xs us Q I r h
  obtain ⟨ds, F, d, hx, hf, k⟩ := h
  unfold lenD at hf
  split at hf
  · cases hf
    obtain ⟨v, rfl, hv⟩ := hx.one
    cases hv with
    | lst h1 h2 => exact call_len_seq pins s σ H _ us Q I r ⟨_, _, rfl, .inl (.inl (.inl h1)), by rw [h2.length]; exact k _ _ _ (Same.refl _) (res_atom (.int _))⟩
  · cases hf
    obtain ⟨v, rfl, hv⟩ := hx.one
    cases hv with
    | tup h1 h2 => exact call_len_seq pins s σ H _ us Q I r ⟨_, _, rfl, .inr h1.sq, by rw [h2.length]; exact k _ _ _ (Same.refl _) (res_atom (.int _))⟩
  · split at hf
    · rename_i hz
      cases hf
      obtain ⟨v, rfl, hv⟩ := hx.one
      cases hv
      exact call_len_str pins s σ H _ us Q I r ⟨_, rfl, by rw [← line_eq]; exact hz, k _ _ _ (Same.refl _) (res_atom (.int _))⟩
    · cases hf
  · cases hf
    obtain ⟨v, rfl, hv⟩ := hx.one
    cases hv with
    | fz h1 => exact call_len_seq pins s σ H _ us Q I r ⟨_, _, rfl, .inl h1.sq, by rw [List.length_map]; rw [List.length_map] at k; exact k _ _ _ (Same.refl _) (res_atom (.int _))⟩
    | dk h1 h2 => cases h2
    | dx h1 h0 h2 =>
      cases h2 with
      | cons e1 e2 h3 _ _ _ => cases h3
  · cases hf
theorem cl_sum (hc : X.calm = true) : CallR X (.builtin "sum") (rDX X sumD) := by
  intro pins s σ H xs us Q I r h
  obtain ⟨ds, F, d, hx, hf, k⟩ := h
  unfold sumD at hf
  split at hf
  · obtain ⟨ns, h1, h2⟩ := Option.map_eq_some_iff.mp hf
    subst h2
    have e := asInts_eq h1
    subst e
    obtain ⟨v, rfl, hv⟩ := hx.one
    cases hv with
    | lst g1 g2 =>
      have e := g2.ints
      subst e
      exact cr_sum hc pins s σ H _ us Q I r ⟨_, _, rfl, .inl (.inl g1), k _ _ _ (Same.refl _) (res_atom (.int _))⟩
  · cases hf
theorem max_is {ns : List Int} {m n : Int} (h : ns.max? = some m) (hn : n ∈ ns) (hx : ∀ y, y ∈ ns → y ≤ n) : n = m := by
  have := List.max?_eq_some_iff.mp h
  have a := hx m this.1
  have b := this.2 n hn
  omega
theorem min_is {ns : List Int} {m n : Int} (h : ns.min? = some m) (hn : n ∈ ns) (hx : ∀ y, y ∈ ns → n ≤ y) : n = m := by
  have := List.min?_eq_some_iff.mp h
  have a := hx m this.1
  have b := this.2 n hn
  omega
theorem cl_max (hc : X.calm = true) : CallR X (.builtin "max") (rDX X maxD) := by
  intro pins s σ H xs us Q I r h
  obtain ⟨ds, F, d, hx, hf, k⟩ := h
  unfold maxD at hf
  split at hf
  · cases hf
    obtain ⟨v, u, F1, F2, rfl, rfl, hv, hu⟩ := hx.two
    cases hv; cases hu
    exact call_max2 hc pins s σ H _ us Q I r ⟨_, _, rfl, k _ _ _ (Same.refl _) (res_atom (.int _))⟩
  · obtain ⟨ns, h1, h2⟩ := Option.bind_eq_some_iff.mp hf
    obtain ⟨m, h3, h4⟩ := Option.map_eq_some_iff.mp h2
    subst h4
    have e := asInts_eq h1
    subst e
    obtain ⟨v, rfl, hv⟩ := hx.one
    cases hv with
    | lst g1 g2 =>
      have e := g2.ints
      subst e
      refine cr_max hc pins s σ H _ us Q I r ⟨_, _, rfl, .inl (.inl g1), ?_, fun n hn hy => ?_⟩
      · cases ns with
        | nil => cases h3
        | cons a b => simp
      · rw [max_is h3 hn hy]
        exact k _ _ _ (Same.refl _) (res_atom (.int _))
  · cases hf
theorem cl_min (hc : X.calm = true) : CallR X (.builtin "min") (rDX X minD) := by
  intro pins s σ H xs us Q I r h
  obtain ⟨ds, F, d, hx, hf, k⟩ := h
  unfold minD at hf
  split at hf
  · cases hf
    obtain ⟨v, u, F1, F2, rfl, rfl, hv, hu⟩ := hx.two
    cases hv; cases hu
    exact call_min2 hc pins s σ H _ us Q I r ⟨_, _, rfl, k _ _ _ (Same.refl _) (res_atom (.int _))⟩
  · obtain ⟨ns, h1, h2⟩ := Option.bind_eq_some_iff.mp hf
    obtain ⟨m, h3, h4⟩ := Option.map_eq_some_iff.mp h2
    subst h4
    have e := asInts_eq h1
    subst e
    obtain ⟨v, rfl, hv⟩ := hx.one
    cases hv with
    | lst g1 g2 =>
      have e := g2.ints
      subst e
      refine cr_min hc pins s σ H _ us Q I r ⟨_, _, rfl, .inl (.inl g1), ?_, fun n hn hy => ?_⟩
      · cases ns with
        | nil => cases h3
        | cons a b => simp
      · rw [min_is h3 hn hy]
        exact k _ _ _ (Same.refl _) (res_atom (.int _))
  · cases hf
theorem cl_list : CallR X (.type "list") (rDX X listD) := by
  intro pins s σ H xs us Q I r h
  obtain ⟨ds, F, d, hx, hf, k⟩ := h
  unfold listD at hf
  split at hf
  · cases hf
    obtain ⟨v, rfl, hv⟩ := hx.one
    cases hv with
    | lst h1 h2 => exact call_list_of pins s σ H _ us Q I r ⟨_, _, rfl, .inl (.inl (.inl h1)), fun p hp => k _ _ _ (same_upd hp) (res_lst hp h2 fun a ha => by simp [ha])⟩
  · cases hf
    obtain ⟨v, rfl, hv⟩ := hx.one
    cases hv with
    | tup h1 h2 => exact call_list_of pins s σ H _ us Q I r ⟨_, _, rfl, .inr h1.sq, fun p hp => k _ _ _ (same_upd hp) (res_lst hp h2 fun a ha => ha)⟩
  · cases hf
theorem cl_tuple : CallR X (.type "tuple") (rDX X tupleD) := by
  intro pins s σ H xs us Q I r h
  obtain ⟨ds, F, d, hx, hf, k⟩ := h
  unfold tupleD at hf
  split at hf
  · cases hf
    obtain ⟨v, rfl, hv⟩ := hx.one
    cases hv with
    | lst h1 h2 => exact call_tupleF pins s σ H _ us Q I r ⟨_, _, rfl, .inl ⟨.inl (.inl h1), fun p ob hp ho => k _ _ _ (same_upd hp) (res_tup hp ho h2 fun a ha => by simp [ha])⟩⟩
  · cases hf
    obtain ⟨v, rfl, hv⟩ := hx.one
    cases hv with
    | tup h1 h2 => exact call_tupleF pins s σ H _ us Q I r ⟨_, _, rfl, .inr ⟨h1.sq, k _ _ _ (Same.refl _) (res_old' (.tup h1 h2) (fun a ha => ha) rfl)⟩⟩
  · cases hf
theorem cl_int : CallR X (.type "int") (rDX X intD) := by
  intro pins s σ H xs us Q I r h
  obtain ⟨ds, F, d, hx, hf, k⟩ := h
  unfold intD at hf
  split at hf
  · cases hf
    obtain ⟨v, rfl, hv⟩ := hx.one
    cases hv
    exact call_int1 pins s σ H _ us Q I r (.inr ⟨_, rfl, k _ _ _ (Same.refl _) (res_atom (.int _))⟩)
  · cases hf
    obtain ⟨v, rfl, hv⟩ := hx.one
    cases hv
    exact call_int1 pins s σ H _ us Q I r (.inl ⟨_, rfl, k _ _ _ (Same.refl _) (res_atom (.int _))⟩)
  · cases hf
theorem cl_abs : CallR X (.builtin "abs") (rDX X absD) := by
  intro pins s σ H xs us Q I r h
  obtain ⟨ds, F, d, hx, hf, k⟩ := h
  unfold absD at hf
  split at hf
  · cases hf
    obtain ⟨v, rfl, hv⟩ := hx.one
    cases hv
    exact call_abs pins s σ H _ us Q I r ⟨_, rfl, k _ _ _ (Same.refl _) (res_atom (.int _))⟩
  · cases hf

/-! ## sorted -/
mutual
theorem reads_there {h : Heap} : ∀ {d : PyData} {v : Value} {as : List Addr}, Reads h v d as → d.canLay0 = true → ∀ a ∈ as, ∃ o, h.get? a = some o
  | .none, _, _, r, _, a, ha => by cases r; simp at ha
  | .bool _, _, _, r, _, a, ha => by cases r; simp at ha
  | .int _, _, _, r, _, a, ha => by cases r; simp at ha
  | .str _, _, _, r, _, a, ha => by cases r; simp at ha
  | .list ds, _, _, r, hl, a, ha => by
    cases r with
    | list h1 _ _ h4 =>
      rcases List.mem_cons.mp ha with e | z
      · subst e; exact ⟨_, h1⟩
      · exact readsAll_there h4 (by simpa [PyData.canLay0] using hl) a z
  | .tuple ds, _, _, r, hl, a, ha => by
    cases r with
    | tuple h1 _ _ h4 => exact readsAll_there h4 (by simpa [PyData.canLay0] using hl) a ha
  | .dict ds, _, _, r, hl, a, ha => by simp [PyData.canLay0] at hl
theorem readsAll_there {h : Heap} : ∀ {ds : List PyData} {vs : List Value} {as : List Addr}, ReadsAll h vs ds as → PyData.canLayAll0 ds = true → ∀ a ∈ as, ∃ o, h.get? a = some o
  | [], _, _, r, _, a, ha => by cases r; simp at ha
  | d :: ds, _, _, r, hl, a, ha => by
    have hl' : d.canLay0 = true ∧ PyData.canLayAll0 ds = true := by simpa [PyData.canLayAll0] using hl
    cases r with
    | cons h1 h2 =>
      rcases List.mem_append.mp ha with z | z
      · exact reads_there h1 hl'.1 a z
      · exact readsAll_there h2 hl'.2 a z
end
theorem canLayAll_mem : ∀ {ds : List PyData}, PyData.canLayAll0 ds = true → ∀ d ∈ ds, d.canLay0 = true
  | [], _, d, h => by simp at h
  | e :: ds, hl, d, h => by
    have hl' : e.canLay0 = true ∧ PyData.canLayAll0 ds = true := by simpa [PyData.canLayAll0] using hl
    rcases List.mem_cons.mp h with q | q
    · subst q; exact hl'.1
    · exact canLayAll_mem hl'.2 d q
theorem each_and {α β : Type} {R S : α → β → Prop} : ∀ {as : List α} {bs : List β}, PySem.W.EachIs R as bs → (∀ b ∈ bs, ∀ a, R a b → S a b) → PySem.W.EachIs S as bs
  | _, _, .nil, _ => .nil
  | _, _, .cons r t, k => .cons (k _ (by simp) _ r) (each_and t fun b hb => k b (by simp [hb]))
open PySem.W in
theorem sorted_vals {prog : Program} {w : World} {A : Around} {E : Value → Shared → Prop} {s : Shared} {it : Value} {vs : List Value} {R : Value → PyData → Prop} {bs : List PyData} {Q : Value → Shared → Prop}
    (hcol : ∀ (Q' : List Value → Shared → Prop), (∀ h' t, (∀ b o', s.heap.get? b = some o' → h'.get? b = some o') → Q' vs { s with heap := h', toks := t }) → wpAny (model prog w) A.in1 (collect it) Q' E s)
    (e : EachIs R vs bs) (er : EachIs (fun v b => ∃ as, Reads s.heap v b as) vs bs) (hl : PyData.canLayAll0 bs = true) (hal : AllAlike bs) (hk : Sortable bs) (hL : bs.length ≤ sizeLine) (hu : ∀ b, b ∈ bs → A.units + 2 + b.depth < cLine)
    (h : ∀ (h1 h' : Heap) (a t : Addr) (out : List Value) (n : Nat), (∀ b o, s.heap.get? b = some o → h1.get? b = some o) → (∀ b o, h1.get? b = some o → h'.get? b = some o) → h1.objs.size ≤ a → h'.get? a = some (seqObj "list" out.toArray n) → EachIs R out (sortD bs) → Q (.ref a) { s with heap := h', toks := t }) :
    wpAny (model prog w) A (call (.builtin "sorted") [it]) Q E s := by
  have hz : vs.length ≤ sizeLine := by rw [e.length]; exact hL
  refine Calls.call_function_entry kind_sorted plain_sorted entry_sorted (args_sorted1 _) ?_
  unfold Builtin.«sorted»
  refine wpAny_bind (m := checkCount "sorted" 1 1 _) (wpAny_pure ?_)
  refine wpAny_bind (hcol _ fun h1 t k1 => ?_)
  refine wpAny_bind (wpAny_newList ?_ hz)
  have hoL : (h1.push (seqObj "list" vs.toArray 0)).get? h1.objs.size = some (seqObj "list" vs.toArray 0) := Heap.get?_push_size _ rfl
  have keep : ∀ b o, h1.get? b = some o → (h1.push (seqObj "list" vs.toArray 0)).get? b = some o := fun b o q => Heap.get?_push_of_some _ q
  refine wpAny_bind (wpAny_holding (PySem.W.list_sort_data (R := R) (enc := id) (bs := bs) (vs := vs) (n := 0) hoL e ?_ (by simpa using hal) (by simpa using hk) hL (fun b hb => by have := hu b hb; show A.units + 1 + 1 + b.depth < cLine; omega) fun out ho' eo => ?_))
  · refine each_and er fun b hb v ⟨as, r⟩ => ⟨as, PyProof.Rows.Reads.keeps (fun b o q => keep b o (k1 b o q)) r, fun hm => ?_⟩
    obtain ⟨o, q⟩ := reads_there r (canLayAll_mem hl b hb) _ hm
    exact absurd (Heap.lt_size (k1 _ _ q)) (Nat.lt_irrefl _)
  · obtain ⟨n, hn⟩ := sortedHeap_at (out := out.toArray) hoL
    refine wpAny_pure ⟨_, rfl, h h1 _ h1.objs.size t out n k1 (fun b o q => ?_) (Nat.le_refl _) hn eo⟩
    have hlt : b < h1.objs.size := Heap.lt_size q
    rw [sortedHeap_old (Nat.ne_of_lt hlt) (by rw [size_push']; exact Nat.lt_succ_of_lt hlt)]
    exact keep b o q
theorem allAlike_of {ds : List PyData} (h : allAlike ds = true) : PySem.W.AllAlike ds := fun d hd d' hd' => by
  unfold allAlike at h
  exact List.all_eq_true.mp (List.all_eq_true.mp h d hd) d' hd'
theorem sortable_of {ds : List PyData} (h : (ds.all isTup1 || ds.all noTup) = true) : PySem.W.Sortable ds := by
  rcases Bool.or_eq_true_iff.mp h with z | z
  · refine .inl fun d hd => ?_
    have q := List.all_eq_true.mp z d hd
    unfold isTup1 at q
    split at q
    · exact ⟨_, _, rfl⟩
    · cases q
  · refine .inr fun d hd => ?_
    have q := List.all_eq_true.mp z d hd
    unfold noTup at q
    split at q
    · cases q
    · cases q
    · rename_i h1 h2
      exact ⟨h1, h2⟩
theorem depth_mem : ∀ {ds : List PyData} {d : PyData}, d ∈ ds → d.depth ≤ PyData.depthAll ds
  | [], _, h => by simp at h
  | e :: ds, d, h => by
    rcases List.mem_cons.mp h with q | q
    · subst q; exact Nat.le_max_left _ _
    · exact Nat.le_trans (depth_mem q) (Nat.le_max_right _ _)
/-- values and data, side by side -/
theorem RpL.each {K : PySem.W.Frag} {P : Program} {w : World} {H : Hp} : ∀ {ds : List PyData} {xs : List V} {us : List Value} {F : List Addr}, RpL K P w H xs ds F → Vals xs us → PySem.W.EachIs (fun u d => ∃ x G, RelV x u ∧ Rp K P w H x d G ∧ ∀ a ∈ G, a ∈ F) us ds
  | [], _, _, _, h, r => by cases h; cases r; exact .nil
  | d :: ds, _, _, _, h, r => by
    cases h with
    | cons h1 h2 =>
      cases r with
      | cons r1 r2 => exact .cons ⟨_, _, r1, h1, fun a ha => by simp [ha]⟩ ((RpL.each h2 r2).mono fun u d ⟨x, G, q1, q2, q3⟩ => ⟨x, G, q1, q2, fun a ha => by simp [q3 a ha]⟩)
theorem RpL.of_each {K : PySem.W.Frag} {P : Program} {w : World} {H : Hp} {F : List Addr} : ∀ {ds : List PyData} {us : List Value}, PySem.W.EachIs (fun u d => ∃ x G, RelV x u ∧ Rp K P w H x d G ∧ ∀ a ∈ G, a ∈ F) us ds → ∃ xs G, RpL K P w H xs ds G ∧ Vals xs us ∧ ∀ a ∈ G, a ∈ F
  | _, _, .nil => ⟨[], [], .nil, .nil, by simp⟩
  | _, _, .cons ⟨x, G, r, h, hi⟩ t => by
    obtain ⟨xs, L, h1, h2, h3⟩ := RpL.of_each t
    refine ⟨x :: xs, G ++ L, .cons h h1, .cons r h2, fun a ha => ?_⟩
    rcases List.mem_append.mp ha with z | z
    · exact hi a z
    · exact h3 a z
theorem sortD_length (ds : List PyData) : (sortD ds).length = ds.length := by
  unfold sortD
  exact List.length_mergeSort _
/-- sorted(..) by what is collected -/
theorem sorted_core {pins : List (Addr × Obj)} {σ : L2.St} {H : Hp} {s : Shared} {Q : VK} {it : Value} {xs : List V} {vs : List Value} {ds : List PyData} {F F0 : List Addr} (I : Inv X pins σ H s) (hu : X.A.units + 67 < cLine)
    (hcol : ∀ (Q' : List Value → Shared → Prop), (∀ h' t, (∀ b o', s.heap.get? b = some o' → h'.get? b = some o') → Q' vs { s with heap := h', toks := t }) → wpAny (model X.prog X.w) X.A.in1 (collect it) Q' X.xe s)
    (h2 : RpL X.K X.prog X.w H xs ds F) (hF : ∀ a ∈ F, a ∈ F0) (rv : Vals xs vs) (ok : sortOk ds = true) (hl : PyData.canLayAll0 ds = true) (hz : xs.length ≤ sizeLine)
    (k : ∀ v H' G, Same H H' → Res (K := X.K) (P := X.prog) (w := X.w) H H' F0 v (.list (sortD ds)) G → Q v H') :
    wpAny (model X.prog X.w) X.A (call (.builtin "sorted") [it]) (EP X pins σ Q) X.xe s := by
  unfold sortOk at ok
  simp only [Bool.and_eq_true, decide_eq_true_eq] at ok
  obtain ⟨⟨o1, o2⟩, o3⟩ := ok
  obtain ⟨as, rr⟩ := Dp.readsAll I ds xs vs (RpL.dp h2 hl) rv
  have rr' : ReadsAll s.heap vs (ds.map id) as := by rw [List.map_id]; exact rr
  refine sorted_vals hcol (h2.each rv) (PySem.W.readsAll_each id rr') hl (allAlike_of o1) (sortable_of o2) (by rw [← h2.length]; exact hz) (fun b hb => ?_) fun h1 h' a t out n k1 k2 ha hn eo => ?_
  · have := depth_mem hb
    omega
  · obtain ⟨ys, G, g1, g2, g3⟩ := RpL.of_each eo
    have I1 : Inv X pins σ H { s with heap := h1 } := I.kept (t' := s.toks) k1
    have hyl : ys.length ≤ sizeLine := by rw [g1.length, sortD_length, ← h2.length]; exact hz
    have hp : H a = none := I1.hok.fresh ha
    exact ⟨.ref a, upd H a (.lst ys), I1.laid (t' := t) k2 ha ⟨hyl, out, n, g2, hn⟩, rfl, k _ _ _ (same_upd hp) (res_lst hp g1 fun b hb => hF b (g3 b hb))⟩
theorem cl_sorted (hu : X.A.units + 67 < cLine) : CallR X (.builtin "sorted") (rDX X sortedD) := by
  intro pins s σ H xs us Q I r h
  obtain ⟨ds, F, d, hx, hf, k⟩ := h
  unfold sortedD at hf
  split at hf
  · split at hf
    · rename_i hz
      cases hf
      obtain ⟨z1, z2⟩ := Bool.and_eq_true_iff.mp hz
      obtain ⟨v, rfl, hv⟩ := hx.one
      cases hv with
      | lst h1 h2 =>
        obtain ⟨its, rv, pl, hz⟩ := I.list (.inl (.inl h1))
        obtain ⟨o, n, ho, hc, _, hd⟩ := pl
        rw [Vals.ref1 r]
        exact sorted_core I hu (fun Q' hq => PySem.wpAny_collect_seq _ (.inl rfl) ho hc hd (hsz := by have := rv.length; simp only [List.size_toArray]; omega) fun h' k' => hq h' s.toks k') h2 (fun a ha => by simp [ha]) rv z1 z2 hz k
    · cases hf
  · split at hf
    · rename_i hz
      cases hf
      obtain ⟨z1, z2⟩ := Bool.and_eq_true_iff.mp hz
      obtain ⟨v, rfl, hv⟩ := hx.one
      cases hv with
      | tup h1 h2 =>
        obtain ⟨its, rv, pl, hz⟩ := I.tuple h1.sq
        obtain ⟨o, ho, hc, n, hd⟩ := pl
        rw [Vals.ref1 r]
        exact sorted_core I hu (fun Q' hq => PySem.wpAny_collect_seq _ (.inr rfl) ho hc hd (hsz := by have := rv.length; simp only [List.size_toArray]; omega) fun h' k' => hq h' s.toks k') h2 (fun a ha => by simp [ha]) rv z1 z2 hz k
    · cases hf
  · cases hf
end
end PD
set_option maxHeartbeats 4000000
namespace PD
open PySem PySem.Spec PyProof.Rows L2

/-! ## methods -/
def tyW (K : PySem.W.Frag) (T : String) (x : V) (H : Hp) : Prop := tyV K T x H ∨ (T = "tuple" ∧ ∃ p xs, x = .ref p ∧ TupF K H p xs)
theorem tyW_is {X : Cx} {pins : List (Addr × Obj)} {σ : L2.St} {H : Hp} {s : Shared} {T : String} {x : V} {v : Value} (I : Inv X pins σ H s) (r : RelV x v) (ty : tyW X.K T x H) :
    s.TypeIs v T ∧ ∀ a, v = .ref a → ∃ ob, s.heap.get? a = some ob ∧ ob.dict = none := by
  rcases ty with ty | ⟨rfl, p, xs, rfl, ty⟩
  · exact tyV_is I r ty
  · cases r
    rcases ty with ⟨o, ty, d⟩ | ⟨o, its, n, h1, h2, h3, _⟩
    · obtain ⟨e, _, its, _, o', e', c, _⟩ := I.hok p _ ty
      rw [e] at e'; cases e'
      exact ⟨⟨o, e, c⟩, fun a z => by cases z; exact ⟨o, e, d⟩⟩
    · exact ⟨⟨o, I.kIn p o h1, h2⟩, fun a z => by cases z; exact ⟨o, I.kIn p o h1, h3⟩⟩
structure MFact (T : String) (name : Str) (id : String) : Prop where
  pa : PlainAttrs T
  slot : Slot T name id
  ty : typeOf (.builtin id) = pure (.type "method_descriptor")
def tMD (X : Cx) (name : Str) (to : TE) (ta : TA) : TE := fun σ H Q => to σ H fun x H1 => ∃ T id r, MFact T name id ∧ MtR X id r ∧ tyW X.K T x H1 ∧ ta σ H1 fun xs H2 => r x xs H2 Q
section
variable {X : Cx} {o e : Expr} {es : List Expr} {to : TE} {t : TA} {name : Str} {apos cpos : Pos}
theorem pe_mD (ho : PE X o to) (ha : PA X (e :: es) t)
    (hbase : attributeBase o name X.env (eval o X.env) = eval o X.env)
    (hfew : ((backTo cpos (starEach (e :: es) X.env)).all (fun x => !x.1) && (backToKw cpos (keywordEach [] X.env)).all (fun x => x.1.isSome)
      && decide ((e :: es).length + ([] : List Keyword).length + (if ([] : List Keyword).isEmpty then 0 else 1) < 30)) = true)
    (hline : (apos.endLine == cpos.line) = true) (hs : starEach (e :: es) X.env = (false, eval e X.env) :: starEach es X.env) (hplain : (backTo cpos (starEach es X.env)).any (·.1) = false) :
    PE X (.Call (.Attribute o name apos) (e :: es) [] cpos) (tMD X name to t) := by
  refine ⟨fun pins s σ H Q I h => ?_⟩
  refine wpAny_Call_method_late hbase hfew hline rfl (thn (ho.run pins s σ H _ I h) fun v s1 ⟨x, H1, I1, r1, T, id, r, M, hm, ty, q1⟩ => ?_)
  obtain ⟨h1, h2⟩ := tyW_is I1 r1 ty
  refine ⟨T, id, M.pa, M.slot, M.ty, h1, h2, ?_⟩
  have hA := ha.run cpos pins s1 σ H1 _ I1 q1
  rw [hs] at hA ⊢
  refine Calls.callWith_builtin (by show (false || (backTo cpos (starEach es X.env)).any (·.1)) = false; rw [hplain] <;> rfl) (Calls.evalArgs_plain ?_)
  exact thn hA fun us s2 ⟨vs, H2, I2, r2, q2⟩ => hm pins s2 σ H2 x vs v us Q I2 r1 r2 q2
theorem pe_mD0 (ho : PE X o to) (hbase : attributeBase o name X.env (eval o X.env) = eval o X.env) (hline : (apos.endLine == cpos.line) = true) :
    PE X (.Call (.Attribute o name apos) [] [] cpos) (tMD X name to tNil) := by
  refine ⟨fun pins s σ H Q I h => ?_⟩
  refine wpAny_Call_method0_late hbase hline (thn (ho.run pins s σ H _ I h) fun v s1 ⟨x, H1, I1, r1, T, id, r, M, hm, ty, q1⟩ => ?_)
  obtain ⟨h1, h2⟩ := tyW_is I1 r1 ty
  exact ⟨T, id, M.pa, M.slot, M.ty, h1, h2, Calls.callWith_builtin rfl (PySem.evalArgs_none (hm pins s1 σ H1 x [] v [] Q I1 r1 .nil q1))⟩
end

/-- by values: the receiver and the arguments -/
def rM (X : Cx) (f : PyData → List PyData → Option PyData) : V → List V → Hp → VK → Prop := fun x xs H Q =>
  ∃ d F ds G r, Rp X.K X.prog X.w H x d F ∧ RpL X.K X.prog X.w H xs ds G ∧ f d ds = some r ∧ ∀ v H' L, Same H H' → Res (K := X.K) (P := X.prog) (w := X.w) H H' (F ++ G) v r L → Q v H'
section
variable {X : Cx}
theorem mt_countL (hu : X.A.units + 66 < cLine) : MtR X "list.count" (fun x xs H Q => ∃ F ds k G y, Rp X.K X.prog X.w H x (.list ds) F ∧ xs = [y] ∧ Rp X.K X.prog X.w H y k G ∧ SeqAt.shaped k = true ∧ PyData.canLayAll0 ds = true ∧ Q (.int (eqvCount ds k : Nat)) H) := by
  intro pins s σ H x xs v us Q I rx rxs h
  obtain ⟨F, ds, k, G, y, hx, rfl, hy, sk, sl, q⟩ := h
  obtain ⟨u, rfl, ry⟩ := vals1 rxs
  cases hx with
  | lst h1 h2 =>
    cases rx
    obtain ⟨its, rv, ⟨⟨cls, dd, data, sls⟩, n, ho, hc, hdn, hdt⟩, hlen⟩ := I.list (.inl (.inl h1))
    simp only at hc hdt
    subst hc hdt
    obtain ⟨as, h4⟩ := Dp.readsAll I ds _ its (RpL.dp h2 sl) rv
    obtain ⟨bs, r1⟩ := Dp.reads I k y u (hy.dp sk) ry
    refine call_meets PySem.F.slot_list_count ⟨_, ho, rfl⟩ PySem.F.entry_list_count (PySem.F.args_list_count_2 _ _)
      (SeqAt.list_countAt _ its.toArray n dd sls u (fun z => PyData.eqv (SeqAt.readOf s.heap z) k)) ⟨ho, SeqAt.items_eqAt (vs := its.toArray) (show ReadsAll s.heap its.toArray.toList ds as from h4) r1 sl (SeqAt.canLay_of_shaped sk) (in_room sk hu), ?_⟩
    refine ⟨.int (eqvCount ds k : Nat), H, I.tok _, ⟨s.toks, ?_⟩, q⟩
    have e : ds = its.map (SeqAt.readOf s.heap) := (SeqAt.readsAll_map ds its as sl h4).symm
    unfold eqvCount
    rw [e, List.countP_map]
    rfl
theorem mt_countT (hu : X.A.units + 66 < cLine) : MtR X "tuple.count" (fun x xs H Q => ∃ F ds k G y, Rp X.K X.prog X.w H x (.tuple ds) F ∧ xs = [y] ∧ Rp X.K X.prog X.w H y k G ∧ SeqAt.shaped k = true ∧ PyData.canLayAll0 ds = true ∧ Q (.int (eqvCount ds k : Nat)) H) := by
  intro pins s σ H x xs v us Q I rx rxs h
  obtain ⟨F, ds, k, G, y, hx, rfl, hy, sk, sl, q⟩ := h
  obtain ⟨u, rfl, ry⟩ := vals1 rxs
  cases hx with
  | tup h1 h2 =>
    cases rx
    obtain ⟨its, rv, ⟨⟨cls, dd, data, sls⟩, ho, hc, n, hdt⟩, hlen⟩ := I.tuple h1.sq
    simp only at hc hdt
    subst hc hdt
    obtain ⟨as, h4⟩ := Dp.readsAll I ds _ its (RpL.dp h2 sl) rv
    obtain ⟨bs, r1⟩ := Dp.reads I k y u (hy.dp sk) ry
    refine call_meets PySem.F.slot_tuple_count ⟨_, ho, rfl⟩ PySem.F.entry_tuple_count (PySem.F.args_tuple_count_2 _ _)
      (SeqAt.tuple_countAt _ its.toArray n dd sls u (fun z => PyData.eqv (SeqAt.readOf s.heap z) k)) ⟨ho, SeqAt.items_eqAt (vs := its.toArray) (show ReadsAll s.heap its.toArray.toList ds as from h4) r1 sl (SeqAt.canLay_of_shaped sk) (in_room sk hu), ?_⟩
    refine ⟨.int (eqvCount ds k : Nat), H, I.tok _, ⟨s.toks, ?_⟩, q⟩
    have e : ds = its.map (SeqAt.readOf s.heap) := (SeqAt.readsAll_map ds its as sl h4).symm
    unfold eqvCount
    rw [e, List.countP_map]
    rfl
theorem shapedL {ds : List PyData} (h : SeqAt.shaped (.list ds) = true) : PyData.canLayAll0 ds = true := by simpa [PyData.canLay0] using SeqAt.canLay_of_shaped h
theorem shapedT {ds : List PyData} (h : SeqAt.shaped (.tuple ds) = true) : PyData.canLayAll0 ds = true := by simpa [PyData.canLay0] using SeqAt.canLay_of_shaped h
theorem eqvIndex_spec {ds : List PyData} {k : PyData} {j : Nat} (h : eqvIndex ds k = some j) : ∃ z, ds[j]? = some z ∧ PyData.eqv z k = true ∧ ∀ (m : Nat) (z' : PyData), m < j → ds[m]? = some z' → PyData.eqv z' k = false := by
  unfold eqvIndex at h
  obtain ⟨h1, h2, h3⟩ := List.findIdx?_eq_some_iff_getElem.mp h
  refine ⟨ds[j], by simp [h1], h2, fun m z' hm e => ?_⟩
  obtain ⟨hml, e'⟩ := List.getElem?_eq_some_iff.mp e
  have := h3 m hm
  rw [e'] at this
  simpa using this
theorem mt_indexT (hu : X.A.units + 66 < cLine) : MtR X "tuple.index" (fun x xs H Q => ∃ F ds k G y j, Rp X.K X.prog X.w H x (.tuple ds) F ∧ xs = [y] ∧ Rp X.K X.prog X.w H y k G ∧ SeqAt.shaped k = true ∧ PyData.canLayAll0 ds = true ∧ eqvIndex ds k = some j ∧ Q (.int (j : Nat)) H) := by
  intro pins s σ H x xs v us Q I rx rxs h
  obtain ⟨F, ds, k, G, y, j, hx, rfl, hy, sk, sl, hj, q⟩ := h
  obtain ⟨u, rfl, ry⟩ := vals1 rxs
  cases hx with
  | tup h1 h2 =>
    cases rx
    obtain ⟨its, rv, ⟨⟨cls, dd, data, sls⟩, ho, hc, n, hdt⟩, hlen⟩ := I.tuple h1.sq
    simp only at hc hdt
    subst hc hdt
    obtain ⟨as, h4⟩ := Dp.readsAll I ds _ its (RpL.dp h2 sl) rv
    obtain ⟨bs, r1⟩ := Dp.reads I k y u (hy.dp sk) ry
    obtain ⟨z, g1, g2, g3⟩ := eqvIndex_spec hj
    have e : its.map (SeqAt.readOf s.heap) = ds := SeqAt.readsAll_map ds its as sl h4
    have hjl : j < its.length := by
      have := (List.getElem?_eq_some_iff.mp g1).1
      rw [← e, List.length_map] at this
      exact this
    have at_ : ∀ (m : Nat) (hm : m < its.toArray.size) (z' : PyData), ds[m]? = some z' → SeqAt.readOf s.heap its.toArray[m] = z' := by
      intro m hm z' hz'
      have hml : m < its.length := by simpa using hm
      rw [← e, List.getElem?_map, List.getElem?_eq_getElem hml] at hz'
      have e1 : SeqAt.readOf s.heap its[m] = z' := Option.some.inj (show some (SeqAt.readOf s.heap its[m]) = some z' from hz')
      simpa using e1
    refine call_meets PySem.F.slot_tuple_index ⟨_, ho, rfl⟩ PySem.F.entry_tuple_index (PySem.F.args_tuple_index_2 _ _)
      (TI.tuple_indexAt _ its.toArray n dd sls u (fun z => PyData.eqv (SeqAt.readOf s.heap z) k) j (by simpa using hjl) ?_ ?_) ⟨ho, SeqAt.items_eqAt (vs := its.toArray) (show ReadsAll s.heap its.toArray.toList ds as from h4) r1 sl (SeqAt.canLay_of_shaped sk) (in_room sk hu), ?_⟩
    · show PyData.eqv (SeqAt.readOf s.heap its.toArray[j]) k = true
      rw [at_ j (by simpa using hjl) z g1]
      exact g2
    · intro m hm hmj
      have hmd : m < ds.length := by rw [← e, List.length_map]; omega
      show PyData.eqv (SeqAt.readOf s.heap its.toArray[m]) k = false
      rw [at_ m hm _ (List.getElem?_eq_getElem hmd)]
      exact g3 m _ hmj (List.getElem?_eq_getElem hmd)
    · exact ⟨.int (j : Nat), H, I.tok _, ⟨_, rfl⟩, q⟩
theorem mt_indexL (hu : X.A.units + 66 < cLine) : MtR X "list.index" (fun x xs H Q => ∃ F ds k G y j, Rp X.K X.prog X.w H x (.list ds) F ∧ xs = [y] ∧ Rp X.K X.prog X.w H y k G ∧ SeqAt.shaped k = true ∧ SeqAt.shaped (.list ds) = true ∧ eqvIndex ds k = some j ∧ Q (.int (j : Nat)) H) := by
  intro pins s σ H x xs v us Q I rx rxs h
  obtain ⟨F, ds, k, G, y, j, hx, rfl, hy, sk, sl, hj, q⟩ := h
  obtain ⟨z, g1, g2, g3⟩ := eqvIndex_spec hj
  cases hx with
  | lst h1 h2 => exact mt_indexD (by omega) pins s σ H _ _ v us Q I rx rxs ⟨_, _, _, _, j, z, rfl, rfl, Rp.dp (.lst h1 h2) sl, hy.dp sk, sl, sk, g1, g2, g3, q⟩

def Me.name : Me → Str
  | .count => "count"
  | .index => "index"
  | .find => "find"
  | .get => "get"
  | .join => "join"
  | .split => "split"
/-- the method m of the data d, when its arguments are there -/
def MAt (X : Cx) (m : Me) (x : V) (d : PyData) (H : Hp) (k : (V → List V → Hp → VK → Prop) → Prop) : Prop := ∃ T id r, MFact T m.name id ∧ MtR X id r ∧ tyW X.K T x H ∧ k r
theorem mat_ok (hu : X.A.units + 66 < cLine) {m : Me} {x : V} {d : PyData} {H1 : Hp} {F : List Addr} (h : Rp X.K X.prog X.w H1 x d F) {ds : List PyData} {r0 : PyData} (hm : meop m d ds = some r0) :
    MAt X m x d H1 fun r => ∀ (xs : List V) (H2 : Hp) (G : List Addr) (Q : VK), Same H1 H2 → RpL X.K X.prog X.w H2 xs ds G → (∀ v H' L, Same H2 H' → Res (K := X.K) (P := X.prog) (w := X.w) H2 H' (F ++ G) v r0 L → Q v H') → r x xs H2 Q := by
  cases m with
  | count =>
    have hm : countD d ds = some r0 := hm
    unfold countD at hm
    split at hm
    · split at hm
      · split at hm
        · rename_i hz
          cases hm
          obtain ⟨z1, z2⟩ := Bool.and_eq_true_iff.mp hz
          refine ⟨"list", _, _, ⟨PySem.F.plainAttrs_list, PySem.F.slot_list_count, PySem.F.type_list_count⟩, mt_countL hu, ?_, fun xs H2 G Q sm hx k => ?_⟩
          · cases h with
            | lst h1 h2 => exact .inl (.inl ⟨rfl, _, .inl (.inl h1)⟩)
          · obtain ⟨y, rfl, hy⟩ := hx.one
            exact ⟨_, _, _, _, y, h.same sm, rfl, hy, z1, shapedL z2, k _ _ _ (Same.refl _) (res_atom (.int _))⟩
        · cases hm
      · split at hm
        · rename_i hz
          cases hm
          obtain ⟨z1, z2⟩ := Bool.and_eq_true_iff.mp hz
          refine ⟨"tuple", _, _, ⟨PySem.F.plainAttrs_tuple, PySem.F.slot_tuple_count, PySem.F.type_tuple_count⟩, mt_countT hu, ?_, fun xs H2 G Q sm hx k => ?_⟩
          · cases h with
            | tup h1 h2 => exact .inr ⟨rfl, _, _, rfl, h1⟩
          · obtain ⟨y, rfl, hy⟩ := hx.one
            exact ⟨_, _, _, _, y, h.same sm, rfl, hy, z1, shapedT z2, k _ _ _ (Same.refl _) (res_atom (.int _))⟩
        · cases hm
      · cases hm
    · cases hm
  | index =>
    have hm : indexD d ds = some r0 := hm
    unfold indexD at hm
    split at hm
    · split at hm
      · split at hm
        · rename_i hz
          obtain ⟨j, hj, e⟩ := Option.map_eq_some_iff.mp hm
          cases e
          obtain ⟨z1, z2⟩ := Bool.and_eq_true_iff.mp hz
          refine ⟨"list", _, _, ⟨PySem.F.plainAttrs_list, PySem.F.slot_list_index, PySem.F.type_list_index⟩, mt_indexL hu, ?_, fun xs H2 G Q sm hx k => ?_⟩
          · cases h with
            | lst h1 h2 => exact .inl (.inl ⟨rfl, _, .inl (.inl h1)⟩)
          · obtain ⟨y, rfl, hy⟩ := hx.one
            exact ⟨_, _, _, _, y, j, h.same sm, rfl, hy, z1, z2, hj, k _ _ _ (Same.refl _) (res_atom (.int _))⟩
        · cases hm
      · split at hm
        · rename_i hz
          obtain ⟨j, hj, e⟩ := Option.map_eq_some_iff.mp hm
          cases e
          obtain ⟨z1, z2⟩ := Bool.and_eq_true_iff.mp hz
          refine ⟨"tuple", _, _, ⟨PySem.F.plainAttrs_tuple, PySem.F.slot_tuple_index, PySem.F.type_tuple_index⟩, mt_indexT hu, ?_, fun xs H2 G Q sm hx k => ?_⟩
          · cases h with
            | tup h1 h2 => exact .inr ⟨rfl, _, _, rfl, h1⟩
          · obtain ⟨y, rfl, hy⟩ := hx.one
            exact ⟨_, _, _, _, y, j, h.same sm, rfl, hy, z1, shapedT z2, hj, k _ _ _ (Same.refl _) (res_atom (.int _))⟩
        · cases hm
      · cases hm
    · cases hm
  | find => cases hm
  | get => cases hm
  | join => cases hm
  | split => cases hm
end
end PD
set_option maxHeartbeats 4000000
namespace PD
open PySem PySem.Spec PyProof.Rows L2

/-! ## set(a tuple of ints), sorted -/
def rSetT (K : PySem.W.Frag) (w : World) : List V → Hp → VK → Prop := fun xs H Q => ∃ (p : Addr) (ns : List Int), xs = [.ref p] ∧ SqT K H p (ns.map V.int) ∧ ns.length < 64 ∧
  ∀ (a : Addr) (c : Nat), H a = none → c ≤ ns.length → Q (.ref a) (upd H a (SetO w a (fun j => decide (j ∈ ns)) c))
section
variable {X : Cx}
theorem cr_setT (hc : X.calm = true) : CallR X (.type "set") (rSetT X.K X.w) := by
  intro pins s σ H xs us Q I r h
  obtain ⟨p, ns, rfl, hx, hl, q⟩ := h
  rw [Vals.ref1 r]
  obtain ⟨its, rv, ht, hz⟩ := I.tuple hx
  have hit : IntsAre its ns := ints_of_vals rv
  refine call_set_tupI ns (I.ok.hd hc) ht (by simpa using hit) (by unfold scanBound; omega) fun h' tk c R hc' kp => ?_
  have hn : H s.heap.objs.size = none := I.hok.fresh (Nat.le_refl _)
  exact ⟨.ref _, upd H s.heap.objs.size (SetO X.w s.heap.objs.size (fun j => decide (j ∈ ns)) c), I.laid (t' := tk) kp (Nat.le_refl _) (setO_new R), rfl, q _ c hn hc'⟩
theorem one_sorted : ∀ {a b : List Int}, a.Pairwise (· < ·) → b.Pairwise (· < ·) → (∀ k, k ∈ a ↔ k ∈ b) → a = b
  | [], [], _, _, _ => rfl
  | [], y :: b, _, _, h => by have := (h y).mpr (by simp); simp at this
  | x :: a, [], _, _, h => by have := (h x).mp (by simp); simp at this
  | x :: a, y :: b, ha, hb, h => by
    obtain ⟨a1, a2⟩ := List.pairwise_cons.mp ha
    obtain ⟨b1, b2⟩ := List.pairwise_cons.mp hb
    have e : x = y := by
      have h1 := (h x).mp (by simp)
      have h2 := (h y).mpr (by simp)
      rcases List.mem_cons.mp h1 with z | z
      · exact z
      · rcases List.mem_cons.mp h2 with z' | z'
        · exact z'.symm
        · have := a1 y z'
          have := b1 x z
          omega
    subst e
    refine congrArg (x :: ·) (one_sorted a2 b2 fun k => ⟨fun hk => ?_, fun hk => ?_⟩)
    · rcases List.mem_cons.mp ((h k).mp (List.mem_cons_of_mem _ hk)) with z | z
      · have := a1 k hk; omega
      · exact z
    · rcases List.mem_cons.mp ((h k).mpr (List.mem_cons_of_mem _ hk)) with z | z
      · have := b1 k hk; omega
      · exact z
theorem dup_mem : ∀ {ns : List Int} {k : Int}, k ∈ dupFree ns ↔ k ∈ ns
  | [], k => by simp [dupFree]
  | x :: r, k => by
    simp only [dupFree, List.mem_cons, List.mem_filter, dup_mem (ns := r), decide_eq_true_eq]
    constructor
    · rintro (h | ⟨h, _⟩)
      · exact .inl h
      · exact .inr h
    · rintro (h | h)
      · exact .inl h
      · by_cases e : k = x
        · exact .inl e
        · exact .inr ⟨h, by simpa using e⟩
theorem dup_nodup : ∀ (ns : List Int), (dupFree ns).Nodup
  | [] => List.nodup_nil
  | x :: r => by
    simp only [dupFree]
    refine List.nodup_cons.mpr ⟨fun h => ?_, (dup_nodup r).filter _⟩
    have := (List.mem_filter.mp h).2
    simp at this
theorem uniq_lt {ns : List Int} : (sortI (dupFree ns)).Pairwise (· < ·) := by
  have h1 : (sortI (dupFree ns)).Pairwise (· ≤ ·) := by
    have := List.pairwise_mergeSort (le := fun a b : Int => decide (a ≤ b)) (fun a b c h1 h2 => by simp at h1 h2 ⊢; omega) (fun a b => by simp; omega) (dupFree ns)
    unfold sortI
    simpa using this
  have h2 : (sortI (dupFree ns)).Nodup := (List.mergeSort_perm _ _).nodup_iff.mpr (dup_nodup ns)
  have h3 : (sortI (dupFree ns)).Pairwise (fun a b => a ≤ b ∧ a ≠ b) := h1.and h2
  exact h3.imp fun ⟨p, q⟩ => by omega
theorem uniq_mem {ns : List Int} {k : Int} : k ∈ sortI (dupFree ns) ↔ k ∈ ns := by
  unfold sortI
  rw [(List.mergeSort_perm _ _).mem_iff, dup_mem]
end
end PD
set_option maxHeartbeats 4000000
namespace PD
open PySem PySem.Spec PyProof.Rows L2

/-! ## a tuple turned round: x[::-1] -/
section
variable {prog : Program} {w : World} {A : Around} {E : Value → Shared → Prop} {s : Shared}
theorem sliceApplied_rev {sl : Addr} {tk : Tok} {n : Nat} {Q : Int × Int × Nat → Shared → Prop} (hs : s.heap.IsSliceOf sl .none .none (.int (-1) tk)) (h : Q ((n : Int) - 1, -1, n) s) : wpAny (model prog w) A (Builtin.Slice.sliceApplied (.ref sl) (pure (n : Int))) Q E s := by
  obtain ⟨os, hos, hcs, hds⟩ := id hs
  unfold Builtin.Slice.sliceApplied Builtin.Slice.sliceFields
  refine wpAny_bind (wpAny_bind (wpAny_field hos hds (x := .none) rfl (wpAny_bind (wpAny_field hos hds (x := .none) rfl (wpAny_bind (wpAny_field hos hds (x := .int (-1) tk) rfl (wpAny_pure ?_)))))))
  refine wpAny_bind (slicePart_int ?_)
  show wpAny _ _ (if ((-1 : Int) == 0) = true then _ else _) _ _ s
  rw [if_neg (by decide)]
  refine wpAny_bind (slicePart_none (wpAny_bind (slicePart_none (wpAny_bind (wpAny_pure ?_)))))
  show wpAny _ _ (pure ((n : Int) - 1, (-1 : Int), Builtin.Slice.slicePlaces ((n : Int) - 1) (-1) (-1))) _ _ s
  have e : Builtin.Slice.slicePlaces ((n : Int) - 1) (-1) (-1) = n := by
    unfold Builtin.Slice.slicePlaces
    rw [if_neg (by decide)]
    split
    · have : -(-1 : Int) = 1 := rfl
      rw [this, Int.ediv_one]
      omega
    · omega
  rw [e]
  exact wpAny_pure h
theorem fm_congr {α β : Type} {f g : α → Option β} : ∀ {l : List α}, (∀ x ∈ l, f x = g x) → l.filterMap f = l.filterMap g
  | [], _ => rfl
  | x :: l, h => by
    rw [List.filterMap_cons, List.filterMap_cons, h x (by simp), fm_congr fun y hy => h y (List.mem_cons_of_mem _ hy)]
theorem pick_rev (xs : Array Value) : ((List.range xs.size).filterMap fun (m : Nat) => xs[((xs.size : Int) - 1 + (m : Int) * (-1)).toNat]?) = xs.toList.reverse := by
  have e : ∀ m ∈ List.range xs.size, xs[((xs.size : Int) - 1 + (m : Int) * (-1)).toNat]? = xs.toList.reverse[m]? := fun m hm => by
    have hm := List.mem_range.mp hm
    have : ((xs.size : Int) - 1 + (m : Int) * (-1)).toNat = xs.size - 1 - m := by omega
    rw [this, List.getElem?_reverse (by simpa using hm)]
    simp
  rw [fm_congr e]
  have l : xs.toList.reverse.length = xs.size := by simp
  generalize xs.toList.reverse = ys at l
  rw [← l]
  clear l e
  induction ys with
  | nil => rfl
  | cons y ys ih =>
    rw [List.length_cons, List.range_succ_eq_map, List.filterMap_cons]
    simp only [List.getElem?_cons_zero]
    rw [List.filterMap_map]
    have : ((fun m => (y :: ys)[m]?) ∘ Nat.succ) = fun m => ys[m]? := by funext m; simp
    rw [this, ih]
theorem getItem_tuple_rev {t sl : Addr} {items : Array Value} {tk : Tok} {Q : Value → Shared → Prop} (ht : IsTup s.heap t items) (hs : s.heap.IsSliceOf sl .none .none (.int (-1) tk))
    (h : Q (.ref s.heap.objs.size) { s with heap := s.heap.push { cls := .type "tuple", data := .seq items.toList.reverse.toArray } }) (hsz : items.size ≤ sizeLine) : wpAny (model prog w) A (getItem (.ref t) (.ref sl)) Q E s := by
  have htake : sizeOk (.seq items.toList.reverse.toArray) := by
    show items.toList.reverse.toArray.size ≤ sizeLine
    simpa using hsz
  obtain ⟨os, hos, hcs, hds⟩ := id hs
  have hTs : s.TypeIs (.ref sl) "slice" := ⟨os, hos, hcs⟩
  unfold getItem
  try with_reducible refine wpAny_holding ?_
  first | refine wpAny_bind (wpAny_pure ?_) | skip
  refine wpAny_bind (wpAny_sequenceKey ht.typeIs (by decide) ?_)
  refine wpAny_bind (wpAny_callSpecial?_slot (name := Str.ofString "__getitem__") ht.typeIs PyProof.Rows.slot_tuple_getitem
    (wpAny_call_entry PyProof.Rows.slot_tuple_getitem ht.typeIs entry_tuple_getitem ?_ (args_tuple_getitem _ _)))
  show wpAny _ _ (Builtin.Tuple.tupleItemsOf (.ref t) >>= _) _ _ s
  refine wpAny_bind (tupleItemsOf_ ht ?_)
  refine wpAny_bind (wpAny_typeOf hTs ?_)
  rw [if_pos (by decide)]
  refine wpAny_bind (sliceApplied_rev hs ?_)
  have hno : ¬ (((items.size : Int) - 1 == 0 && (-1 : Int) == 1 && items.size == items.size) = true) := by simp
  show wpAny _ _ (if ((items.size : Int) - 1 == 0 && (-1 : Int) == 1 && items.size == items.size) = true then _ else _) _ _ s
  rw [if_neg hno]
  have pk : (List.range items.size).filterMap (fun (m : Nat) => items[((items.size : Int) - 1 + (m : Int) * (-1)).toNat]?) = items.toList.reverse := pick_rev items
  rw [pk]
  first
    | exact wpAny_bind (m := Builtin.Tuple.tupleExact _) (wpAny_newObj_type (wpAny_pure ⟨_, rfl, wpAny_pure h⟩) htake)
    | exact wpAny_bind (m := Builtin.Tuple.tupleExact _) (wpAny_newObj_type (wpAny_bind (wpAny_pure (wpAny_pure ⟨_, rfl, wpAny_pure h⟩))) htake)
    | exact wpAny_bind (wpAny_bind (m := Builtin.Tuple.tupleExact _) (wpAny_newObj_type (wpAny_pure (wpAny_pure ⟨_, rfl, wpAny_pure h⟩)) htake))
    | exact wpAny_bind (wpAny_bind (m := Builtin.Tuple.tupleExact _) (wpAny_newObj_type (wpAny_pure ⟨_, rfl, wpAny_pure h⟩) htake))
end
def tRev (K : PySem.W.Frag) (te : TE) : TE := fun σ H Q => te σ H fun x H1 => ∃ a xs, x = .ref a ∧ SqT K H1 a xs ∧ NewT H1 xs.reverse Q
section
variable {X : Cx} {e : Expr} {te : TE}
theorem pe_rev {k : Nat} {p1 p2 p3 pos : Pos} (he : PE X e te) : PE X (.Subscript e (.Slice none none (some (.UnaryOp .USub (.Constant (.int 1) k p1) p2)) p3) pos) (tRev X.K te) := by
  refine ⟨fun pins s σ H Q I h => ?_⟩
  refine Subscript_ (thn (he.run pins s σ H _ I h) fun v s1 ⟨x, H1, I1, r1, q1⟩ => ?_)
  obtain ⟨a, xs, ex, hx, q⟩ := q1
  subst ex
  cases r1
  have hst : PO X (some (.UnaryOp .USub (.Constant (.int 1) k p1) p2)) (tPart (tUn (rU fun i => .int (-i)) (tC (.int 1)))) := po_some (pe_un un_neg pe_int)
  refine wpAny_Slice (thn (po_none.run pins s1 σ H1 (fun o H2 => o = none ∧ H2 = H1) I1 ⟨rfl, rfl⟩) fun vl s2 ⟨l, H2, I2, pl, el, e2⟩ => ?_)
  subst el e2
  refine thn (po_none.run pins s2 σ H2 (fun o H3 => o = none ∧ H3 = H2) I2 ⟨rfl, rfl⟩) fun vu s3 ⟨u, H3, I3, pu, eu, e3⟩ => ?_
  subst eu e3
  refine thn (hst.run pins s3 σ H3 (fun o H4 => o = some (-1) ∧ H4 = H3) I3 ⟨1, rfl, -1, rfl, rfl, rfl⟩) fun vs s4 ⟨o, H4, I4, ps, eo, e4⟩ => ?_
  subst eo e4
  cases pl
  cases pu
  cases ps with
  | int _ tk =>
    have I5 : Inv X pins σ H4 { s4 with heap := s4.heap.push { cls := .type "slice", data := .fields #[.none, .none, .int (-1) tk] } } := I4.kept (t' := s4.toks) fun b ob q => Heap.get?_push_of_some _ q
    obtain ⟨its, r, ht, hz⟩ := I5.tuple hx
    have hlen := r.length
    show wpAny (model X.prog X.w) X.A (subscriptTail e (.Slice none none (some (.UnaryOp .USub (.Constant (.int 1) k p1) p2)) p3) (.ref a) (.ref s4.heap.objs.size)) (EP X pins σ Q) X.xe { s4 with heap := s4.heap.push { cls := .type "slice", data := .fields #[.none, .none, .int (-1) tk] } }
    refine tail_any (ops := [.ref a, .ref s4.heap.objs.size]) ht.typeIs PyProof.Rows.slot_tuple_getitem.lookup ?_ (by with_unfolding_all rfl)
    refine getItem_tuple_rev ht (Heap.IsSliceOf.new ..) ?_ (by rw [List.size_toArray]; omega)
    exact NewT.ep (s := { s4 with heap := s4.heap.push { cls := .type "slice", data := .fields #[.none, .none, .int (-1) tk] } }) (t' := s4.toks) (us := its.reverse) q I5 (fun b o z => Heap.get?_push_of_some _ z) (Nat.le_refl _) (Heap.get?_push_size _ rfl) r.reverse (by rw [List.length_reverse]; omega)
theorem PE.or {t t' : TE} (h : PE X e t) (h' : PE X e t') : PE X e (fun σ H Q => t σ H Q ∨ t' σ H Q) := ⟨fun pins s σ H Q I q => q.elim (h.run pins s σ H Q I) (h'.run pins s σ H Q I)⟩
theorem RpL.reverse {K : PySem.W.Frag} {P : Program} {w : World} {H : Hp} : ∀ {ds : List PyData} {vs : List V} {F : List Addr}, RpL K P w H vs ds F → ∃ G, RpL K P w H vs.reverse ds.reverse G ∧ ∀ a ∈ G, a ∈ F
  | [], _, _, h => by
    cases h
    exact ⟨[], .nil, by simp⟩
  | d :: ds, _, _, h => by
    cases h with
    | @cons v _ vs _ F1 F2 h1 h2 =>
      obtain ⟨G, g1, g2⟩ := RpL.reverse h2
      refine ⟨G ++ (F1 ++ []), by rw [List.reverse_cons, List.reverse_cons]; exact g1.append (.cons h1 .nil), fun a ha => ?_⟩
      simp only [List.append_nil, List.mem_append] at ha ⊢
      rcases ha with z | z
      · exact .inr (g2 a z)
      · exact .inl z
end
end PD
set_option maxHeartbeats 4000000
namespace PD
open PySem PySem.Spec PyProof.Rows L2

section
variable {K : PySem.W.Frag} {P : Program} {w : World} {H : Hp}
mutual
theorem Rp.alloc : ∀ {d : PyData} {v : V} {F : List Addr}, Rp K P w H v d F → ∀ a ∈ F, H a ≠ none
  | .none, _, _, h, a, ha => by cases h; simp at ha
  | .bool _, _, _, h, a, ha => by cases h; simp at ha
  | .int _, _, _, h, a, ha => by cases h; simp at ha
  | .str _, _, _, h, a, ha => by cases h; simp at ha
  | .list _, _, _, h, a, ha => by
    cases h with
    | lst h1 h2 =>
      rcases List.mem_cons.mp ha with e | z
      · rw [e, h1]; simp
      · exact RpL.alloc h2 a z
  | .tuple _, _, _, h, a, ha => by
    cases h with
    | tup h1 h2 => exact RpL.alloc h2 a ha
  | .dict _, _, _, h, a, ha => by
    cases h with
    | dk h1 h2 =>
      rcases List.mem_cons.mp ha with e | z
      · rw [e, h1]; simp
      · exact RpK.alloc h2 a z
    | dx h1 h0 h2 =>
      rcases List.mem_cons.mp ha with e | z
      · rw [e, h1]; simp
      · exact RpX.alloc h2 a z
    | fz h1 => simp at ha
theorem RpL.alloc : ∀ {ds : List PyData} {vs : List V} {F : List Addr}, RpL K P w H vs ds F → ∀ a ∈ F, H a ≠ none
  | [], _, _, h, a, ha => by cases h; simp at ha
  | d :: ds, _, _, h, a, ha => by
    cases h with
    | cons h1 h2 =>
      rcases List.mem_append.mp ha with z | z
      · exact Rp.alloc h1 a z
      · exact RpL.alloc h2 a z
theorem RpK.alloc : ∀ {ds : List (PyData × PyData)} {vs : List (Key × V)} {F : List Addr}, RpK K P w H vs ds F → ∀ a ∈ F, H a ≠ none
  | [], _, _, h, a, ha => by cases h; simp at ha
  | (k, d) :: ds, _, _, h, a, ha => by
    cases h with
    | int h1 h2 =>
      rcases List.mem_append.mp ha with z | z
      · exact Rp.alloc h1 a z
      · exact RpK.alloc h2 a z
    | str h1 h2 =>
      rcases List.mem_append.mp ha with z | z
      · exact Rp.alloc h1 a z
      · exact RpK.alloc h2 a z
theorem RpX.alloc : ∀ {ds : List (PyData × PyData)} {vs : List (NestedKey × Addr × Value)} {F : List Addr}, RpX K P w H vs ds F → ∀ a ∈ F, H a ≠ none
  | [], _, _, h, a, ha => by cases h; simp at ha
  | (k, d) :: ds, _, _, h, a, ha => by
    cases h with
    | cons _ _ _ _ h1 h2 =>
      rcases List.mem_append.mp ha with z | z
      · exact Rp.alloc h1 a z
      · exact RpX.alloc h2 a z
end
end

section
variable {K : PySem.W.Frag} {P : Program} {w : World} {B : List Base} {σ : L2.St} {H H0 : Hp} {ρ : Rho} {φ : Fp}
def Fp.set (φ : Fp) (i : Nat) (F : List Addr) : Fp := fun j => if j = i then F else φ j
theorem Fp.set_same {φ : Fp} {i : Nat} {F : List Addr} : φ.set i F i = F := by unfold Fp.set; rw [if_pos rfl]
theorem Fp.set_ne {φ : Fp} {i j : Nat} {F : List Addr} (h : j ≠ i) : φ.set i F j = φ j := by unfold Fp.set; rw [if_neg h]

def Sl.of (d : PyData) (t : Tn) : Sl := if imm d = true then .own d else match t with
  | none => .own d
  | some R => .vw R d
theorem put_eq (ρ : Rho) (i : Nat) (d : PyData) (t : Tn) : put ρ i d t = ρ.set i (Sl.of d t) := rfl
theorem Sl.of_val (d : PyData) (t : Tn) : (Sl.of d t).val = some d := by
  unfold Sl.of
  split
  · rfl
  · cases t <;> rfl
/-- a value at hand becomes a slot's -/
theorem Sta.put (S : Sta K P w B σ H0 ρ φ) (s : Same H0 H) {i : Nat} {v : V} {d : PyData} {t : Tn} {F : List Addr} (hp : i ≠ 0 ∨ ∀ b ∈ B, b.pin = none) (h : VC K P w ρ φ H0 H t v d F) :
    Sta K P w B (σ.set i (some v)) H (put ρ i d t) (φ.set i F) := by
  have S1 := S.same s
  rw [put_eq]
  by_cases hi : i < ρ.length
  case neg =>
    have hl := S.len
    rw [List.set_eq_of_length_le (l := ρ) (by omega), List.set_eq_of_length_le (l := σ) (by omega)]
    have e : ∀ j t', ρ[j]? = some t' → φ.set i F j = φ j := fun j t' e => Fp.set_ne (by have := (List.getElem?_eq_some_iff.mp e).1; omega)
    exact ⟨S1.len, fun j t' d' e1 e2 => by rw [e j t' e1]; exact S1.val j t' d' e1 e2, fun j t' e1 e2 => by rw [e j t' e1]; exact S1.tree j t' e1 e2, fun j k t1 t2 e1 e2 a b c f => by rw [e j t1 e1, e k t2 e2]; exact S1.disj j k t1 t2 e1 e2 a b c f, S1.chg, fun b hb j t' e1 e2 e3 => by rw [e j t' e1]; exact S1.bok b hb j t' e1 e2 e3, S1.pin⟩
  case pos =>
  have hσ : i < σ.length := by rw [← S.len]; exact hi
  -- what is new is apart from what the slots hold
  have new : ∀ {j : Nat} {s' : Sl} {d' : PyData}, ρ[j]? = some s' → s'.val = some d' → (∀ a ∈ F, H0 a = none) → ∀ a ∈ φ j, a ∉ F := fun {j s' d'} e1 e2 hF a ha hm => by
    obtain ⟨v', _, r⟩ := S.val j s' d' e1 e2
    exact r.alloc a ha (hF a hm)
  have own : (Sl.of d t).ol = true → (∀ a ∈ F, H0 a = none ∧ Mut (H a)) ∧ F.Nodup := fun ho => by
    unfold Sl.of at ho
    by_cases im : imm d = true
    · rw [h.1.imm im]; simp
    · rw [if_neg im] at ho
      have q := h.2
      cases t with
      | none => exact q
      | some R => cases ho
  refine ⟨by simp [S.len], fun j s' d' e1 e2 => ?_, fun j s' e1 e2 => ?_, fun j k s1 s2 e1 e2 hne hl ho hr a ha => ?_, S1.chg, fun b hb j s' e1 e2 e3 a ha => ?_, fun b hb v' e => ?_⟩
  · by_cases hj : j = i
    · subst hj
      rw [List.getElem?_set_self hi] at e1
      cases e1
      rw [Sl.of_val] at e2
      cases e2
      exact ⟨v, List.getElem?_set_self hσ, by rw [Fp.set_same]; exact h.1⟩
    · rw [List.getElem?_set_ne (Ne.symm hj)] at e1
      obtain ⟨v', q1, q2⟩ := S1.val j s' d' e1 e2
      exact ⟨v', by rw [List.getElem?_set_ne (Ne.symm hj)]; exact q1, by rw [Fp.set_ne hj]; exact q2⟩
  · by_cases hj : j = i
    · subst hj
      rw [List.getElem?_set_self hi] at e1
      cases e1
      rw [Fp.set_same]
      exact ⟨(own e2).2, fun a ha => ((own e2).1 a ha).2⟩
    · rw [List.getElem?_set_ne (Ne.symm hj)] at e1
      rw [Fp.set_ne hj]
      exact S1.tree j s' e1 e2
  · by_cases hj : j = i
    · subst hj
      have hk : k ≠ j := Ne.symm hne
      rw [List.getElem?_set_self hi] at e1
      cases e1
      rw [List.getElem?_set_ne (Ne.symm hk)] at e2
      rw [Fp.set_same] at ha
      rw [Fp.set_ne hk]
      have q := h.2
      unfold Sl.of at hr
      by_cases im : imm d = true
      · rw [h.1.imm im] at ha; simp at ha
      · rw [if_neg im] at hr
        cases t with
        | none =>
          intro hm
          exact S.alloc e2 ho hm (q.1 a ha).1
        | some R => exact q k s2 e2 ho hr a ha
    · rw [List.getElem?_set_ne (Ne.symm hj)] at e1
      rw [Fp.set_ne hj] at ha
      by_cases hk : k = i
      · subst hk
        rw [List.getElem?_set_self hi] at e2
        cases e2
        rw [Fp.set_same]
        cases hv : s1.val with
        | none => exact absurd hv hl
        | some d' => exact new e1 hv (fun a ha => ((own ho).1 a ha).1) a ha
      · rw [List.getElem?_set_ne (Ne.symm hk)] at e2
        rw [Fp.set_ne hk]
        exact S1.disj j k s1 s2 e1 e2 hne hl ho hr a ha
  · by_cases hj : j = i
    · subst hj
      rw [List.getElem?_set_self hi] at e1
      cases e1
      rw [Fp.set_same] at ha
      exact .inl ((S.chg b hb).2 a ((own e2).1 a ha).1)
    · rw [List.getElem?_set_ne (Ne.symm hj)] at e1
      rw [Fp.set_ne hj] at ha
      exact S1.bok b hb j s' e1 e2 e3 a ha
  · rcases hp with hp | hp
    · rw [List.getElem?_set_ne hp]
      exact S.pin b hb v' e
    · rw [hp b hb] at e; cases e
/-- a slot is forgotten -/
theorem Sta.drop (S : Sta K P w B σ H ρ φ) (i : Nat) : Sta K P w B σ H (ρ.set i .un) φ := by
  have back : ∀ {j : Nat} {s : Sl}, (ρ.set i .un)[j]? = some s → ρ[j]? = some s ∨ s = .un := fun {j s} e => by
    by_cases hj : j = i
    · subst hj
      by_cases hl : j < ρ.length
      · rw [List.getElem?_set_self hl] at e; cases e; exact .inr rfl
      · rw [List.getElem?_eq_none (by rw [List.length_set]; omega)] at e; cases e
    · rw [List.getElem?_set_ne (Ne.symm hj)] at e; exact .inl e
  refine ⟨by simp [S.len], fun j s d e1 e2 => ?_, fun j s e1 e2 => ?_, fun j k s1 s2 e1 e2 hne hl ho hr => ?_, S.chg, fun b hb j s e1 e2 e3 => ?_, S.pin⟩
  · rcases back e1 with z | z
    · exact S.val j s d z e2
    · subst z; cases e2
  · rcases back e1 with z | z
    · exact S.tree j s z e2
    · subst z; cases e2
  · rcases back e1 with z | z
    · rcases back e2 with y | y
      · exact S.disj j k s1 s2 z y hne hl ho hr
      · subst y; cases ho
    · subst z; exact absurd rfl hl
  · rcases back e1 with z | z
    · exact S.bok b hb j s z e2 e3
    · subst z; cases e2
/-- names of a block forgotten, in the slots too -/
theorem Sta.wipe (S : Sta K P w B σ H ρ φ) : ∀ (vs : List Nat), Sta K P w [] (wipe σ vs) H (wipeR ρ vs) φ
  | [] => ⟨S.len, S.val, S.tree, S.disj, fun _ h => by simp at h, fun _ h => by simp at h, fun _ h => by simp at h⟩
  | v :: vs => by
    have S1 := Sta.wipe S vs
    have S2 := S1.drop v
    refine ⟨by simpa [L2.wipe, wipeR] using S1.len, fun j s d e1 e2 => ?_, S2.tree, S2.disj, fun _ h => by simp at h, fun _ h => by simp at h, fun _ h => by simp at h⟩
    obtain ⟨u, q1, q2⟩ := S2.val j s d e1 e2
    refine ⟨u, ?_, q2⟩
    have hj : j ≠ v := fun e => by
      subst e
      by_cases hl : j < (wipeR ρ vs).length
      · unfold wipeR at e1
        rw [List.getElem?_set_self hl] at e1
        cases e1; cases e2
      · unfold wipeR at e1
        rw [List.getElem?_eq_none (by rw [List.length_set]; omega)] at e1; cases e1
    unfold L2.wipe
    rw [List.getElem?_set_ne (Ne.symm hj)]
    exact q1
theorem VC.item {ρ : Rho} {φ : Fp} {t : Tn} {F G : List Addr} {v : V} {d : PyData} {H1 : Hp} (hr : Rp K P w H1 v d G) (hi : ∀ a ∈ G, a ∈ F) (hF : ∀ (j : Nat) (s : Sl), ρ[j]? = some s → s.ol = true → j ∉ t.getD [] → ∀ a ∈ F, a ∉ φ j) :
    VC K P w ρ φ H0 H1 (if imm d = true then none else some (t.getD [])) v d G := by
  refine ⟨hr, ?_⟩
  by_cases im : imm d = true
  · rw [if_pos im, hr.imm im]
    simp
  · rw [if_neg im]
    exact fun j s e o hj a ha => hF j s e o hj a (hi a ha)
/-- what is at hand, against the slots -/
theorem VC.apart {ρ : Rho} {φ : Fp} {t : Tn} {F : List Addr} {v : V} {d : PyData} {H1 : Hp} (S : Sta K P w B σ H0 ρ φ) (h : VC K P w ρ φ H0 H1 t v d F) : ∀ (j : Nat) (s : Sl), ρ[j]? = some s → s.ol = true → j ∉ t.getD [] → ∀ a ∈ F, a ∉ φ j := fun j s e o hj a ha hm => by
  have q := h.2
  cases t with
  | none => exact S.alloc e o hm (q.1 a ha).1
  | some R => exact q j s e o hj a ha hm
end
end PD
set_option maxHeartbeats 4000000
namespace L2
open PySem PySem.Spec PyProof.Rows
theorem PE.weak {X : Cx} {e : Expr} {t t' : TE} (h : PE X e t) (w : ∀ σ H Q, t' σ H Q → t σ H Q) : PE X e t' := ⟨fun pins s σ H Q I q => h.run pins s σ H Q I (w _ _ _ q)⟩
theorem PT.weak {X : Cx} {e : Expr} {t t' : TT} (h : PT X e t) (w : ∀ σ H Q, t' σ H Q → t σ H Q) : PT X e t' := ⟨fun pins s σ H Q I q => h.run pins s σ H Q I (w _ _ _ q)⟩
theorem PW.weak {X : Cx} {e : Expr} {t t' : TT} (h : PW X e t) (w : ∀ σ H Q, t' σ H Q → t σ H Q) : PW X e t' := ⟨fun wh pins s σ H Q I q => h.run wh pins s σ H Q I (w _ _ _ q)⟩
theorem PA.weak {X : Cx} {e : List Expr} {t t' : TA} (h : PA X e t) (w : ∀ σ H Q, t' σ H Q → t σ H Q) : PA X e t' := ⟨fun pos pins s σ H Q I q => h.run pos pins s σ H Q I (w _ _ _ q)⟩
theorem PS.weak {X : Cx} {e : Stmt} {t t' : TS} (h : PS X e t) (w : ∀ D σ H, t' D σ H → t D σ H) : PS X e t' := ⟨fun pins s σ H D I q => h.run pins s σ H D I (w _ _ _ q)⟩
theorem PSs.weak {X : Cx} {e : List Stmt} {t t' : TS} (h : PSs X e t) (w : ∀ D σ H, t' D σ H → t D σ H) : PSs X e t' := ⟨fun pins s σ H D I q => h.run pins s σ H D I (w _ _ _ q)⟩
theorem PI.weak {X : Cx} {tg e : Expr} {t t' : TI} (h : PI X tg e t) (w : ∀ σ H Q, t' σ H Q → t σ H Q) : PI X tg e t' := ⟨fun pins s σ H Q I q => h.run pins s σ H Q I (w _ _ _ q)⟩
theorem PG.weak {X : Cx} {e : Expr} {t t' : TG} (h : PG X e t) (w : ∀ v σ H Q, t' v σ H Q → t v σ H Q) : PG X e t' := ⟨fun pins s σ H v u Q I r q => h.run pins s σ H v u Q I r (w _ _ _ _ q)⟩
theorem PI.or {X : Cx} {tg e : Expr} {t t' : TI} (h : PI X tg e t) (h' : PI X tg e t') : PI X tg e (fun σ H Q => t σ H Q ∨ t' σ H Q) := ⟨fun pins s σ H Q I q => q.elim (h.run pins s σ H Q I) (h'.run pins s σ H Q I)⟩

end L2
namespace PD
open PySem PySem.Spec PyProof.Rows L2

section
variable (X : Cx) (B : List Base) (W : WX)
/-- what an exception meets -/
def EX (c : Str) (σ : L2.St) (H : Hp) : Prop := ∀ C H', X.mg c = some (.ref C) → Same H H' → W (.ref C) none σ H'
def RD (r : Rho → R) : TE := fun σ H Q => ∃ ρ φ, Sta X.K X.prog X.w B σ H ρ φ ∧ match r ρ with
  | .ok d t => ∀ v H' F, Same H H' → VC X.K X.prog X.w ρ φ H H' t v d F → Q v H'
  | .ex c => EX X W c σ H
  | .no => False
def RDT (r : Rho → RT) : TT := fun σ H Q => ∃ ρ φ, Sta X.K X.prog X.w B σ H ρ φ ∧ match r ρ with
  | .ok b => ∀ H', Same H H' → Q b H'
  | .ex c => EX X W c σ H
  | .no => False
def RDL (r : Rho → RL) : TA := fun σ H Q => ∃ ρ φ, Sta X.K X.prog X.w B σ H ρ φ ∧ match r ρ with
  | .ok ds ts => ∀ vs H' Fs, Same H H' → VCL X.K X.prog X.w ρ φ H' H ts vs ds Fs → Q vs H'
  | .ex c => EX X W c σ H
  | .no => False
end

section
variable {X : Cx} {B : List Base} {W : WX} {a b c : Expr} {A A' A'' : Rho → R} {pos : Pos}
theorem EX.same {c : Str} {σ : L2.St} {H H' : Hp} (h : EX X W c σ H) (s : Same H H') : EX X W c σ H' := fun C H'' e s' => h C H'' e (s.trans s')
/-- a first part, then the rest -/
theorem RD.bind {σ : L2.St} {H : Hp} {ρ : Rho} {φ : Fp} (S : Sta X.K X.prog X.w B σ H ρ φ) {k : PyData → Tn → R} {Q : V → Hp → Prop} {r : R}
    (hok : ∀ d t v H' F, A ρ = .ok d t → Same H H' → VC X.K X.prog X.w ρ φ H H' t v d F → r = k d t → Q v H') (hex : ∀ c, r = .ex c → EX X W c σ H) (hno : r ≠ .no) (hr : r = (A ρ).bind k) : RD X B W A σ H Q := by
  refine ⟨ρ, φ, S, ?_⟩
  cases e : A ρ with
  | ok d t => exact fun v H' F s vc => hok d t v H' F e s vc (by rw [hr, e]; rfl)
  | ex c => exact hex c (by rw [hr, e]; rfl)
  | no => exact hno (by rw [hr, e]; rfl)
/-- what is left of a result -/
def Left (X : Cx) (W : WX) (ρ : Rho) (φ : Fp) (σ : L2.St) (H0 H : Hp) (Q : VK) (r : R) : Prop := match r with
  | .ok d t => ∀ v H' F, Same H H' → VC X.K X.prog X.w ρ φ H0 H' t v d F → Q v H'
  | .ex c => EX X W c σ H
  | .no => False
theorem Left.ends {ρ : Rho} {φ : Fp} {σ : L2.St} {H0 H : Hp} {Q : VK} {r : R} (h : Left X W ρ φ σ H0 H Q r) : (∀ c, r = .ex c → EX X W c σ H) ∧ r ≠ .no := by
  cases r with
  | ok d t => exact ⟨fun c e => (nomatch e), fun e => (nomatch e)⟩
  | ex c => exact ⟨fun c' e => by cases e; exact h, fun e => (nomatch e)⟩
  | no => exact h.elim
theorem Left.same {ρ : Rho} {φ : Fp} {σ : L2.St} {H0 H H1 : Hp} {Q : VK} {r : R} (h : Left X W ρ φ σ H0 H Q r) (s : Same H H1) : Left X W ρ φ σ H0 H1 Q r := by
  cases r with
  | ok d t => exact fun v H' F s' vc => h v H' F (s.trans s') vc
  | ex c => exact EX.same h s
  | no => exact h
/-- a part is reckoned: the rest is left -/
theorem RD.then {σ : L2.St} {H : Hp} {ρ : Rho} {φ : Fp} {k : PyData → Tn → R} {Q0 : VK} {Q : V → Hp → Prop} (S : Sta X.K X.prog X.w B σ H ρ φ) (h : Left X W ρ φ σ H H Q0 ((A ρ).bind k))
    (hok : ∀ d t v H' F, Same H H' → VC X.K X.prog X.w ρ φ H H' t v d F → Left X W ρ φ σ H H' Q0 (k d t) → Q v H') : RD X B W A σ H Q := by
  refine ⟨ρ, φ, S, ?_⟩
  cases e : A ρ with
  | ok d t =>
    rw [e] at h
    exact fun v H' F s vc => hok d t v H' F s vc (Left.same h s)
  | ex c => rw [e] at h; exact h
  | no => rw [e] at h; exact h
/-- .. behind what is at hand already -/
theorem RD.next {σ : L2.St} {H0 H : Hp} {ρ : Rho} {φ : Fp} {k : PyData → Tn → R} {Q0 : VK} {Q : V → Hp → Prop} (S : Sta X.K X.prog X.w B σ H0 ρ φ) (s0 : Same H0 H) (h : Left X W ρ φ σ H0 H Q0 ((A ρ).bind k))
    (hok : ∀ d t v H' F, Same H H' → VC X.K X.prog X.w ρ φ H H' t v d F → Left X W ρ φ σ H0 H' Q0 (k d t) → Q v H') : RD X B W A σ H Q := by
  refine ⟨ρ, φ, S.same s0, ?_⟩
  cases e : A ρ with
  | ok d t =>
    rw [e] at h
    exact fun v H' F s vc => hok d t v H' F s vc (Left.same h s)
  | ex c => rw [e] at h; exact h
  | no => rw [e] at h; exact h
theorem VC.from {ρ : Rho} {φ : Fp} {H0 H H1 : Hp} {t : Tn} {v : V} {d : PyData} {F : List Addr} (s : Same H0 H) (h : VC X.K X.prog X.w ρ φ H H1 t v d F) : VC X.K X.prog X.w ρ φ H0 H1 t v d F := by
  refine ⟨h.1, ?_⟩
  have q := h.2
  cases t with
  | none => exact ⟨fun a ha => ⟨s.free (q.1 a ha).1, (q.1 a ha).2⟩, q.2⟩
  | some R => exact q
theorem vc_atom {ρ : Rho} {φ : Fp} {H0 H : Hp} {v : V} {d : PyData} (h : Rp X.K X.prog X.w H v d []) : VC X.K X.prog X.w ρ φ H0 H none v d [] := ⟨h, by simp⟩
/-- it ends with a value -/
theorem Left.fin {ρ : Rho} {φ : Fp} {σ : L2.St} {H0 H : Hp} {Q : VK} {d : PyData} {t : Tn} (h : Left X W ρ φ σ H0 H Q (.ok d t)) {v : V} {H' : Hp} {F : List Addr} (s : Same H H') (vc : VC X.K X.prog X.w ρ φ H0 H' t v d F) : Q v H' := h v H' F s vc

theorem bind_ok {r : R} {k : PyData → Tn → R} {d : PyData} {t : Tn} (e : r.bind k = .ok d t) : ∃ x tx, r = .ok x tx ∧ k x tx = .ok d t := by
  cases r with
  | ok x tx => exact ⟨x, tx, rfl, e⟩
  | ex c => cases e
  | no => cases e
theorem optB_ok {o : Option Bool} {d : PyData} {t : Tn} (e : optB o = .ok d t) : ∃ k, d = .bool k := by
  unfold optB at e
  split at e
  · cases e; exact ⟨_, rfl⟩
  · cases e
/-- a reading of a value as one of a test -/
def LeftT (X : Cx) (W : WX) (σ : L2.St) (H : Hp) (Q : Bool → Hp → Prop) (r : RT) : Prop := match r with
  | .ok b => ∀ H', Same H H' → Q b H'
  | .ex c => EX X W c σ H
  | .no => False
theorem left_of_ofR {ρ : Rho} {φ : Fp} {σ : L2.St} {H : Hp} {Q : Bool → Hp → Prop} {r : R} (h : LeftT X W σ H Q (ofR r)) (hb : ∀ d t, r = .ok d t → ∃ k, d = .bool k) : Left X W ρ φ σ H H (fun v H' => ∃ k, v = .bl k ∧ Q k H') r := by
  cases r with
  | ok d t =>
    obtain ⟨k, rfl⟩ := hb d t rfl
    intro v H' F s vc
    have r := vc.1
    cases r
    exact ⟨_, rfl, h H' s⟩
  | ex c => exact h
  | no => exact h
theorem LeftT.same {σ : L2.St} {H H' : Hp} {Q : Bool → Hp → Prop} {r : RT} (h : LeftT X W σ H Q r) (s : Same H H') : LeftT X W σ H' Q r := by
  cases r with
  | ok b => exact fun H'' s' => h H'' (s.trans s')
  | ex c => exact EX.same h s
  | no => exact h

/-! ## expressions -/
theorem rd_name {i : Nat} {x : Str} (hN : X.N[i]? = some x) (hv : Vis X.env.scope x) (hd : (x == ("__debug__" : Str)) = false) (hcd : (x == ("__classdict__" : Str)) = false) : PE X (.Name x pos) (RD X B W fun ρ => rd ρ i) := by
  refine (pe_var hN hv hd hcd).weak fun σ H Q ⟨ρ, φ, S, h⟩ => ?_
  have h : Left X W ρ φ σ H H Q (rd ρ i) := h
  unfold rd Rho.at at h
  cases e : ρ[i]? with
  | none =>
    rw [List.getD_eq_getElem?_getD, e] at h
    exact h.elim
  | some s =>
    rw [List.getD_eq_getElem?_getD, e] at h
    have go : ∀ {d : PyData} {R : List Nat} {t : Tn}, s.val = some d → (∀ (j : Nat) (s' : Sl), ρ[j]? = some s' → s'.ol = true → j ∉ R → ∀ a ∈ φ i, a ∉ φ j) → Left X W ρ φ σ H H Q (.ok d (if imm d = true then none else some R)) → tVar i σ H Q := fun {d R t} hv ha h => by
      obtain ⟨v, q1, q2⟩ := S.val i s d e hv
      refine ⟨v, q1, h v H (φ i) (Same.refl _) ⟨q2, ?_⟩⟩
      by_cases im : imm d = true
      · rw [if_pos im, q2.imm im]; simp
      · rw [if_neg im]; exact ha
    cases s with
    | un => exact h.elim
    | own d => exact go (t := none) rfl (fun j s' e' o hj a ha => S.disj i j _ s' e e' (fun z => hj (by simp [z])) (by simp [Sl.val]) o (by simp [Sl.roots]) a ha) h
    | lk d => exact go (t := none) rfl (fun j s' e' o hj a ha => S.disj i j _ s' e e' (fun z => hj (by simp [z])) (by simp [Sl.val]) o (by simp [Sl.roots]) a ha) h
    | vw R d => exact go (t := none) rfl (fun j s' e' o hj a ha => S.disj i j _ s' e e' (fun z => hj (by simp [z])) (by simp [Sl.val]) o (fun z => hj (by simp only [Sl.roots] at z; simp [z])) a ha) h
theorem rd_none {j} : PE X (.Constant .none j pos) (RD X B W fun _ => .ok .none none) := pe_non.weak fun _ H _ ⟨_, _, _, h⟩ => h _ H [] (Same.refl _) (vc_atom .non)
theorem rd_bool {j k} : PE X (.Constant (.bool k) j pos) (RD X B W fun _ => .ok (.bool k) none) := pe_bl.weak fun _ H _ ⟨_, _, _, h⟩ => h _ H [] (Same.refl _) (vc_atom (.bl _))
theorem rd_int {j k} : PE X (.Constant (.int k) j pos) (RD X B W fun _ => .ok (.int k) none) := pe_int.weak fun _ H _ ⟨_, _, _, h⟩ => h _ H [] (Same.refl _) (vc_atom (.int _))
theorem rd_str {j k} : PE X (.Constant (.str k) j pos) (RD X B W fun _ => .ok (.str k) none) := pe_str.weak fun _ H _ ⟨_, _, _, h⟩ => h _ H [] (Same.refl _) (vc_atom (.str _))
theorem rd_glob {x : Str} {v : V} {u : Value} {d : PyData} (hg : Gl X x) (hm : X.mg x = some u) (r : RelV v u) (hd : (x == ("__debug__" : Str)) = false) (hr : ∀ H, Rp X.K X.prog X.w H v d []) : PE X (.Name x pos) (RD X B W fun _ => .ok d none) :=
  (pe_glob hg hm r hd).weak fun _ H _ ⟨_, _, _, h⟩ => h _ H [] (Same.refl _) (vc_atom (hr H))
theorem VCL.two {ρ : Rho} {φ : Fp} {Hs H1 H2 : Hp} {tx ty : Tn} {x y : V} {d e : PyData} {F G : List Addr} (s1 : Same Hs H1) (s2 : Same H1 H2) (h1 : VC X.K X.prog X.w ρ φ Hs H1 tx x d F) (h2 : VC X.K X.prog X.w ρ φ H1 H2 ty y e G) :
    VCL X.K X.prog X.w ρ φ H2 Hs [tx, ty] [x, y] [d, e] [F, G] := .cons s1 h1 s2 (.cons s2 h2 (Same.refl _) .nil)
theorem VCL.one {ρ : Rho} {φ : Fp} {Hs H1 : Hp} {tx : Tn} {x : V} {d : PyData} {F : List Addr} (s1 : Same Hs H1) (h1 : VC X.K X.prog X.w ρ φ Hs H1 tx x d F) : VCL X.K X.prog X.w ρ φ H1 Hs [tx] [x] [d] [F] := .cons s1 h1 (Same.refl _) .nil
theorem rd_bin (o : Bop) (ha : PE X a (RD X B W A)) (hb : PE X b (RD X B W A')) : PE X (.BinOp a o.op b pos) (RD X B W fun ρ => (A ρ).bind fun x tx => (A' ρ).bind fun y ty => okR (bop o x y) [tx, ty]) := by
  refine (pe_op (opb o) ha hb).weak fun σ H Q ⟨ρ, φ, S, h⟩ => ?_
  refine RD.then S h fun d t v H1 F s1 vc1 h1 => RD.next S s1 h1 fun e u y H2 G s2 vc2 h2 => ?_
  unfold okR at h2
  cases hr : bop o d e with
  | none => rw [hr] at h2; exact h2.elim
  | some r =>
    rw [hr] at h2
    refine ⟨d, e, F, G, r, vc1.1.same s2, vc2.1, hr, fun z H3 L s3 res => h2.fin (F := L) s3 ?_⟩
    exact Res.vc S (VCL.two s1 s2 vc1 vc2) (s1.trans s2) (by simpa using res)
theorem rd_neg (ha : PE X a (RD X B W A)) : PE X (.UnaryOp .USub a pos) (RD X B W fun ρ => (A ρ).bind fun x _ => negR x) := by
  refine (pe_un un_neg ha).weak fun σ H Q ⟨ρ, φ, S, h⟩ => ?_
  refine RD.then S h fun d t v H1 F s1 vc1 h1 => ?_
  unfold negR at h1
  split at h1
  · have r := vc1.1
    cases r
    exact ⟨_, rfl, h1.fin (F := []) (Same.refl _) (vc_atom (.int _))⟩
  · exact h1.elim
theorem rd_cmp (hu : X.A.units + 66 < cLine) (o : Cop) (ha : PE X a (RD X B W A)) (hb : PE X b (RD X B W A')) (hm : behindInMarks o.op b = false) : PE X (.Compare a [o.op] [b] pos) (RD X B W fun ρ => (A ρ).bind fun x tx => (A' ρ).bind fun y ty => optB (cop o x y)) := by
  refine (pe_cmpR (opc hu o) ha hb hm).weak fun σ H Q ⟨ρ, φ, S, h⟩ => ?_
  refine RD.then S h fun d t v H1 F s1 vc1 h1 => RD.next S s1 h1 fun e u y H2 G s2 vc2 h2 => ?_
  unfold optB at h2
  cases hr : cop o d e with
  | none => rw [hr] at h2; exact h2.elim
  | some r =>
    rw [hr] at h2
    exact ⟨d, e, F, G, r, vc1.1.same s2, vc2.1, hr, h2.fin (F := []) (Same.refl _) (vc_atom (.bl _))⟩
theorem rdt_cmp (hu : X.A.units + 66 < cLine) (o : Cop) (ha : PE X a (RD X B W A)) (hb : PE X b (RD X B W A')) (hm : behindInMarks o.op b = false) : PT X (.Compare a [o.op] [b] pos) (RDT X B W fun ρ => ofR ((A ρ).bind fun x tx => (A' ρ).bind fun y ty => optB (cop o x y))) := by
  refine (pt_cmpR (opc hu o) ha hb hm).weak fun σ H Q ⟨ρ, φ, S, h⟩ => ?_
  have h' : Left X W ρ φ σ H H (fun v H' => ∃ k, v = .bl k ∧ Q k H') ((A ρ).bind fun x tx => (A' ρ).bind fun y ty => optB (cop o x y)) := by
    refine left_of_ofR h fun d t e => ?_
    obtain ⟨x, tx, _, e⟩ := bind_ok e
    obtain ⟨y, ty, _, e⟩ := bind_ok e
    exact optB_ok e
  refine RD.then S h' fun d t v H1 F s1 vc1 h1 => RD.next S s1 h1 fun e u y H2 G s2 vc2 h2 => ?_
  unfold optB at h2
  cases hr : cop o d e with
  | none => rw [hr] at h2; exact h2.elim
  | some r =>
    rw [hr] at h2
    exact ⟨d, e, F, G, r, vc1.1.same s2, vc2.1, hr, h2.fin (F := []) (Same.refl _) (vc_atom (.bl _))⟩
end
end PD
set_option maxHeartbeats 4000000
namespace PD
open PySem PySem.Spec PyProof.Rows L2

/-! ## what the syntax must be -/
def plainE : Expr → Bool
  | .Starred .. => false
  | .Slice .. => false
  | _ => true
theorem star_ok {e : Expr} {es : List Expr} {env : Env} (h : plainE e = true) : starEach (e :: es) env = (false, eval e env) :: starEach es env := by
  cases e <;> first | rfl | cases h
theorem stars_ok {pos : Pos} {env : Env} : ∀ {es : List Expr}, es.all plainE = true → (backTo pos (starEach es env)).any (·.1) = false
  | [], _ => rfl
  | e :: es, h => by
    obtain ⟨h1, h2⟩ : plainE e = true ∧ es.all plainE = true := by simpa using h
    rw [star_ok h1]
    show (false || (backTo pos (starEach es env)).any (·.1)) = false
    rw [stars_ok h2]; rfl
theorem stars_no {pos : Pos} {env : Env} : ∀ {es : List Expr}, es.all plainE = true → (backTo pos (starEach es env)).all (fun x => !x.1) = true
  | [], _ => rfl
  | e :: es, h => by
    obtain ⟨h1, h2⟩ : plainE e = true ∧ es.all plainE = true := by simpa using h
    rw [star_ok h1]
    show (true && (backTo pos (starEach es env)).all (fun x => !x.1)) = true
    rw [stars_no h2]; rfl
theorem few_ok {pos : Pos} {env : Env} {es : List Expr} (h : es.all plainE = true) (hl : es.length < 30) : ((backTo pos (starEach es env)).all (fun x => !x.1) && (backToKw pos (keywordEach [] env)).all (fun x => x.1.isSome)
      && decide (es.length + ([] : List Keyword).length + (if ([] : List Keyword).isEmpty then 0 else 1) < 30)) = true := by
  rw [stars_no h]
  simp [backToKw, keywordEach, hl]
def baseOk : Expr → Bool
  | .Call (.Name _ _) [] [] _ => false
  | _ => true
theorem base_ok {o : Expr} {name : Str} {env : Env} {whole : Sem Value} (h : baseOk o = true) : attributeBase o name env whole = whole := by
  unfold attributeBase
  split
  · cases h
  · rfl
theorem ix_plain {b : Expr} (h : plainE b = true) : PlainIx b := by
  intro o i
  cases b <;> first | rfl | cases h
def truthE : Expr → Bool
  | .UnaryOp .Not _ _ => false
  | .BoolOp .. => false
  | .IfExp .. => false
  | .Compare .. => false
  | _ => true
theorem truth_plain {e : Expr} {env : Env} (h : truthE e = true) (whole : Sem Value) : isTrue e env whole = (do let v ← whole; standAt e.pos; holding [v] (truthy v)) := by
  cases e <;> first | rfl | (cases h; done) | skip
  rename_i op _ _
  cases op <;> first | rfl | cases h

section
variable {X : Cx} {B : List Base} {W : WX} {a b c : Expr} {A A' A'' : Rho → R} {T T' : Rho → RT} {L : Rho → RL} {pos : Pos} {es rest : List Expr}
/-! ## expressions, go on -/
theorem behind_ok {o : Cop} {b : Expr} (h : plainE b = true) (hs : ∀ es k p, b ≠ .Set es k p) : behindInMarks o.op b = false := by
  cases b <;> first | rfl | (exact absurd rfl (hs _ _ _))
theorem rd_chain (hu : X.A.units + 66 < cLine) (o o' : Cop) (ha : PE X a (RD X B W A)) (hb : PE X b (RD X B W A')) (hc : PE X c (RD X B W A'')) (hm : lastMarks [o.op, o'.op] [b, c] = false) :
    PE X (.Compare a [o.op, o'.op] [b, c] pos) (RD X B W fun ρ => (A ρ).bind fun x tx => (A' ρ).bind fun y ty => optT (cop o x y) fun k => if k = true then (A'' ρ).bind fun z tz => optB (cop o' y z) else .ok (.bool false) none) := by
  refine (pe_chain (opc hu o) (opc hu o') ha hb hc hm).weak fun σ H Q ⟨ρ, φ, S, h⟩ => ?_
  refine RD.then S h fun d t v H1 F s1 vc1 h1 => RD.next S s1 h1 fun e u y H2 G s2 vc2 h2 => ?_
  unfold optT at h2
  cases hr : cop o d e with
  | none => rw [hr] at h2; exact h2.elim
  | some r =>
    rw [hr] at h2
    refine ⟨d, e, F, G, r, vc1.1.same s2, vc2.1, hr, r, rfl, ?_⟩
    cases r with
    | false =>
      rw [if_neg (by decide)]
      exact Left.fin (F := []) h2 (Same.refl _) (vc_atom (.bl _))
    | true =>
      rw [if_pos rfl]
      refine RD.next S (s1.trans s2) h2 fun g u' z H3 L s3 vc3 h3 => ?_
      unfold optB at h3
      cases hr' : cop o' e g with
      | none => rw [hr'] at h3; exact h3.elim
      | some r =>
        rw [hr'] at h3
        exact ⟨e, g, G, L, r, vc2.1.same s3, vc3.1, hr', h3.fin (F := []) (Same.refl _) (vc_atom (.bl _))⟩
theorem rdt_chain (hu : X.A.units + 66 < cLine) (o o' : Cop) (ha : PE X a (RD X B W A)) (hb : PE X b (RD X B W A')) (hc : PE X c (RD X B W A'')) (hm : lastMarks [o.op, o'.op] [b, c] = false) :
    PT X (.Compare a [o.op, o'.op] [b, c] pos) (RDT X B W fun ρ => ofR ((A ρ).bind fun x tx => (A' ρ).bind fun y ty => optT (cop o x y) fun k => if k = true then (A'' ρ).bind fun z tz => optB (cop o' y z) else .ok (.bool false) none)) := by
  refine (pt_chain (opc hu o) (opc hu o') ha hb hc hm).weak fun σ H Q ⟨ρ, φ, S, h⟩ => ?_
  have h' : Left X W ρ φ σ H H (fun v H' => ∃ k, v = .bl k ∧ Q k H') ((A ρ).bind fun x tx => (A' ρ).bind fun y ty => optT (cop o x y) fun k => if k = true then (A'' ρ).bind fun z tz => optB (cop o' y z) else .ok (.bool false) none) := by
    refine left_of_ofR h fun d t e => ?_
    obtain ⟨x, tx, _, e⟩ := bind_ok e
    obtain ⟨y, ty, _, e⟩ := bind_ok e
    unfold optT at e
    split at e
    · dsimp only at e
      split at e
      · obtain ⟨z, tz, _, e⟩ := bind_ok e
        exact optB_ok e
      · cases e; exact ⟨_, rfl⟩
    · cases e
  refine RD.then S h' fun d t v H1 F s1 vc1 h1 => RD.next S s1 h1 fun e u y H2 G s2 vc2 h2 => ?_
  unfold optT at h2
  cases hr : cop o d e with
  | none => rw [hr] at h2; exact h2.elim
  | some r =>
    rw [hr] at h2
    refine ⟨d, e, F, G, r, vc1.1.same s2, vc2.1, hr, r, rfl, ?_⟩
    cases r with
    | false =>
      rw [if_neg (by decide)]
      exact Left.fin (F := []) h2 (Same.refl _) (vc_atom (.bl _))
    | true =>
      rw [if_pos rfl]
      refine RD.next S (s1.trans s2) h2 fun g u' z H3 L s3 vc3 h3 => ?_
      unfold optB at h3
      cases hr' : cop o' e g with
      | none => rw [hr'] at h3; exact h3.elim
      | some r =>
        rw [hr'] at h3
        exact ⟨e, g, G, L, r, vc2.1.same s3, vc3.1, hr', h3.fin (F := []) (Same.refl _) (vc_atom (.bl _))⟩
/-- the end is another reading's -/
theorem RD.last {σ : L2.St} {H0 H : Hp} {ρ : Rho} {φ : Fp} {Q : VK} (S : Sta X.K X.prog X.w B σ H0 ρ φ) (s0 : Same H0 H) (h : Left X W ρ φ σ H0 H Q (A ρ)) : RD X B W A σ H Q := by
  refine ⟨ρ, φ, S.same s0, ?_⟩
  cases e : A ρ with
  | ok d t =>
    rw [e] at h
    exact fun v H' F s vc => h v H' F s (VC.from s0 vc)
  | ex c => rw [e] at h; exact h
  | no => rw [e] at h; exact h
theorem RDT.last {σ : L2.St} {H0 H : Hp} {ρ : Rho} {φ : Fp} {Q : Bool → Hp → Prop} (S : Sta X.K X.prog X.w B σ H0 ρ φ) (s0 : Same H0 H) (h : LeftT X W σ H Q (T ρ)) : RDT X B W T σ H Q := by
  refine ⟨ρ, φ, S.same s0, ?_⟩
  cases e : T ρ with
  | ok d => rw [e] at h; exact h
  | ex c => rw [e] at h; exact h
  | no => rw [e] at h; exact h
theorem RDT.then {σ : L2.St} {H : Hp} {ρ : Rho} {φ : Fp} {k : Bool → RT} {Q0 Q : Bool → Hp → Prop} (S : Sta X.K X.prog X.w B σ H ρ φ) (h : LeftT X W σ H Q0 ((T ρ).bind k))
    (hok : ∀ b H', Same H H' → LeftT X W σ H' Q0 (k b) → Q b H') : RDT X B W T σ H Q := by
  refine ⟨ρ, φ, S, ?_⟩
  cases e : T ρ with
  | ok d =>
    rw [e] at h
    exact fun H' s => hok d H' s (LeftT.same h s)
  | ex c => rw [e] at h; exact h
  | no => rw [e] at h; exact h
theorem rd_and (ha : PE X a (RD X B W A)) (hb : PE X (.BoolOp .And (b :: rest) pos) (RD X B W A')) : PE X (.BoolOp .And (a :: b :: rest) pos) (RD X B W fun ρ => (A ρ).bind fun x tx => optT (truth x) fun k => if k = true then A' ρ else .ok x tx) := by
  refine (pe_andT ha hb).weak fun σ H Q ⟨ρ, φ, S, h⟩ => ?_
  refine RD.then S h fun d t v H1 F s1 vc1 h1 => ?_
  unfold optT at h1
  cases hr : truth d with
  | none => rw [hr] at h1; exact h1.elim
  | some k =>
    rw [hr] at h1
    refine ⟨k, truth_tru vc1.1 hr, ?_⟩
    cases k with
    | true => exact RD.last S s1 h1
    | false => exact Left.fin h1 (Same.refl _) vc1
theorem rd_or (ha : PE X a (RD X B W A)) (hb : PE X (.BoolOp .Or (b :: rest) pos) (RD X B W A')) : PE X (.BoolOp .Or (a :: b :: rest) pos) (RD X B W fun ρ => (A ρ).bind fun x tx => optT (truth x) fun k => if k = true then .ok x tx else A' ρ) := by
  refine (pe_orT ha hb).weak fun σ H Q ⟨ρ, φ, S, h⟩ => ?_
  refine RD.then S h fun d t v H1 F s1 vc1 h1 => ?_
  unfold optT at h1
  cases hr : truth d with
  | none => rw [hr] at h1; exact h1.elim
  | some k =>
    rw [hr] at h1
    refine ⟨k, truth_tru vc1.1 hr, ?_⟩
    cases k with
    | false => exact RD.last S s1 h1
    | true => exact Left.fin h1 (Same.refl _) vc1
theorem rd_one {op} (ha : PE X a (RD X B W A)) : PE X (.BoolOp op [a] pos) (RD X B W A) := pe_one ha
theorem rd_not (ha : PE X a (RD X B W A)) : PE X (.UnaryOp .Not a pos) (RD X B W fun ρ => (A ρ).bind fun x tx => optT (truth x) fun k => .ok (.bool (!k)) none) := by
  refine (pe_notT ha).weak fun σ H Q ⟨ρ, φ, S, h⟩ => ?_
  refine RD.then S h fun d t v H1 F s1 vc1 h1 => ?_
  unfold optT at h1
  cases hr : truth d with
  | none => rw [hr] at h1; exact h1.elim
  | some k =>
    rw [hr] at h1
    exact ⟨k, truth_tru vc1.1 hr, Left.fin (F := []) h1 (Same.refl _) (vc_atom (.bl _))⟩
theorem rdw_and (ha : PT X a (RDT X B W T)) (hb : PW X (.BoolOp .And (b :: rest) pos) (RDT X B W T')) : PW X (.BoolOp .And (a :: b :: rest) pos) (RDT X B W fun ρ => (T ρ).bind fun k => if k = true then T' ρ else .ok false) := by
  refine (pw_and ha hb).weak fun σ H Q ⟨ρ, φ, S, h⟩ => ?_
  refine RDT.then S h fun k H1 s1 h1 => ?_
  cases k with
  | true => exact RDT.last S s1 h1
  | false => exact h1 _ (Same.refl _)
theorem rdw_or (ha : PT X a (RDT X B W T)) (hb : PW X (.BoolOp .Or (b :: rest) pos) (RDT X B W T')) : PW X (.BoolOp .Or (a :: b :: rest) pos) (RDT X B W fun ρ => (T ρ).bind fun k => if k = true then .ok true else T' ρ) := by
  refine (pw_or ha hb).weak fun σ H Q ⟨ρ, φ, S, h⟩ => ?_
  refine RDT.then S h fun k H1 s1 h1 => ?_
  cases k with
  | false => exact RDT.last S s1 h1
  | true => exact h1 _ (Same.refl _)
theorem rdw_one {op} (ha : PT X a (RDT X B W T)) : PW X (.BoolOp op [a] pos) (RDT X B W T) := by
  cases op
  · exact pw_and1 ha
  · exact pw_or1 ha
theorem rdt_not (ha : PT X a (RDT X B W T)) : PT X (.UnaryOp .Not a pos) (RDT X B W fun ρ => (T ρ).bind fun k => .ok (!k)) := by
  refine (pt_not ha).weak fun σ H Q ⟨ρ, φ, S, h⟩ => ?_
  exact RDT.then S h fun k H1 s1 h1 => h1 _ (Same.refl _)
theorem rdt_truth (ha : PE X a (RD X B W A)) (hp : truthE a = true) : PT X a (RDT X B W fun ρ => ofR (A ρ)) := by
  refine (pt_truth ha (truth_plain hp)).weak fun σ H Q ⟨ρ, φ, S, h⟩ => ?_
  refine ⟨ρ, φ, S, ?_⟩
  cases e : A ρ with
  | ok d t =>
    intro v H' F s vc
    have h : LeftT X W σ H Q (ofR (A ρ)) := h
    rw [e] at h
    unfold ofR at h
    cases hr : truth d with
    | none => simp only [hr] at h; exact h.elim
    | some k =>
      simp only [hr] at h
      exact ⟨k, truth_tru vc.1 hr, h H' s⟩
  | ex c =>
    have h : LeftT X W σ H Q (ofR (A ρ)) := h
    rw [e] at h; exact h
  | no =>
    have h : LeftT X W σ H Q (ofR (A ρ)) := h
    rw [e] at h; exact h
theorem rd_ife (hc : PT X c (RDT X B W T)) (ha : PE X a (RD X B W A)) (hb : PE X b (RD X B W A')) : PE X (.IfExp c a b pos) (RD X B W fun ρ => (T ρ).bindR fun k => if k = true then A ρ else A' ρ) := by
  refine (pe_ifExp hc ha hb).weak fun σ H Q ⟨ρ, φ, S, h⟩ => ?_
  refine ⟨ρ, φ, S, ?_⟩
  have h : Left X W ρ φ σ H H Q ((T ρ).bindR fun k => if k = true then A ρ else A' ρ) := h
  cases e : T ρ with
  | ok k =>
    rw [e] at h
    intro H1 s1
    cases k with
    | true => exact RD.last S s1 (Left.same h s1)
    | false => exact RD.last S s1 (Left.same h s1)
  | ex c => rw [e] at h; exact h
  | no => rw [e] at h; exact h
theorem VC.mem {ρ : Rho} {φ : Fp} {Hs H1 H2 : Hp} {ts : List Tn} {vs : List V} {ds : List PyData} {Fs : List (List Addr)} {σ : L2.St} {v : V} {r : PyData} {G : List Addr} (S : Sta X.K X.prog X.w B σ Hs ρ φ) (c : VCL X.K X.prog X.w ρ φ H1 Hs ts vs ds Fs) (hr : Rp X.K X.prog X.w H2 v r G) (hi : ∀ a ∈ G, a ∈ Fs.flatten) :
    VC X.K X.prog X.w ρ φ Hs H2 (if imm r = true then none else some (ts.flatMap fun t => t.getD [])) v r G := by
  refine ⟨hr, ?_⟩
  by_cases im : imm r = true
  · rw [if_pos im, hr.imm im]; simp
  · rw [if_neg im]
    exact fun j s e o hj a ha => c.apart S (Same.refl _) j s e o hj a (hi a ha)
theorem rd_ix (ha : PE X a (RD X B W A)) (hb : PE X b (RD X B W A')) (hp : plainE b = true) : PE X (.Subscript a b pos) (RD X B W fun ρ => (A ρ).bind fun x tx => (A' ρ).bind fun y ty => okI (ixop x y) [tx, ty]) := by
  refine (pe_ix opi ha hb (ix_plain hp)).weak fun σ H Q ⟨ρ, φ, S, h⟩ => ?_
  refine RD.then S h fun d t v H1 F s1 vc1 h1 => RD.next S s1 h1 fun e u y H2 G s2 vc2 h2 => ?_
  unfold okI at h2
  cases hr : ixop d e with
  | none => rw [hr] at h2; exact h2.elim
  | some r =>
    rw [hr] at h2
    exact ⟨d, e, F, G, r, vc1.1.same s2, vc2.1, hr, fun z L res hi => Left.fin h2 (Same.refl _) (VC.mem S (VCL.two s1 s2 vc1 vc2) res (by simpa using hi))⟩
/-- a part of a slice -/
def RDP (X : Cx) (B : List Base) (r : Rho → Option (Option Int)) : TO := fun σ H Q => ∃ ρ φ, Sta X.K X.prog X.w B σ H ρ φ ∧ match r ρ with
  | some o => ∀ H', Same H H' → Q o H'
  | none => False
theorem rdp_none : PO X none (RDP X B fun _ => some none) := ⟨fun pins s σ H Q I ⟨ρ, φ, S, h⟩ => po_none.run pins s σ H Q I (h H (Same.refl _))⟩
theorem rdp_some (ha : PE X a (RD X B W A)) : PO X (some a) (RDP X B fun ρ => partOf (A ρ)) := by
  refine ⟨fun pins s σ H Q I ⟨ρ, φ, S, h⟩ => (po_some ha).run pins s σ H Q I ?_⟩
  dsimp only at h
  refine ⟨ρ, φ, S, ?_⟩
  cases e : A ρ with
  | ok d t =>
    rw [e] at h
    intro v H' F s vc
    cases d with
    | int i =>
      have r := vc.1
      cases r
      exact ⟨_, rfl, h H' s⟩
    | _ => exact h.elim
  | ex c => rw [e] at h; exact h.elim
  | no => rw [e] at h; exact h.elim
theorem rd_sl {lo hi : Option Expr} {rl rh : Rho → Option (Option Int)} {p2 : Pos} (ha : PE X a (RD X B W A)) (hl : PO X lo (RDP X B rl)) (hh : PO X hi (RDP X B rh)) :
    PE X (.Subscript a (.Slice lo hi none p2) pos) (RD X B W fun ρ => (A ρ).bind fun x tx => slR x tx (rl ρ) (rh ρ)) := by
  refine (pe_slice ops ha hl hh).weak fun σ H Q ⟨ρ, φ, S, h⟩ => ?_
  refine RD.then S h fun d t v H1 F s1 vc1 h1 => ?_
  refine ⟨ρ, φ, S.same s1, ?_⟩
  unfold slR at h1
  cases e1 : rl ρ with
  | none => simp only [e1] at h1; exact h1.elim
  | some l =>
    intro H2 s2
    refine ⟨ρ, φ, (S.same s1).same s2, ?_⟩
    cases e2 : rh ρ with
    | none => simp only [e1, e2] at h1; exact h1.elim
    | some h' =>
      intro H3 s3
      simp only [e1, e2] at h1
      unfold okR at h1
      cases hr : slop d l h' with
      | none => simp only [hr] at h1; exact h1.elim
      | some r =>
        simp only [hr] at h1
        refine ⟨d, F, r, (vc1.1.same s2).same s3, hr, fun z H4 L s4 res => h1 z H4 L ((s2.trans s3).trans s4) ?_⟩
        exact Res.vc S (VCL.one ((s1.trans s2).trans s3) ((vc1.same s2).same s3)) ((s1.trans s2).trans s3) (by simpa using res)
/-! ### lists of expressions -/
theorem rdl_nil : PA X [] (RDL X B W fun _ => .ok [] []) := pa_nil.weak fun σ H Q ⟨ρ, φ, S, h⟩ => h [] H [] (Same.refl _) .nil
theorem rdl_cons (ha : PE X a (RD X B W A)) (hr : PA X es (RDL X B W L)) (hp : plainE a = true) : PA X (a :: es) (RDL X B W fun ρ => match A ρ with
    | .ok d t => match L ρ with
      | .ok ds ts => .ok (d :: ds) (t :: ts)
      | .ex c => .ex c
      | .no => .no
    | .ex c => .ex c
    | .no => .no) := by
  refine (pa_cons ha hr (star_ok hp)).weak fun σ H Q ⟨ρ, φ, S, h⟩ => ?_
  refine ⟨ρ, φ, S, ?_⟩
  cases e1 : A ρ with
  | ok d t =>
    intro v H1 F s1 vc1
    refine ⟨ρ, φ, S.same s1, ?_⟩
    cases e2 : L ρ with
    | ok ds ts =>
      simp only [e1, e2] at h
      exact fun vs H2 Fs s2 vcl => h (v :: vs) H2 (F :: Fs) (s1.trans s2) (.cons s1 vc1 s2 vcl)
    | ex c =>
      simp only [e1, e2] at h
      exact EX.same h s1
    | no => simp only [e1, e2] at h
  | ex c => simp only [e1] at h; exact h
  | no => simp only [e1] at h
theorem RDL.then {σ : L2.St} {H : Hp} {ρ : Rho} {φ : Fp} {k : List PyData → List Tn → R} {Q0 : VK} {Q : List V → Hp → Prop} (S : Sta X.K X.prog X.w B σ H ρ φ) (h : Left X W ρ φ σ H H Q0 ((L ρ).bindR k))
    (hok : ∀ ds ts vs H' Fs, Same H H' → VCL X.K X.prog X.w ρ φ H' H ts vs ds Fs → Left X W ρ φ σ H H' Q0 (k ds ts) → Q vs H') : RDL X B W L σ H Q := by
  refine ⟨ρ, φ, S, ?_⟩
  cases e : L ρ with
  | ok d t =>
    rw [e] at h
    exact fun v H' F s vc => hok d t v H' F s vc (Left.same h s)
  | ex c => rw [e] at h; exact h
  | no => rw [e] at h; exact h
theorem RDL.next {σ : L2.St} {H0 H : Hp} {ρ : Rho} {φ : Fp} {k : List PyData → List Tn → R} {Q0 : VK} {Q : List V → Hp → Prop} (S : Sta X.K X.prog X.w B σ H0 ρ φ) (s0 : Same H0 H) (h : Left X W ρ φ σ H0 H Q0 ((L ρ).bindR k))
    (hok : ∀ ds ts vs H' Fs, Same H H' → VCL X.K X.prog X.w ρ φ H' H ts vs ds Fs → Left X W ρ φ σ H0 H' Q0 (k ds ts) → Q vs H') : RDL X B W L σ H Q := by
  refine ⟨ρ, φ, S.same s0, ?_⟩
  cases e : L ρ with
  | ok d t =>
    rw [e] at h
    exact fun v H' F s vc => hok d t v H' F s vc (Left.same h s)
  | ex c => rw [e] at h; exact h
  | no => rw [e] at h; exact h
theorem VCL.imms {ρ : Rho} {φ : Fp} {Hf : Hp} {H : Hp} {ts : List Tn} {vs : List V} {ds : List PyData} {Fs : List (List Addr)} (h : VCL X.K X.prog X.w ρ φ Hf H ts vs ds Fs) (e : immL ds = true) : Fs.flatten = [] := h.toL.imm e
theorem rd_tup {x1} (h : PA X es (RDL X B W L)) : PE X (.Tuple es x1 pos) (RD X B W fun ρ => (L ρ).bindR fun ds ts => if ds.length ≤ lineN then .ok (.tuple ds) (mkT ds ts) else .no) := by
  refine (pe_tupF h).weak fun σ H Q ⟨ρ, φ, S, h⟩ => ?_
  refine RDL.then S h fun ds ts vs H1 Fs s1 vcl h1 => ?_
  by_cases hl : ds.length ≤ lineN
  case neg => rw [if_neg hl] at h1; exact h1.elim
  rw [if_pos hl] at h1
  refine ⟨by rw [vcl.toL.length, ← line_eq]; exact hl, fun p o hp ho => Left.fin (F := Fs.flatten) h1 (same_upd hp) ⟨.tup (.inl ⟨o, upd_same, ho⟩) (vcl.toL.same (same_upd hp)), ?_⟩⟩
  unfold mkT
  by_cases ht : immL ds = true ∨ ts.all (·.isNone) = true
  · rw [if_pos ht]
    rcases ht with ht | ht
    · rw [VCL.imms vcl ht]; simp
    · obtain ⟨q1, q2⟩ := vcl.new fun t h' => by
        have := List.all_eq_true.mp ht t h'
        simpa using this
      exact ⟨fun a ha => ⟨(q1 a ha).1, Mut.same (q1 a ha).2 (same_upd hp)⟩, q2⟩
  · rw [if_neg ht]
    exact fun j s e oo hj a ha => vcl.apart S (Same.refl _) j s e oo hj a ha
theorem rd_lst (h : PA X es (RDL X B W L)) : PE X (.List es pos) (RD X B W fun ρ => (L ρ).bindR fun ds ts => if ds.length ≤ lineN then .ok (.list ds) (mkT ds ts) else .no) := by
  refine (pe_lst h).weak fun σ H Q ⟨ρ, φ, S, h⟩ => ?_
  refine RDL.then S h fun ds ts vs H1 Fs s1 vcl h1 => ?_
  by_cases hl : ds.length ≤ lineN
  case neg => rw [if_neg hl] at h1; exact h1.elim
  rw [if_pos hl] at h1
  refine ⟨by rw [vcl.toL.length, ← line_eq]; exact hl, fun p hp => Left.fin (F := p :: Fs.flatten) h1 (same_upd hp) ⟨.lst upd_same (vcl.toL.same (same_upd hp)), ?_⟩⟩
  unfold mkT
  have hp0 : H p = none := s1.free hp
  by_cases ht : immL ds = true ∨ ts.all (·.isNone) = true
  · rw [if_pos ht]
    have q : (∀ a ∈ Fs.flatten, H a = none ∧ Mut (H1 a)) ∧ Fs.flatten.Nodup := by
      rcases ht with ht | ht
      · rw [VCL.imms vcl ht]; simp
      · exact vcl.new fun t h' => by
          have := List.all_eq_true.mp ht t h'
          simpa using this
    refine ⟨fun a ha => ?_, List.nodup_cons.mpr ⟨fun hm => Mut.some (q.1 p hm).2 hp, q.2⟩⟩
    rcases List.mem_cons.mp ha with e | z
    · subst e; exact ⟨hp0, by rw [upd_same]; trivial⟩
    · exact ⟨(q.1 a z).1, Mut.same (q.1 a z).2 (same_upd hp)⟩
  · rw [if_neg ht]
    intro j s e oo hj a ha
    rcases List.mem_cons.mp ha with e' | z
    · subst e'
      intro hm
      exact S.alloc e oo hm hp0
    · exact vcl.apart S (Same.refl _) j s e oo hj a z
end
end PD
set_option maxHeartbeats 4000000
namespace PD
open PySem PySem.Spec PyProof.Rows L2

section
variable {X : Cx} {B : List Base} {W : WX} {a b c : Expr} {A A' A'' : Rho → R} {L : Rho → RL} {pos : Pos} {es rest : List Expr}
/-! ## calls of built-ins -/
theorem rd_bi {x : Str} {id : String} {p : Pos} {f : List PyData → Option PyData} (hc : CallR X (.builtin id) (rDX X f)) (hg : Gl X x) (hm : X.mg x = none) (hv : bootBuiltins x = some (.builtin id)) (h : PA X (a :: es) (RDL X B W L)) (hp : (a :: es).all plainE = true)
    (hn : x ≠ "__name__") (hdb : (x == ("__debug__" : Str)) = false) : PE X (.Call (.Name x p) (a :: es) [] pos) (RD X B W fun ρ => (L ρ).bindR fun ds ts => okR (f ds) ts) := by
  obtain ⟨h1, h2⟩ : plainE a = true ∧ es.all plainE = true := by simpa using hp
  refine (pe_callB hc hg hm hv h hn hdb (star_ok h1) (stars_ok h2)).weak fun σ H Q ⟨ρ, φ, S, h⟩ => ?_
  refine RDL.then S h fun ds ts vs H1 Fs s1 vcl h1 => ?_
  unfold okR at h1
  cases hr : f ds with
  | none => simp only [hr] at h1; exact h1.elim
  | some r =>
    simp only [hr] at h1
    exact ⟨ds, Fs.flatten, r, vcl.toL, hr, fun v H' G s res => Left.fin h1 s (Res.vc S vcl s1 res)⟩
theorem rd_ty {x : Str} {id : String} {p : Pos} {f : List PyData → Option PyData} (hc : CallR X (.type id) (rDX X f)) (hg : Gl X x) (hm : X.mg x = none) (hv : bootBuiltins x = some (.type id)) (h : PA X (a :: es) (RDL X B W L)) (hp : (a :: es).all plainE = true)
    (hn : x ≠ "__name__") (hdb : (x == ("__debug__" : Str)) = false) : PE X (.Call (.Name x p) (a :: es) [] pos) (RD X B W fun ρ => (L ρ).bindR fun ds ts => okR (f ds) ts) := by
  obtain ⟨h1, h2⟩ : plainE a = true ∧ es.all plainE = true := by simpa using hp
  refine (pe_callTy hc hg hm hv h hn hdb (star_ok h1) (stars_ok h2)).weak fun σ H Q ⟨ρ, φ, S, h⟩ => ?_
  refine RDL.then S h fun ds ts vs H1 Fs s1 vcl h1 => ?_
  unfold okR at h1
  cases hr : f ds with
  | none => simp only [hr] at h1; exact h1.elim
  | some r =>
    simp only [hr] at h1
    exact ⟨ds, Fs.flatten, r, vcl.toL, hr, fun v H' G s res => Left.fin h1 s (Res.vc S vcl s1 res)⟩
theorem rd_isi {t : Ty} {p p2 : Pos} (hg : Gl X "isinstance") (hm : X.mg "isinstance" = none) (hg2 : Gl X t.name) (hm2 : X.mg t.name = none) (ha : PE X a (RD X B W A)) (hp : plainE a = true) :
    PE X (.Call (.Name "isinstance" p) [a, .Name t.name p2] [] pos) (RD X B W fun ρ => (A ρ).bind fun x tx => optB (isTy t x)) := by
  have ht : PE X (.Name t.name p2) (tC (.ty t.name)) := by
    refine pe_bltn hg2 hm2 (u := .type t.name) ?_ rfl ?_ ?_
    · cases t <;> decide +kernel
    · cases t <;> decide +kernel
    · cases t <;> decide +kernel
  refine (pe_callB (call_isiD (t := t)) hg hm (by decide +kernel) (pa_cons ha (pa_cons ht pa_nil rfl) (star_ok hp)) (by decide) (by decide) (star_ok hp) rfl).weak fun σ H Q ⟨ρ, φ, S, h⟩ => ?_
  refine RD.then S h fun d t' v H1 F s1 vc1 h1 => ?_
  unfold optB at h1
  cases hr : isTy t d with
  | none => simp only [hr] at h1; exact h1.elim
  | some r =>
    simp only [hr] at h1
    exact ⟨v, d, F, r, rfl, vc1.1, hr, Left.fin (F := []) h1 (Same.refl _) (vc_atom (.bl _))⟩
theorem intsR {K : PySem.W.Frag} {P : Program} {w : World} {H : Hp} : ∀ (ns : List Int), RpL K P w H (ns.map V.int) (ns.map PyData.int) []
  | [] => .nil
  | n :: ns => by
    have := RpL.cons (F := []) (Rp.int n (K := K) (P := P) (w := w) (H := H)) (intsR ns)
    simpa using this
theorem rgV_eq (n : Int) (K : PySem.W.Frag) (P : Program) (w : World) (H : Hp) (a : Int) : RpL K P w H (rgV a n) (rangeL a n) [] := by
  unfold rgV rangeL
  have : ∀ l : List Nat, RpL K P w H (l.map fun i => V.int (a + (i : Nat))) (l.map fun i => PyData.int (a + (i : Nat))) [] := fun l => by
    induction l with
    | nil => exact .nil
    | cons x l ih => exact .cons (F := []) (G := []) (.int _) ih
  exact this _
theorem rd_listRange {p p2 pos2 : Pos} (hc : X.calm = true) (hg : Gl X "list") (hm : X.mg "list" = none) (hg2 : Gl X "range") (hm2 : X.mg "range" = none) (ha : PE X a (RD X B W A)) (hp : plainE a = true) :
    PE X (.Call (.Name "list" p) [.Call (.Name "range" p2) [a] [] pos2] [] pos) (RD X B W fun ρ => (A ρ).bind fun x tx => okR (listRangeD [x]) [tx]) := by
  refine (pe_listRg hc hg hm (prg_1 hg2 hm2 ha (star_ok hp)) rfl).weak fun σ H Q ⟨ρ, φ, S, h⟩ => ?_
  refine RD.then S h fun d t' v H1 F s1 vc1 h1 => ?_
  unfold okR at h1
  cases hr : listRangeD [d] with
  | none => simp only [hr] at h1; exact h1.elim
  | some r =>
    simp only [hr] at h1
    unfold listRangeD at hr
    split at hr
    · rename_i n e
      have e : d = .int n := by simpa using e
      subst e
      split at hr
      · rename_i hz
        cases hr
        have r := vc1.1
        cases r
        unfold rangeOk at hz
        simp only [Bool.and_eq_true, decide_eq_true_eq] at hz
        obtain ⟨⟨⟨⟨z1, z2⟩, z3⟩, z4⟩, z5⟩ := hz
        refine ⟨n, rfl, ⟨z1, z2, z3, z4, by unfold lineN at z5; omega⟩, fun q hq => Left.fin (F := [q]) h1 (same_upd hq) ?_⟩
        have rr := res_lst (F0 := []) hq (rgV_eq n X.K X.prog X.w H1 0) (by simp)
        exact Res.vc S (VCL.one s1 vc1) s1 ⟨rr.1, rr.2.1, fun a ha => (rr.2.2 a ha).elim .inl fun z => by simp at z⟩
      · cases hr
    · cases hr

theorem rd_sortedSet {p p2 pos2 : Pos} (hc : X.calm = true) (hg : Gl X "sorted") (hm : X.mg "sorted" = none) (hg2 : Gl X "set") (hm2 : X.mg "set" = none) (ha : PE X a (RD X B W A)) (hp : plainE a = true) :
    PE X (.Call (.Name "sorted" p) [.Call (.Name "set" p2) [a] [] pos2] [] pos) (RD X B W fun ρ => (A ρ).bind fun x tx => okR (sortedSetD [x]) [tx]) := by
  refine (pe_callB (cr_sortedSet hc) hg hm (by decide +kernel) (pa_cons (pe_callTy (cr_setT hc) hg2 hm2 (by decide +kernel) (pa_cons ha pa_nil (star_ok hp)) (by decide) (by decide) (star_ok hp) rfl) pa_nil rfl) (by decide) (by decide) rfl rfl).weak fun σ H Q ⟨ρ, φ, S, h⟩ => ?_
  refine RD.then S h fun d t' v H1 F s1 vc1 h1 => ?_
  unfold okR at h1
  cases hr : sortedSetD [d] with
  | none => simp only [hr] at h1; exact h1.elim
  | some r =>
    simp only [hr] at h1
    unfold sortedSetD at hr
    split at hr
    · rename_i xs e
      have e : d = .tuple xs := by simpa using e
      subst e
      split at hr
      · rename_i hz
        obtain ⟨ns, e1, e2⟩ := Option.map_eq_some_iff.mp hr
        cases e2
        have ei := asInts_eq e1
        have rr := vc1.1
        cases rr with
        | tup g1 g2 =>
          rename_i q vs
          rw [ei] at g2
          have ev := RpL.ints g2
          have hq : SqT X.K H1 q (ns.map V.int) := by rw [← ev]; exact g1.sq
          have hl : ns.length < 64 := by
            rw [ei] at hz
            simpa using hz
          refine ⟨q, ns, rfl, hq, hl, fun b c hb hc' => ⟨b, _, c, rfl, upd_same, by omega, fun ms o hs hmem hlen ho => ?_⟩⟩
          have em : ms = sortI (dupFree ns) := one_sorted hs uniq_lt fun k => by
            rw [hmem, uniq_mem]
            simp
          subst em
          have s2 : Same H1 (upd H1 b (SetO X.w b (fun j => decide (j ∈ ns)) c)) := same_upd hb
          have hob : H1 o = none := by
            by_cases e : o = b
            · rw [e]; exact hb
            · rw [upd_ne e] at ho; exact ho
          refine Left.fin (F := [o]) h1 (s2.trans (same_upd ho)) ?_
          have rl : RpL X.K X.prog X.w (upd H1 b (SetO X.w b (fun j => decide (j ∈ ns)) c)) ((sortI (dupFree ns)).map V.int) ((sortI (dupFree ns)).map PyData.int) [] := intsR _
          have rr := res_lst (F0 := []) ho rl (by simp)
          exact Res.vc S (VCL.one s1 vc1) s1 ⟨rr.1, fun z => ⟨fun a ha => ⟨by
            have := List.mem_singleton.mp ha
            rw [this]; exact hob, ((rr.2.1 z).1 a ha).2⟩, (rr.2.1 z).2⟩, fun a ha => .inl (by
            have := List.mem_singleton.mp ha
            rw [this]; exact hob)⟩
      · cases hr
    · cases hr
theorem rd_rev {k : Nat} {p1 p2 p3 : Pos} (ha : PE X a (RD X B W A)) : PE X (.Subscript a (.Slice none none (some (.UnaryOp .USub (.Constant (.int 1) k p1) p2)) p3) pos) (RD X B W fun ρ => (A ρ).bind fun x tx => okR (revD x) [tx]) := by
  refine (PE.or (pe_rev ha) (pe_revL ha)).weak fun σ H Q ⟨ρ, φ, S, h⟩ => ?_
  have h' : Left X W ρ φ σ H H Q ((A ρ).bind fun x tx => okR (revD x) [tx]) := h
  cases e : A ρ with
  | ex c => rw [e] at h'; exact .inl ⟨ρ, φ, S, by rw [e]; exact h'⟩
  | no => rw [e] at h'; exact h'.elim
  | ok d t =>
    rw [e] at h'
    cases d with
    | tuple xs =>
      refine .inl ⟨ρ, φ, S, ?_⟩
      rw [e]
      intro v H1 F s1 vc1
      have h1 : Left X W ρ φ σ H H1 Q (okR (revD (.tuple xs)) [t]) := Left.same h' s1
      have rr := vc1.1
      cases rr with
      | tup g1 g2 =>
        obtain ⟨G, q1, q2⟩ := g2.reverse
        exact ⟨_, _, rfl, g1.sq, fun p o hp ho => Left.fin h1 (same_upd hp) (Res.vc S (VCL.one s1 vc1) s1 (res_tup hp ho q1 fun a ha => by simpa using q2 a ha))⟩
    | list xs =>
      refine .inr ⟨ρ, φ, S, ?_⟩
      rw [e]
      intro v H1 F s1 vc1
      have h1 : Left X W ρ φ σ H H1 Q (okR (revD (.list xs)) [t]) := Left.same h' s1
      have rr := vc1.1
      cases rr with
      | lst g1 g2 =>
        obtain ⟨G, q1, q2⟩ := g2.reverse
        exact ⟨_, _, rfl, .inl (.inl g1), fun p hp => Left.fin h1 (same_upd hp) (Res.vc S (VCL.one s1 vc1) s1 (res_lst hp q1 fun a ha => by
          have := q2 a ha
          simp [this]))⟩
    | _ => exact h'.elim
/-! ## methods -/
theorem rd_me (hu : X.A.units + 66 < cLine) (m : Me) {o e : Expr} {es : List Expr} {apos cpos : Pos} (ho : PE X o (RD X B W A)) (ha : PA X (e :: es) (RDL X B W L)) (hb : baseOk o = true) (hp : (e :: es).all plainE = true) (hl : (e :: es).length < 30) (hline : (apos.endLine == cpos.line) = true) :
    PE X (.Call (.Attribute o m.name apos) (e :: es) [] cpos) (RD X B W fun ρ => (A ρ).bind fun x tx => (L ρ).bindN fun ds ts => okR (meop m x ds) (tx :: ts)) := by
  obtain ⟨h1, h2⟩ : plainE e = true ∧ es.all plainE = true := by simpa using hp
  refine (pe_mD ho ha (base_ok hb) (few_ok hp hl) hline (star_ok h1) (stars_ok h2)).weak fun σ H Q ⟨ρ, φ, S, h⟩ => ?_
  refine RD.then S h fun d t v H1 F s1 vc1 h1 => ?_
  -- the arguments are known ahead of their reading
  cases eL : L ρ with
  | ok ds ts =>
    rw [eL] at h1
    have h1 : Left X W ρ φ σ H H1 Q (okR (meop m d ds) (t :: ts)) := h1
    unfold okR at h1
    cases hr : meop m d ds with
    | none => simp only [hr] at h1; exact h1.elim
    | some r0 =>
      simp only [hr] at h1
      obtain ⟨T, id, r, M, hm, ty, q⟩ := mat_ok hu vc1.1 hr
      refine ⟨T, id, r, M, hm, ty, ρ, φ, S.same s1, ?_⟩
      rw [eL]
      intro vs H2 Fs s2 vcl
      refine q vs H2 Fs.flatten Q s2 vcl.toL fun v' H' G s3 res => h1 v' H' G (s2.trans s3) ?_
      exact Res.vc (vs := v :: vs) (ds := d :: ds) (Fs := F :: Fs) S (.cons s1 vc1 s2 vcl) (s1.trans s2) (by simpa using res)
  | ex c => rw [eL] at h1; exact h1.elim
  | no => rw [eL] at h1; exact h1.elim
/-! ## calls of own defs -/
/-- what is wanted of a def's end -/
def OutQ (K : PySem.W.Frag) (P : Program) (w : World) (mg : Str → Option Value) (H : Hp) (Q : VK) (E : XK) (r : Out) : Prop := match r with
  | .ret d _ => ∀ v H' G, Same H H' → Rp K P w H' v d G → (∀ a ∈ G, H a = none ∧ Mut (H' a)) → G.Nodup → Q v H'
  | .ex c _ => ∀ C H', mg c = some (.ref C) → Same H H' → E (.ref C) none H'
  | .no => False
/-- what a def hands back, by its arguments; it makes new objects alone -/
def spD (K : PySem.W.Frag) (P : Program) (w : World) (mg : Str → Option Value) (np : Nat) (fn : List PyData → Out) : Sp := fun vs H Q E => vs.length = np ∧ ∃ ds F, RpL K P w H vs ds F ∧ OutQ K P w mg H Q E (fn ds)
theorem call_left {σ : L2.St} {H H1 : Hp} {ρ : Rho} {φ : Fp} {Q : VK} {r : Out} (s1 : Same H H1) (h : Left X W ρ φ σ H H1 Q (outR r)) : OutQ X.K X.prog X.w X.mg H1 Q (WE W σ) r := by
  cases r with
  | ret d io => exact fun v H' G s r n1 n2 => h v H' G s ⟨r, fun a ha => ⟨s1.free (n1 a ha).1, (n1 a ha).2⟩, n2⟩
  | ex c io => exact fun C H' e s => h C H' e s
  | no => exact h
theorem rd_call {CXn : Nat} {f : Addr} {fd : FuncData} {ps : List Str} {fn : List PyData → Out} {x : Str} {p : Pos} (F : FnOk X.prog X.w X.K X.mg X.base (L2.CX X.prog X.w) CXn f fd ps (spD X.K X.prog X.w X.mg (es.length + 1) fn)) (hr : Room CXn X.A) (tk : Takes X W) (hg : Gl X x) (hm : X.mg x = some (.ref f))
    (hk : PySem.W.keepIn X.K (.ref f) = true) (hbd : Binds X.K fd ps []) (h : PA X (a :: es) (RDL X B W L)) (hp : (a :: es).all plainE = true) (hdb : (x == ("__debug__" : Str)) = false) (hlen : ∀ ρ ds ts, L ρ = .ok ds ts → ds.length = es.length + 1) :
    PE X (.Call (.Name x p) (a :: es) [] pos) (RD X B W fun ρ => (L ρ).bindR fun ds _ => outR (fn ds)) := by
  obtain ⟨h1, h2⟩ : plainE a = true ∧ es.all plainE = true := by simpa using hp
  refine (pe_callS (E := WE W) F hr hg hm hk hbd (fun σ => passAt tk σ) h hdb (star_ok h1) (stars_ok h2)).weak fun σ H Q ⟨ρ, φ, S, h⟩ => ?_
  have h' : Left X W ρ φ σ H H Q ((L ρ).bindR fun ds _ => outR (fn ds)) := h
  refine ⟨ρ, φ, S, ?_⟩
  cases eL : L ρ with
  | ok ds ts =>
    rw [eL] at h'
    intro vs H1 Fs s1 vcl
    exact ⟨by rw [vcl.toL.length]; exact hlen ρ ds ts eL, ds, Fs.flatten, vcl.toL, call_left s1 (Left.same h' s1)⟩
  | ex c => rw [eL] at h'; exact h'
  | no => rw [eL] at h'; exact h'
theorem pe_callS0 {CX : CXT} {k : Nat} {f : Addr} {fd : FuncData} {ps : List Str} {sp : Sp} {E : L2.St → XK} {x : Str} {p : Pos} (F : FnOk X.prog X.w X.K X.mg X.base CX k f fd ps sp) (hr : Room k X.A) (hg : Gl X x) (hm : X.mg x = some (.ref f)) (hk : PySem.W.keepIn X.K (.ref f) = true) (hb : Binds X.K fd ps []) (hx : ∀ σ, PassesAt CX X σ (E σ))
    (hdb : (x == ("__debug__" : Str)) = false) : PE X (.Call (.Name x p) [] [] pos) (tCallS sp E tNil) := by
  refine ⟨fun pins s σ H Q I h => ?_⟩
  refine wpAny_Call_Name_kw (ld_glob I hg hm ?_ hdb)
  exact PySem.W.callWith_K0 I.kIn hk (run_fnS (us := []) F hr hb (hx σ) I .nil h)
theorem rd_call0 {CXn : Nat} {f : Addr} {fd : FuncData} {ps : List Str} {fn : List PyData → Out} {x : Str} {p : Pos} (F : FnOk X.prog X.w X.K X.mg X.base (L2.CX X.prog X.w) CXn f fd ps (spD X.K X.prog X.w X.mg 0 fn)) (hr : Room CXn X.A) (tk : Takes X W) (hg : Gl X x) (hm : X.mg x = some (.ref f))
    (hk : PySem.W.keepIn X.K (.ref f) = true) (hbd : Binds X.K fd ps []) (hdb : (x == ("__debug__" : Str)) = false) :
    PE X (.Call (.Name x p) [] [] pos) (RD X B W fun _ => outR (fn [])) := by
  refine (pe_callS0 (E := WE W) F hr hg hm hk hbd (fun σ => passAt tk σ) hdb).weak fun σ H Q ⟨ρ, φ, S, h⟩ => ?_
  exact ⟨rfl, [], [], .nil, call_left (Same.refl _) (show Left X W ρ φ σ H H Q (outR (fn [])) from h)⟩
end
end PD
set_option maxHeartbeats 4000000
namespace PD
open PySem PySem.Spec PyProof.Rows L2

/-! ## what is walked -/
/-- what the data at F stands for stays -/
def Stay (F : List Addr) (H H' : Hp) : Prop := ∃ O : Addr → Prop, Chg O H H' ∧ ∀ a ∈ F, ¬ O a
theorem Stay.of_same {F : List Addr} {H H' : Hp} (s : Same H H') : Stay F H H' := ⟨fun _ => False, Chg.of_same s, fun _ _ z => z⟩
theorem Stay.rp {K : PySem.W.Frag} {P : Program} {w : World} {F G : List Addr} {H H' : Hp} {v : V} {d : PyData} (s : Stay F H H') (h : Rp K P w H v d G) (hi : ∀ a ∈ G, a ∈ F) : Rp K P w H' v d G :=
  let ⟨_, c, n⟩ := s; h.chg c fun a ha => n a (hi a ha)
theorem Stay.rpl {K : PySem.W.Frag} {P : Program} {w : World} {F G : List Addr} {H H' : Hp} {v : List V} {d : List PyData} (s : Stay F H H') (h : RpL K P w H v d G) (hi : ∀ a ∈ G, a ∈ F) : RpL K P w H' v d G :=
  let ⟨_, c, n⟩ := s; h.chg c fun a ha => n a (hi a ha)
/-- an item as it is handed out: data, or a new tuple of such -/
def ItemOk (K : PySem.W.Frag) (P : Program) (w : World) (tp : Bool) (H : Hp) (x : V) (d : PyData) (F : List Addr) : Prop :=
  if tp = true then ∃ T xs es G, x = .ref T ∧ d = .tuple es ∧ SqT K H T xs ∧ RpL K P w H xs es G ∧ ∀ a ∈ G, a ∈ F else ∃ G, Rp K P w H x d G ∧ ∀ a ∈ G, a ∈ F
structure IterOk (K : PySem.W.Frag) (P : Program) (w : World) (tp : Bool) (J : L2.It) (H1 : Hp) (ds : List PyData) (F : List Addr) : Prop where
  go : ∀ H' i, Stay F H1 H' → i < ds.length → J.go i H'
  stop : ∀ H' i, Stay F H1 H' → ds.length ≤ i → J.stop i H'
  item : ∀ H' i x H'' d, Stay F H1 H' → ds[i]? = some d → J.yld i H' x H'' → Same H' H'' ∧ ItemOk K P w tp H'' x d F
  al : ∀ a ∈ F, H1 a ≠ none
def It.tp : It → Bool
  | .enu _ => true
  | .zip _ _ => true
  | _ => false
section
variable {K : PySem.W.Frag} {P : Program} {w : World}
theorem iter_lst {H1 : Hp} {a : Addr} {ds : List PyData} {F : List Addr} (h : Rp K P w H1 (.ref a) (.list ds) F) : IterOk K P w false (Itl K a) H1 ds F := by
  have st : ∀ {H'}, Stay F H1 H' → ∃ xs G, SqL K H' a xs ∧ RpL K P w H' xs ds G ∧ (∀ b ∈ G, b ∈ F) := fun {H'} s => by
    have q := s.rp h fun a ha => ha
    cases q with
    | lst h1 h2 => exact ⟨_, _, .inl (.inl h1), h2, fun b hb => by simp [hb]⟩
  refine ⟨fun H' i s hi => ?_, fun H' i s hi => ?_, fun H' i x H'' d s hd y => ?_, h.alloc⟩
  · obtain ⟨xs, G, h1, h2, _⟩ := st s
    have hl : i < xs.length := by rw [h2.length]; exact hi
    exact ⟨xs, xs[i], h1, List.getElem?_eq_getElem hl⟩
  · obtain ⟨xs, G, h1, h2, _⟩ := st s
    exact ⟨xs, h1, by rw [h2.length]; exact hi⟩
  · obtain ⟨xs, G, h1, h2, h3⟩ := st s
    obtain ⟨rfl, y⟩ := y
    obtain ⟨v, L, e, q1, q2⟩ := h2.get hd
    have := y xs h1
    rw [e] at this
    cases this
    exact ⟨Same.refl _, by unfold ItemOk; rw [if_neg (by decide)]; exact ⟨L, q1, fun b hb => h3 b (q2 b hb)⟩⟩
theorem iter_tup {H1 : Hp} {a : Addr} {ds : List PyData} {F : List Addr} (h : Rp K P w H1 (.ref a) (.tuple ds) F) : IterOk K P w false (Itt K a) H1 ds F := by
  have st : ∀ {H'}, Stay F H1 H' → ∃ xs, SqT K H' a xs ∧ RpL K P w H' xs ds F := fun {H'} s => by
    have q := s.rp h fun a ha => ha
    cases q with
    | tup h1 h2 => exact ⟨_, h1.sq, h2⟩
  refine ⟨fun H' i s hi => ?_, fun H' i s hi => ?_, fun H' i x H'' d s hd y => ?_, h.alloc⟩
  · obtain ⟨xs, h1, h2⟩ := st s
    have hl : i < xs.length := by rw [h2.length]; exact hi
    exact ⟨xs, xs[i], h1, List.getElem?_eq_getElem hl⟩
  · obtain ⟨xs, h1, h2⟩ := st s
    exact ⟨xs, h1, by rw [h2.length]; exact hi⟩
  · obtain ⟨xs, h1, h2⟩ := st s
    obtain ⟨rfl, y⟩ := y
    obtain ⟨v, L, e, q1, q2⟩ := h2.get hd
    have := y xs h1
    rw [e] at this
    cases this
    exact ⟨Same.refl _, by unfold ItemOk; rw [if_neg (by decide)]; exact ⟨L, q1, q2⟩⟩
theorem rangeL_get {lo : Int} {n i : Nat} {d : PyData} (h : (rangeL lo (lo + n))[i]? = some d) : d = .int (lo + i) := by
  unfold rangeL at h
  rw [List.getElem?_map] at h
  obtain ⟨k, h1, h2⟩ := Option.map_eq_some_iff.mp h
  obtain ⟨h3, h4⟩ := List.getElem?_eq_some_iff.mp h1
  rw [List.getElem_range] at h4
  subst h4
  exact h2.symm
theorem rangeL_length (a b : Int) : (rangeL a b).length = (b - a).toNat := by unfold rangeL; simp
theorem iter_rng {H1 : Hp} {a b : Int} : IterOk K P w false (Itr a (b - a).toNat) H1 (rangeL a b) [] := by
  refine ⟨fun H' i s hi => ?_, fun H' i s hi => ?_, fun H' i x H'' d s hd y => ?_, by simp⟩
  · rw [rangeL_length] at hi; exact hi
  · rw [rangeL_length] at hi; exact hi
  · obtain ⟨rfl, rfl⟩ := y
    have hi : i < (b - a).toNat := by
      have := (List.getElem?_eq_some_iff.mp hd).1
      rw [rangeL_length] at this
      exact this
    have e : d = .int (a + i) := by
      refine rangeL_get (n := (b - a).toNat) ?_
      have : a + ((b - a).toNat : Int) = b := by omega
      rw [this]; exact hd
    subst e
    exact ⟨Same.refl _, by unfold ItemOk; rw [if_neg (by decide)]; exact ⟨[], .int _, by simp⟩⟩
theorem enuL_get : ∀ {ds : List PyData} {k i : Nat} {d : PyData}, (enuL k ds)[i]? = some d → ∃ e, ds[i]? = some e ∧ d = .tuple [.int (k + i : Nat), e]
  | [], _, _, _, h => by simp [enuL] at h
  | e :: ds, k, 0, d, h => by
    simp [enuL] at h
    exact ⟨e, rfl, by rw [← h]; simp⟩
  | e :: ds, k, i + 1, d, h => by
    simp only [enuL, List.getElem?_cons_succ] at h
    obtain ⟨e', h1, h2⟩ := enuL_get h
    exact ⟨e', by simpa using h1, by rw [h2]; simp; omega⟩
theorem enuL_length : ∀ (ds : List PyData) (k : Nat), (enuL k ds).length = ds.length
  | [], _ => rfl
  | _ :: ds, k => by simp [enuL, enuL_length ds]
theorem iter_enu {H1 : Hp} {a : Addr} {ds : List PyData} {F : List Addr} (h : Rp K P w H1 (.ref a) (.list ds) F) : IterOk K P w true (Ite K a) H1 (enuL 0 ds) F := by
  have st : ∀ {H'}, Stay F H1 H' → ∃ xs G, SqL K H' a xs ∧ RpL K P w H' xs ds G ∧ (∀ b ∈ G, b ∈ F) := fun {H'} s => by
    have q := s.rp h fun a ha => ha
    cases q with
    | lst h1 h2 => exact ⟨_, _, .inl (.inl h1), h2, fun b hb => by simp [hb]⟩
  refine ⟨fun H' i s hi => ?_, fun H' i s hi => ?_, fun H' i x H'' d s hd y => ?_, h.alloc⟩
  · rw [enuL_length] at hi
    obtain ⟨xs, G, h1, h2, _⟩ := st s
    have hl : i < xs.length := by rw [h2.length]; exact hi
    exact ⟨xs, xs[i], h1, List.getElem?_eq_getElem hl⟩
  · rw [enuL_length] at hi
    obtain ⟨xs, G, h1, h2, _⟩ := st s
    exact ⟨xs, h1, by rw [h2.length]; exact hi⟩
  · obtain ⟨xs, G, h1, h2, h3⟩ := st s
    obtain ⟨T, x, rfl, hT, rfl, y⟩ := y
    obtain ⟨e, he, rfl⟩ := enuL_get hd
    obtain ⟨v, L, e1, q1, q2⟩ := h2.get he
    have ex : v = x := Option.some.inj (e1.symm.trans (y xs h1))
    subst ex
    refine ⟨same_upd hT, ?_⟩
    unfold ItemOk
    rw [if_pos rfl]
    refine ⟨T, _, _, L, rfl, rfl, SqT.of upd_same, ?_, fun b hb => h3 b (q2 b hb)⟩
    have q3 := RpL.cons (q1.same (same_upd (o := .tup [V.int (i : Nat), v]) hT)) .nil
    rw [List.append_nil] at q3
    have q4 := RpL.cons (F := []) (Rp.int (K := K) (P := P) (w := w) (H := upd H' T (.tup [V.int (i : Nat), v])) (i : Nat)) q3
    simpa using q4
theorem zipL_get : ∀ {as bs : List PyData} {i : Nat} {d : PyData}, (zipL as bs)[i]? = some d → ∃ a b, as[i]? = some a ∧ bs[i]? = some b ∧ d = .tuple [a, b]
  | [], _, _, _, h => by simp [zipL] at h
  | _ :: _, [], _, _, h => by simp [zipL] at h
  | a :: as, b :: bs, 0, d, h => by
    simp [zipL] at h
    exact ⟨a, b, rfl, rfl, h.symm⟩
  | a :: as, b :: bs, i + 1, d, h => by
    simp only [zipL, List.getElem?_cons_succ] at h ⊢
    exact zipL_get h
theorem zipL_length : ∀ (as bs : List PyData), (zipL as bs).length = min as.length bs.length
  | [], _ => by simp [zipL]
  | _ :: _, [] => by simp [zipL]
  | a :: as, b :: bs => by simp [zipL, zipL_length as bs, Nat.succ_min_succ]
theorem iter_zip {H1 : Hp} {a b : Addr} {ds es : List PyData} {F G : List Addr} (h : Rp K P w H1 (.ref a) (.tuple ds) F) (g : Rp K P w H1 (.ref b) (.tuple es) G) : IterOk K P w true (RZ.ItzT K a b) H1 (zipL ds es) (F ++ G) := by
  have st : ∀ {H'}, Stay (F ++ G) H1 H' → ∃ xs ys, SqT K H' a xs ∧ RpL K P w H' xs ds F ∧ SqT K H' b ys ∧ RpL K P w H' ys es G := fun {H'} s => by
    have q := s.rp h fun a ha => by simp [ha]
    have q' := s.rp g fun a ha => by simp [ha]
    cases q with
    | tup h1 h2 =>
      cases q' with
      | tup g1 g2 => exact ⟨_, _, h1.sq, h2, g1.sq, g2⟩
  refine ⟨fun H' i s hi => ?_, fun H' i s hi => ?_, fun H' i x H'' d s hd y => ?_, fun a ha => (List.mem_append.mp ha).elim (h.alloc a) (g.alloc a)⟩
  · rw [zipL_length] at hi
    obtain ⟨xs, ys, h1, h2, g1, g2⟩ := st s
    have hl : i < xs.length := by rw [h2.length]; omega
    have hl' : i < ys.length := by rw [g2.length]; omega
    exact ⟨xs, ys, xs[i], ys[i], h1, g1, List.getElem?_eq_getElem hl, List.getElem?_eq_getElem hl'⟩
  · rw [zipL_length] at hi
    obtain ⟨xs, ys, h1, h2, g1, g2⟩ := st s
    refine ⟨xs, ys, h1, g1, ?_⟩
    rw [h2.length, g2.length]
    omega
  · obtain ⟨xs, ys, h1, h2, g1, g2⟩ := st s
    obtain ⟨T, x, z, rfl, hT, rfl, y1, y2⟩ := y
    obtain ⟨p, q, hp, hq, rfl⟩ := zipL_get hd
    obtain ⟨v, L, e1, q1, q2⟩ := h2.get hp
    obtain ⟨u, M, e2, q3, q4⟩ := g2.get hq
    have ex : v = x := Option.some.inj (e1.symm.trans (y1 xs h1))
    have ez : u = z := Option.some.inj (e2.symm.trans (y2 ys g1))
    subst ex ez
    refine ⟨same_upd hT, ?_⟩
    unfold ItemOk
    rw [if_pos rfl]
    refine ⟨T, _, _, L ++ (M ++ []), rfl, rfl, SqT.of upd_same, .cons (q1.same (same_upd hT)) (.cons (q3.same (same_upd hT)) .nil), fun b hb => ?_⟩
    simp only [List.append_nil, List.mem_append] at hb ⊢
    exact hb.imp (q2 b) (q4 b)
end
end PD
set_option maxHeartbeats 4000000
namespace PD
open PySem PySem.Spec PyProof.Rows L2

/-! ## iterables -/
def Apart (ρ : Rho) (φ : Fp) (R : List Nat) (F : List Addr) : Prop := ∀ (j : Nat) (s : Sl), ρ[j]? = some s → s.ol = true → j ∉ R → ∀ a ∈ F, a ∉ φ j
def RDI (X : Cx) (B : List Base) (W : WX) (tp : Bool) (r : Rho → RI) : TI := fun σ H Q => ∃ ρ φ, Sta X.K X.prog X.w B σ H ρ φ ∧ match r ρ with
  | .ok ds t => ∀ J H1 F, Same H H1 → IterOk X.K X.prog X.w tp J H1 ds F → Apart ρ φ (t.getD []) F → Q J H1
  | .ex c => EX X W c σ H
  | .no => False
def LeftI (X : Cx) (W : WX) (tp : Bool) (ρ : Rho) (φ : Fp) (σ : L2.St) (H : Hp) (Q : L2.It → Hp → Prop) (r : RI) : Prop := match r with
  | .ok ds t => ∀ J H1 F, Same H H1 → IterOk X.K X.prog X.w tp J H1 ds F → Apart ρ φ (t.getD []) F → Q J H1
  | .ex c => EX X W c σ H
  | .no => False
section
variable {X : Cx} {B : List Base} {W : WX} {a b c tg : Expr} {A A' : Rho → R} {pos p : Pos} {tp : Bool}
theorem LeftI.same {ρ : Rho} {φ : Fp} {σ : L2.St} {H H' : Hp} {Q : L2.It → Hp → Prop} {r : RI} (h : LeftI X W tp ρ φ σ H Q r) (s : Same H H') : LeftI X W tp ρ φ σ H' Q r := by
  cases r with
  | ok ds t => exact fun J H1 F s1 => h J H1 F (s.trans s1)
  | ex c => exact EX.same h s
  | no => exact h
theorem RD.thenI {σ : L2.St} {H : Hp} {ρ : Rho} {φ : Fp} {k : PyData → Tn → RI} {Q0 : L2.It → Hp → Prop} {Q : V → Hp → Prop} (S : Sta X.K X.prog X.w B σ H ρ φ) (h : LeftI X W tp ρ φ σ H Q0 ((A ρ).bindI k))
    (hok : ∀ d t v H' F, Same H H' → VC X.K X.prog X.w ρ φ H H' t v d F → LeftI X W tp ρ φ σ H' Q0 (k d t) → Q v H') : RD X B W A σ H Q := by
  refine ⟨ρ, φ, S, ?_⟩
  cases e : A ρ with
  | ok d t =>
    rw [e] at h
    exact fun v H' F s vc => hok d t v H' F s vc (LeftI.same h s)
  | ex c => rw [e] at h; exact h
  | no => rw [e] at h; exact h
theorem rdi_ex (ha : PE X a (RD X B W A)) : PI X tg a (RDI X B W false fun ρ => (A ρ).bindI itD) := by
  refine ((pi_list ha).or (pi_tup ha)).weak fun σ H Q ⟨ρ, φ, S, h⟩ => ?_
  -- which of the two it is tells the data
  cases e : A ρ with
  | ok d t =>
    have h' : LeftI X W false ρ φ σ H Q (itD d t) := by
      have : LeftI X W false ρ φ σ H Q ((A ρ).bindI itD) := h
      rw [e] at this
      exact this
    cases d with
    | list ds =>
      refine .inl ⟨ρ, φ, S, ?_⟩
      rw [e]
      intro v H1 F s vc
      have r := vc.1
      cases r with
      | lst h1 h2 => exact ⟨_, rfl, ⟨_, .inl (.inl h1)⟩, h' _ _ _ s (iter_lst (.lst h1 h2)) (vc.apart S)⟩
    | tuple ds =>
      refine .inr ⟨ρ, φ, S, ?_⟩
      rw [e]
      intro v H1 F s vc
      have r := vc.1
      cases r with
      | tup h1 h2 => exact ⟨_, rfl, ⟨_, h1.sq⟩, h' _ _ _ s (iter_tup (.tup h1 h2)) (vc.apart S)⟩
    | _ => exact h'.elim
  | ex c =>
    refine .inl ⟨ρ, φ, S, ?_⟩
    have : LeftI X W false ρ φ σ H Q ((A ρ).bindI itD) := h
    rw [e] at this ⊢
    exact this
  | no =>
    have : LeftI X W false ρ φ σ H Q ((A ρ).bindI itD) := h
    rw [e] at this
    exact this.elim
theorem rng_left {σ : L2.St} {H1 : Hp} {ρ : Rho} {φ : Fp} {Q : L2.It → Hp → Prop} {m n : Int} (h : LeftI X W false ρ φ σ H1 Q (rngI m n)) : (-(2 ^ 62) ≤ m ∧ m < 2 ^ 62 ∧ -(2 ^ 62) ≤ n ∧ n < 2 ^ 62) ∧ Q (Itr m (n - m).toNat) H1 := by
  unfold rngI at h
  split at h
  · rename_i hz
    unfold rangeOk at hz
    simp only [Bool.and_eq_true, decide_eq_true_eq] at hz
    obtain ⟨⟨⟨z1, z2⟩, z3⟩, z4⟩ := hz
    exact ⟨⟨z1, z2, z3, z4⟩, h _ H1 [] (Same.refl _) iter_rng (fun _ _ _ _ _ a ha => by simp at ha)⟩
  · exact h.elim
theorem rdi_rng (hg : Gl X "range") (hm : X.mg "range" = none) (ha : PE X a (RD X B W A)) (hp : plainE a = true) : PI X tg (.Call (.Name "range" p) [a] [] pos) (RDI X B W false fun ρ => (A ρ).bindI fun x _ => rng1D x) := by
  refine (pi_range1 hg hm (pa_cons ha pa_nil (star_ok hp)) (star_ok hp)).weak fun σ H Q ⟨ρ, φ, S, h⟩ => ?_
  refine RD.thenI (tp := false) S h fun d t v H1 F s vc h1 => ?_
  unfold rng1D at h1
  split at h1
  · have r := vc.1
    cases r
    obtain ⟨⟨_, _, z3, z4⟩, q⟩ := rng_left h1
    exact ⟨_, rfl, z3, z4, by simpa using q⟩
  · exact h1.elim
theorem rdi_rng2 (hg : Gl X "range") (hm : X.mg "range" = none) (ha : PE X a (RD X B W A)) (hb : PE X b (RD X B W A')) (hp : plainE a = true) (hq : plainE b = true) :
    PI X tg (.Call (.Name "range" p) [a, b] [] pos) (RDI X B W false fun ρ => (A ρ).bindI fun x _ => (A' ρ).bindI fun y _ => rng2D x y) := by
  refine (pi_range2 hg hm (pa_cons ha (pa_cons hb pa_nil (star_ok hq)) (star_ok hp)) (by rw [star_ok hp, star_ok hq]; rfl) (star_ok hq)).weak fun σ H Q ⟨ρ, φ, S, h⟩ => ?_
  refine RD.thenI (tp := false) S h fun d t v H1 F s vc h1 => ?_
  refine ⟨ρ, φ, S.same s, ?_⟩
  cases e : A' ρ with
  | ok d' t' =>
    rw [e] at h1
    have h1 : LeftI X W false ρ φ σ H1 Q (rng2D d d') := h1
    intro v' H2 F' s' vc'
    unfold rng2D at h1
    split at h1
    · have r := vc.1
      cases r
      have r := vc'.1
      cases r
      obtain ⟨q1, q2⟩ := rng_left (LeftI.same h1 s')
      exact ⟨_, _, rfl, q1, q2⟩
    · exact h1.elim
  | ex c => rw [e] at h1; exact h1
  | no => rw [e] at h1; exact h1
theorem rdi_enu {elts : List Expr} {kk : Nat} {tpos : Pos} (hg : Gl X "enumerate") (hm : X.mg "enumerate" = none) (ha : PE X a (RD X B W A)) (hp : plainE a = true) : PI X (.Tuple elts kk tpos) (.Call (.Name "enumerate" p) [a] [] pos) (RDI X B W true fun ρ => (A ρ).bindI enuD) := by
  refine (pi_enum hg hm (pa_cons ha pa_nil (star_ok hp)) (star_ok hp)).weak fun σ H Q ⟨ρ, φ, S, h⟩ => ?_
  refine RD.thenI (tp := true) S h fun d t v H1 F s vc h1 => ?_
  unfold enuD at h1
  split at h1
  · have ap := vc.apart S
    have r := vc.1
    cases r with
    | lst g1 g2 => exact ⟨_, _, rfl, .inl (.inl g1), h1 _ H1 _ (Same.refl _) (iter_enu (.lst g1 g2)) ap⟩
  · exact h1.elim
theorem rdi_zip {elts : List Expr} {kk : Nat} {tpos : Pos} (hg : Gl X "zip") (hm : X.mg "zip" = none) (ha : PE X a (RD X B W A)) (hb : PE X b (RD X B W A')) (hp : plainE a = true) (hq : plainE b = true) :
    PI X (.Tuple elts kk tpos) (.Call (.Name "zip" p) [a, b] [] pos) (RDI X B W true fun ρ => (A ρ).bindI fun x t => (A' ρ).bindI fun y t' => zipD x t y t') := by
  refine (RZ.pi_zipA hg hm (pa_cons ha (pa_cons hb pa_nil (star_ok hq)) (star_ok hp)) (star_ok hp) (by rw [star_ok hq]; rfl)).weak fun σ H Q ⟨ρ, φ, S, h⟩ => ?_
  refine RD.thenI (tp := true) S h fun d t v H1 F s vc h1 => ?_
  refine ⟨ρ, φ, S.same s, ?_⟩
  cases e : A' ρ with
  | ok d' t' =>
    rw [e] at h1
    have h1 : LeftI X W true ρ φ σ H1 Q (zipD d t d' t') := h1
    intro v' H2 F' s' vc'
    have ap := vc.apart S
    have ap' := vc'.apart (S.same s)
    have rr := vc.1.same s'
    unfold zipD at h1
    split at h1
    · cases rr with
      | tup g1 g2 =>
        have r := vc'.1
        cases r with
        | tup k1 k2 =>
          refine ⟨_, _, _, _, rfl, .inr ⟨g1.sq, k1.sq, h1 _ H2 _ s' (iter_zip (.tup g1 g2) (.tup k1 k2)) fun j sl e o hj a ha => ?_⟩⟩
          rcases List.mem_append.mp ha with z | z
          · exact ap j sl e o (fun q => hj (by simp at q ⊢; exact .inl q)) a z
          · exact ap' j sl e o (fun q => hj (by simp at q ⊢; exact .inr q)) a z
    · exact h1.elim
  | ex c => rw [e] at h1; exact h1
  | no => rw [e] at h1; exact h1

/-! ## targets -/
def gNs : List Nat → TGs
  | [] => gNil
  | i :: is => gCons (gName i) (gNs is)
def gT (K : PySem.W.Frag) : Tg → TG
  | .one i => gName i
  | .many is => gTup K is.length (gNs is)
def Tg.slots : Tg → List Nat
  | .one i => [i]
  | .many is => is
theorem put_apart {ρ : Rho} {φ : Fp} {i : Nat} {d : PyData} {R : List Nat} {F G : List Addr} (h : Apart ρ φ R F) (hg : imm d = true → G = []) : Apart (put ρ i d (if imm d = true then none else some R)) (φ.set i G) R F := by
  intro j s e o hj a ha
  rw [put_eq] at e
  by_cases hji : j = i
  · subst hji
    by_cases hl : j < ρ.length
    · rw [List.getElem?_set_self hl] at e
      cases e
      unfold Sl.of at o
      by_cases im : imm d = true
      · rw [Fp.set_same, hg im]; simp
      · simp only [if_neg im] at o; cases o
    · rw [List.getElem?_eq_none (by rw [List.length_set]; omega)] at e; cases e
  · rw [List.getElem?_set_ne (Ne.symm hji)] at e
    rw [Fp.set_ne hji]
    exact h j s e o hj a ha
/-- how the slots end -/
def Tgd (K : PySem.W.Frag) (P : Program) (w : World) (B : List Base) (σ : L2.St) (S : List Nat) (ρ1 : Rho) (Q : L2.St → Hp → Prop) (H : Hp) : Prop :=
  ∀ σ1 φ1, Sta K P w B σ1 H ρ1 φ1 → σ1.length = σ.length → (∀ j, j ∉ S → σ1[j]? = σ[j]?) → Q σ1 H
theorem tg_all {K : PySem.W.Frag} {P : Program} {w : World} {t : Tn} {H : Hp} {F : List Addr} {Q : L2.St → Hp → Prop} {σ0 : L2.St} {S0 : List Nat} {ρ1 : Rho} (hp : ∀ i ∈ S0, i ≠ 0 ∨ ∀ b ∈ B, b.pin = none) (q : Tgd K P w B σ0 S0 ρ1 Q H) (is : List Nat) :
    ∀ (ds : List PyData) (xs : List V) (ρ : Rho) (φ : Fp) (σ : L2.St) (G : List Addr), Sta K P w B σ H ρ φ → RpL K P w H xs ds G → (∀ a ∈ G, a ∈ F) → Apart ρ φ (t.getD []) F → putAll ρ is ds t = some ρ1 → (∀ i ∈ is, i ∈ S0) → σ.length = σ0.length →
      (∀ j, j ∉ S0 → σ[j]? = σ0[j]?) → gNs is xs σ H Q := by
  induction is with
  | nil =>
    intro ds xs ρ φ σ G S h _ ap hq _ hl hs
    cases ds with
    | nil =>
      cases h
      have e : ρ = ρ1 := Option.some.inj hq
      subst e
      exact ⟨rfl, q σ φ S hl hs⟩
    | cons _ _ => cases hq
  | cons i is ih =>
    intro ds xs ρ φ σ G S h hi ap hq hm hl hs
    cases ds with
    | nil => cases hq
    | cons d ds =>
      cases h with
      | @cons v vs _ _ G1 G2 h1 h2 =>
        refine ⟨v, vs, rfl, ?_⟩
        have vc : VC K P w ρ φ H H (if imm d = true then none else some (t.getD [])) v d G1 := VC.item h1 (fun a ha => hi a (List.mem_append_left _ ha)) ap
        have hi0 : i ∈ S0 := hm i List.mem_cons_self
        have S1 := S.put (Same.refl _) (hp i hi0) vc
        exact ih ds vs _ _ (σ.set i (some v)) G2 S1 h2 (fun a ha => hi a (List.mem_append_right _ ha)) (put_apart ap fun im => h1.imm im) hq (fun j hj => hm j (List.mem_cons_of_mem _ hj)) (by rw [List.length_set]; exact hl)
          (fun j hj => by rw [List.getElem?_set_ne (fun e => hj (by rw [← e]; exact hi0))]; exact hs j hj)
theorem tg_ok {t : Tn} {H0 H : Hp} {ρ ρ1 : Rho} {φ : Fp} {σ : L2.St} {F : List Addr} {x : V} {d : PyData} {Q : L2.St → Hp → Prop} (tg : Tg) (S : Sta X.K X.prog X.w B σ H0 ρ φ) (s : Same H0 H) (hi : ItemOk X.K X.prog X.w tp H x d F) (ht : tp = true → ∃ is, tg = .many is) (ap : Apart ρ φ (t.getD []) F)
    (hp : ∀ i ∈ tg.slots, i ≠ 0 ∨ ∀ b ∈ B, b.pin = none) (hq : putTg ρ tg d t = some ρ1) (q : Tgd X.K X.prog X.w B σ tg.slots ρ1 Q H) : gT X.K tg x σ H Q := by
  have S1 := S.same s
  cases tg with
  | one i =>
    have e : tp = false := by
      cases tp with
      | false => rfl
      | true => obtain ⟨is, e⟩ := ht rfl; cases e
    subst e
    unfold ItemOk at hi
    rw [if_neg (by decide)] at hi
    obtain ⟨G, h1, h2⟩ := hi
    cases hq
    have vc : VC X.K X.prog X.w ρ φ H H (if imm d = true then none else some (t.getD [])) x d G := VC.item h1 h2 ap
    exact q _ _ (S1.put (Same.refl _) (hp i (by simp [Tg.slots])) vc) (by simp) fun j hj => List.getElem?_set_ne (fun e => hj (by simp [Tg.slots, e]))
  | many is =>
    unfold putTg at hq
    cases d with
    | tuple ds =>
      have go : ∀ {T : Addr} {xs : List V} {G : List Addr}, SqT X.K H T xs → RpL X.K X.prog X.w H xs ds G → (∀ a ∈ G, a ∈ F) → gT X.K (.many is) (.ref T) σ H Q := fun {T xs G} h1 h2 h3 => by
        refine ⟨T, xs, rfl, h1, ?_, tg_all (S0 := is) hp q is ds xs ρ φ σ G S1 h2 h3 ap hq (fun i hi => hi) rfl (fun _ _ => rfl)⟩
        rw [h2.length]
        have : ∀ {is : List Nat} {ds : List PyData} {ρ : Rho}, putAll ρ is ds t = some ρ1 → ds.length = is.length := by
          intro is
          induction is with
          | nil =>
            intro ds ρ e
            cases ds with
            | nil => rfl
            | cons _ _ => cases e
          | cons i is ih =>
            intro ds ρ e
            cases ds with
            | nil => cases e
            | cons _ _ => simp [ih e]
        exact this hq
      unfold ItemOk at hi
      split at hi
      · obtain ⟨T, xs, es, G, rfl, e, h1, h2, h3⟩ := hi
        cases e
        exact go h1 h2 h3
      · obtain ⟨G, h1, h2⟩ := hi
        cases h1 with
        | tup g1 g2 => exact go g1.sq g2 h2
    | _ => cases hq
theorem wipe_get {σ : L2.St} {j : Nat} : ∀ {vs : List Nat}, (j ∈ vs → (wipe σ vs)[j]? = if j < σ.length then some none else none) ∧ (j ∉ vs → (wipe σ vs)[j]? = σ[j]?)
  | [] => ⟨fun h => by simp at h, fun _ => rfl⟩
  | v :: vs => by
    obtain ⟨h1, h2⟩ := @wipe_get σ j vs
    have hl : (wipe σ vs).length = σ.length := wipe_length σ vs
    by_cases hv : j = v
    · subst hv
      refine ⟨fun _ => ?_, fun h => absurd (by simp) h⟩
      unfold wipe
      by_cases hj : j < σ.length
      · rw [List.getElem?_set_self (by rw [hl]; exact hj), if_pos hj]
      · rw [if_neg hj, List.getElem?_eq_none (by rw [List.length_set, hl]; omega)]
    · refine ⟨fun h => ?_, fun h => ?_⟩
      · unfold wipe
        rw [List.getElem?_set_ne (Ne.symm hv)]
        exact h1 ((List.mem_cons.mp h).resolve_left hv)
      · unfold wipe
        rw [List.getElem?_set_ne (Ne.symm hv)]
        exact h2 fun z => h (List.mem_cons_of_mem _ z)
theorem wipe_eq {σ σ1 : L2.St} {vs : List Nat} (hl : σ1.length = σ.length) (h : ∀ j, j ∉ vs → σ1[j]? = σ[j]?) : wipe σ1 vs = wipe σ vs := by
  refine List.ext_getElem? fun j => ?_
  by_cases hj : j ∈ vs
  · rw [(wipe_get (σ := σ1)).1 hj, (wipe_get (σ := σ)).1 hj, hl]
  · rw [(wipe_get (σ := σ1)).2 hj, (wipe_get (σ := σ)).2 hj, h j hj]
theorem wipe_twice {σ σ1 : L2.St} {vs : List Nat} (hl : σ1.length = (wipe σ vs).length) (h : ∀ j, j ∉ vs → σ1[j]? = (wipe σ vs)[j]?) : wipe σ1 vs = wipe σ vs :=
  wipe_eq (by rw [hl, wipe_length]) fun j hj => by rw [h j hj, (wipe_get (σ := σ)).2 hj]
end
end PD
set_option maxHeartbeats 4000000
namespace PD
open PySem PySem.Spec PyProof.Rows L2

/-! ## comprehensions -/
def W0 : WX := fun _ _ _ _ => False
theorem wipeR_get {ρ : Rho} {j : Nat} {s : Sl} : ∀ {vs : List Nat}, (wipeR ρ vs)[j]? = some s → ρ[j]? = some s ∨ s = .un
  | [], e => .inl e
  | v :: vs, e => by
    unfold wipeR at e
    by_cases hj : j = v
    · subst hj
      by_cases hl : j < (wipeR ρ vs).length
      · rw [List.getElem?_set_self hl] at e; cases e; exact .inr rfl
      · rw [List.getElem?_eq_none (by rw [List.length_set]; omega)] at e; cases e
    · rw [List.getElem?_set_ne (Ne.symm hj)] at e
      exact wipeR_get e
theorem Apart.wipe {ρ : Rho} {φ : Fp} {R : List Nat} {F : List Addr} (h : Apart ρ φ R F) (vs : List Nat) : Apart (wipeR ρ vs) φ R F := fun j s e o hj a ha => by
  rcases wipeR_get e with z | z
  · exact h j s z o hj a ha
  · subst z; cases o
section
variable {X : Cx} {B : List Base} {W : WX} {tp : Bool} {I : Rho → RI} {T : Rho → RT} {A : Rho → R} {tg : Tg} {vs : List Nat}
/-- the list so far -/
structure Sofar (K : PySem.W.Frag) (P : Program) (w : World) (D : Addr) (H1 H' : Hp) (acc : List PyData) : Prop where
  ex : ∃ xs G, H' D = some (.lst xs) ∧ RpL K P w H' xs acc G ∧ (∀ a ∈ G, H1 a = none ∧ Mut (H' a)) ∧ G.Nodup ∧ D ∉ G
  same : Same H1 H'
theorem Sofar.keep {K : PySem.W.Frag} {P : Program} {w : World} {D : Addr} {H1 H' H'' : Hp} {acc : List PyData} (h : Sofar K P w D H1 H' acc) (s : Same H' H'') : Sofar K P w D H1 H'' acc := by
  obtain ⟨⟨xs, G, h1, h2, h3, h4, h5⟩, h6⟩ := h
  exact ⟨⟨xs, G, s _ _ h1, h2.same s, fun a ha => ⟨(h3 a ha).1, Mut.same (h3 a ha).2 s⟩, h4, h5⟩, h6.trans s⟩
theorem Sofar.put {K : PySem.W.Frag} {P : Program} {w : World} {D : Addr} {H1 H3 H4 : Hp} {acc : List PyData} {v : V} {d : PyData} {F : List Addr} (hD : H1 D = none) (h : Sofar K P w D H1 H3 acc) (s : Same H3 H4) (hv : Rp K P w H4 v d F) (hF : (∀ a ∈ F, H3 a = none ∧ Mut (H4 a)) ∧ F.Nodup) :
    ∃ xs, H4 D = some (.lst xs) ∧ xs.length = acc.length ∧ Sofar K P w D H1 (upd H4 D (.lst (xs ++ [v]))) (acc ++ [d]) := by
  obtain ⟨⟨xs, G, k1, k2, k3, hn, h5⟩, h6⟩ := h
  have h1 := s _ _ k1
  have h2 := k2.same s
  have hDF : D ∉ F := fun hm => by
    have := (hF.1 D hm).1
    rw [k1] at this; cases this
  have c : Chg (fun a => a = D) H4 (upd H4 D (.lst (xs ++ [v]))) := ⟨fun a o e k => by
    by_cases ha : a = D
    · subst ha
      rw [h1] at e; cases e
      rcases k with k | k
      · exact absurd rfl k
      · exact absurd trivial k
    · rw [upd_ne ha]; exact e, fun a e => by
    by_cases ha : a = D
    · subst ha; rw [upd_same] at e; cases e
    · rw [upd_ne ha] at e; exact e⟩
  refine ⟨xs, h1, h2.length, ⟨⟨xs ++ [v], G ++ (F ++ []), upd_same, (h2.chg c fun a ha e => h5 (by rw [← e]; exact ha)).append (.cons (hv.chg c fun a ha e => hDF (by rw [← e]; exact ha)) .nil), fun a ha => ?_, ?_, ?_⟩, fun b o e => ?_⟩⟩
  · simp only [List.append_nil, List.mem_append] at ha
    rcases ha with z | z
    · have ne : a ≠ D := fun e => h5 (by rw [← e]; exact z)
      exact ⟨(k3 a z).1, by rw [upd_ne ne]; exact Mut.same (k3 a z).2 s⟩
    · have ne : a ≠ D := fun e => hDF (by rw [← e]; exact z)
      exact ⟨h6.free (hF.1 a z).1, by rw [upd_ne ne]; exact (hF.1 a z).2⟩
  · rw [List.append_nil]
    refine List.nodup_append.mpr ⟨hn, hF.2, fun a ha b hb e => ?_⟩
    subst e
    exact Mut.some (k3 a ha).2 (hF.1 a hb).1
  · rw [List.append_nil]
    exact fun hm => (List.mem_append.mp hm).elim h5 hDF
  · have ne : b ≠ D := fun z => by rw [z, hD] at e; cases e
    rw [upd_ne ne]
    exact s _ _ (h6 _ _ e)
theorem lcR_ok {r : RL} {Q : VK} {ρ : Rho} {φ : Fp} {σ : L2.St} {H0 H : Hp} (h : Left X W ρ φ σ H0 H Q (lcR r)) : ∃ xs ts, r = .ok xs ts ∧ Left X W ρ φ σ H0 H Q (.ok (.list xs) none) := by
  cases r with
  | ok xs ts => exact ⟨xs, ts, rfl, h⟩
  | ex c => exact h.elim
  | no => exact h.elim
theorem lc_weak {σ : L2.St} {H : Hp} {Q : VK} (htp : tp = true → ∃ is, tg = .many is) (hsl : ∀ i ∈ tg.slots, i ∈ vs) (h : RD X B W (fun ρ => (I ρ).bindR fun ds t => lcR (lcLoop T A tg vs ρ t ds [] [])) σ H Q) :
    tLc (RDI X B W tp I) (gT X.K tg) (RDT X [] W0 T) (RD X [] W0 A) vs σ H Q := by
  obtain ⟨ρ, φ, S, h⟩ := h
  have h : Left X W ρ φ σ H H Q ((I ρ).bindR fun ds t => lcR (lcLoop T A tg vs ρ t ds [] [])) := h
  refine ⟨ρ, φ, S, ?_⟩
  cases eI : I ρ with
  | ex c => rw [eI] at h; exact h
  | no => rw [eI] at h; exact h
  | ok ds t =>
    rw [eI] at h
    intro J H1 F s1 it ap D hD
    obtain ⟨xs, tsF, eL, hq⟩ := lcR_ok (Left.same h s1)
    let Inv : Nat → Hp → Prop := fun i H' => ∃ acc ts, Sofar X.K X.prog X.w D H1 H' acc ∧ lcLoop T A tg vs ρ t (ds.drop i) acc ts = .ok xs tsF
    refine ⟨fun i m H' => m = ds.length - i ∧ i ≤ ds.length ∧ Inv i H', ⟨ds.length, by simp, Nat.zero_le _, [], [], ⟨⟨[], [], upd_same, .nil, by simp, by simp, by simp⟩, same_upd hD⟩, by simpa using eL⟩, ?_⟩
    rintro i m H' ⟨rfl, hi, acc, ts, sf, hl⟩
    by_cases hlt : i < ds.length
    case neg =>
      have e : ds.drop i = [] := List.drop_eq_nil_of_le (by omega)
      rw [e] at hl
      cases hl
      obtain ⟨⟨ys, G, h1, h2, h3, h4, h5⟩, h6⟩ := sf
      refine .inl ⟨it.stop H' i (Stay.of_same h6) (by omega), hq (.ref D) H' (D :: G) h6 ⟨.lst h1 h2, fun a ha => ?_, List.nodup_cons.mpr ⟨h5, h4⟩⟩⟩
      rcases List.mem_cons.mp ha with e | z
      · subst e; exact ⟨s1.free hD, by rw [h1]; trivial⟩
      · exact ⟨s1.free (h3 a z).1, (h3 a z).2⟩
    case pos =>
      have hd : ds[i]? = some ds[i] := List.getElem?_eq_getElem hlt
      rw [List.drop_eq_getElem_cons hlt] at hl
      unfold lcLoop at hl
      refine .inr ⟨it.go H' i (Stay.of_same sf.same) hlt, Inv (i + 1), fun H'' q => ⟨ds.length - (i + 1), by omega, rfl, hlt, q⟩, fun x H'' y => ?_⟩
      obtain ⟨s2, item⟩ := it.item H' i x H'' ds[i] (Stay.of_same sf.same) hd y
      cases hp : putTg (wipeR ρ vs) tg ds[i] t with
      | none => rw [hp] at hl; cases hl
      | some ρ1 =>
        rw [hp] at hl
        dsimp only at hl
        refine tg_ok (X := X) (B := []) tg (S.wipe vs) (s1.trans (sf.same.trans s2)) item htp (ap.wipe vs) (fun i _ => .inr fun b hb => by simp at hb) hp ?_
        intro σ1 φ1 S1 hlen hsame
        refine ⟨wipe_twice hlen fun j hj => hsame j fun hm => hj (hsl j hm), ρ1, φ1, S1, ?_⟩
        cases eT : T ρ1 with
        | ex c => rw [eT] at hl; cases hl
        | no => rw [eT] at hl; cases hl
        | ok b =>
          rw [eT] at hl
          intro H3 s3
          cases b with
          | false =>
            rw [if_neg (by decide)]
            exact ⟨acc, ts, sf.keep (s2.trans s3), hl⟩
          | true =>
            rw [if_pos rfl]
            dsimp only at hl
            refine ⟨ρ1, φ1, S1.same s3, ?_⟩
            cases eA : A ρ1 with
            | ex c => rw [eA] at hl; cases hl
            | no => rw [eA] at hl; cases hl
            | ok d td =>
              rw [eA] at hl
              dsimp only at hl
              intro v H4 F4 s4 vc
              split at hl
              · rename_i hz
                obtain ⟨hz, e⟩ := hz
                subst e
                obtain ⟨ys, k1, k2, k3⟩ := (sf.keep (s2.trans s3)).put hD s4 vc.1 vc.2
                exact ⟨ys, k1, by rw [k2, ← line_eq]; exact hz, acc ++ [d], _, k3, hl⟩
              · cases hl
end
section
variable {X : Cx} {B : List Base} {W : WX} {tp : Bool} {I : Rho → RI} {T : Rho → RT} {A : Rho → R} {tg : Tg}
theorem rd_lc {elt tgE iter : Expr} {ifs : List Expr} {scope : Scope} {own : List (Str × Nat)} {pos : Pos} (hc : X.calm = true) (hN : X.N.Nodup) (hi : PI X tgE iter (RDI X B W tp I)) (htp : tp = true → ∃ is, tg = .many is) (hsl : ∀ i ∈ tg.slots, i ∈ own.map (·.2)) (ok : BlkOk X.N X.env.scope scope own)
    (hg : ∀ (s : Shared) (H : Hp) (C : Addr) (cl : List (Str × Addr)) (fp : List Addr), PG (X.blk s H scope (compEnvC scope cl C X.env) fp) tgE (gT X.K tg)) (ht : ∀ (s : Shared) (H : Hp) (C : Addr) (cl : List (Str × Addr)) (fp : List Addr), PTs (X.blk s H scope (compEnvC scope cl C X.env) fp) ifs (RDT X [] W0 T))
    (he : ∀ (s : Shared) (H : Hp) (C : Addr) (cl : List (Str × Addr)) (fp : List Addr), PE (X.blk s H scope (compEnvC scope cl C X.env) fp) elt (RD X [] W0 A)) (hs : ∀ x, foldedSetIterable iter X.env x = pure x) :
    PE X (.ListComp elt [⟨tgE, iter, ifs, 0⟩] scope pos) (RD X B W fun ρ => (I ρ).bindR fun ds t => lcR (lcLoop T A tg (own.map (·.2)) ρ t ds [] [])) :=
  (pe_lc hc hN hi ok hg ht he hs).weak fun _ _ _ h => lc_weak htp hsl h
end
end PD
set_option maxHeartbeats 4000000
namespace PD
open PySem PySem.Spec PyProof.Rows L2

/-! ## the syntax that stands for it -/
/-- the module's names: defs (name, how many arguments, whether the first is handed in and out), constants, names that are built-ins' -/
structure GT where
  fns : List (Str × Nat × Bool)
  consts : List (Str × PyData)
  blts : List Str
  excs : List Str

def visOk (sc : Scope) (x : Str) : Bool := match sc.names.lookup x with
  | some .local => true
  | some .cell => true
  | some .free => true
  | _ => false
def glOk (sc : Scope) (x : Str) : Bool := decide (sc.names.lookup x = some .globalImplicit) && !(x == ("__debug__" : Str))
/-- where a name may be stored -/
abbrev StOk := Str → Bool
def cOk : PyData → Const → Bool
  | .none, .none => true
  | .bool b, .bool c => b == c
  | .int i, .int j => decide (i = j)
  | .str x, .str y => decide (x = y)
  | _, _ => false
def Bi.nm : Bi → Str
  | .len => "len"
  | .sum => "sum"
  | .max => "max"
  | .min => "min"
  | .sorted => "sorted"
  | .list => "list"
  | .tuple => "tuple"
  | .int => "int"
  | .str => "str"
  | .abs => "abs"
  | _ => ""
/-- needs that nothing is being handled -/
def Bi.calm : Bi → Bool
  | .sum => true
  | .max => true
  | .min => true
  | _ => false
def biOk : Bi → Bool
  | .len => true
  | .sum => true
  | .max => true
  | .min => true
  | .sorted => true
  | .list => true
  | .tuple => true
  | .int => true
  | .abs => true
  | _ => false
def mTgs (N : List Str) (st : StOk) : List Nat → List Expr → Bool
  | [], [] => true
  | i :: is, .Name x _ :: es => decide (N[i]? = some x) && st x && mTgs N st is es
  | _, _ => false
def mTg (N : List Str) (st : StOk) : Tg → Expr → Bool
  | .one i, .Name x _ => decide (N[i]? = some x) && st x
  | .many is, .Tuple es _ _ => mTgs N st is es
  | _, _ => false
def notSet : Expr → Bool
  | .Set .. => false
  | _ => true
def isTuple : Expr → Bool
  | .Tuple .. => true
  | _ => false
def blkSt (scope : Scope) : StOk := fun x => decide (scope.names.lookup x = some .local) || decide (scope.names.lookup x = some .cell)

mutual
def mE (G : GT) (hot : Bool) (N : List Str) (sc : Scope) : E → Expr → Bool
  | .v i, x => match x with
    | .Name n _ => decide (N[i]? = some n) && visOk sc n && !(n == ("__debug__" : Str)) && !(n == ("__classdict__" : Str))
    | _ => false
  | .c d, x => match x with
    | .Constant c _ _ => cOk d c
    | _ => false
  | .g k, x => match x with
    | .Name n _ => match G.consts[k]? with
      | some (m, _) => decide (n = m) && glOk sc n
      | none => false
    | _ => false
  | .bin o a b, x => match x with
    | .BinOp l p r _ => decide (p = o.op) && mE G hot N sc a l && mE G hot N sc b r
    | _ => false
  | .neg a, x => match x with
    | .UnaryOp p l _ => decide (p = .USub) && mE G hot N sc a l
    | _ => false
  | .cmp o a b, x => match x with
    | .Compare l [p] [r] _ => decide (p = o.op) && mE G hot N sc a l && mE G hot N sc b r && notSet r
    | _ => false
  | .chain o o' a b c, x => match x with
    | .Compare l [p, p'] [r, r'] _ => decide (p = o.op) && decide (p' = o'.op) && mE G hot N sc a l && mE G hot N sc b r && mE G hot N sc c r' && notSet r'
    | _ => false
  | .and2 a b, x => match x with
    | .BoolOp .And (l :: m :: r) p => mE G hot N sc a l && mE G hot N sc b (.BoolOp .And (m :: r) p)
    | _ => false
  | .or2 a b, x => match x with
    | .BoolOp .Or (l :: m :: r) p => mE G hot N sc a l && mE G hot N sc b (.BoolOp .Or (m :: r) p)
    | _ => false
  | .one a, x => match x with
    | .BoolOp _ [l] _ => mE G hot N sc a l
    | _ => false
  | .not1 a, x => match x with
    | .UnaryOp p l _ => decide (p = .Not) && mE G hot N sc a l
    | _ => false
  | .ife t a b, x => match x with
    | .IfExp t' a' b' _ => mE G hot N sc t t' && mE G hot N sc a a' && mE G hot N sc b b'
    | _ => false
  | .ix a b, x => match x with
    | .Subscript l r _ => mE G hot N sc a l && mE G hot N sc b r && plainE r
    | _ => false
  | .sl a lo hi, x => match x with
    | .Subscript l (.Slice l' h' none _) _ => mE G hot N sc a l && (match l' with | none => lo.isOmit | some e => !lo.isOmit && mE G hot N sc lo e) && (match h' with | none => hi.isOmit | some e => !hi.isOmit && mE G hot N sc hi e)
    | _ => false
  | .rev a, x => match x with
    | .Subscript l (.Slice none none (some (.UnaryOp .USub (.Constant (.int i) _ _) _)) _) _ => decide (i = 1) && mE G hot N sc a l
    | _ => false
  | .omit, _ => false
  | .tup es, x => match x with
    | .Tuple ls _ _ => mEL G hot N sc es ls
    | _ => false
  | .lst es, x => match x with
    | .List ls _ => mEL G hot N sc es ls
    | _ => false
  | .dic0, _ => false
  | .call f es, x => match x with
    | .Call (.Name n _) ls [] _ => (match G.fns[f]? with
      | some (m, np, io) => decide (n = m) && glOk sc n && decide (np = ls.length) && !io && !hot
      | none => false) && mEL G hot N sc es ls
    | _ => false
  | .bi b es, x => match x with
    | .Call (.Name n _) ls [] _ => glOk sc n && G.blts.contains n && (if b = .listRange1 then decide (n = "list") && (match ls with
        | [.Call (.Name m _) ls' [] _] => decide (m = "range") && glOk sc m && G.blts.contains m && !hot && decide (ls'.length = 1) && mEL G hot N sc es ls'
        | _ => false)
      else if b = .sortedSet then decide (n = "sorted") && (match ls with
        | [.Call (.Name m _) ls' [] _] => decide (m = "set") && glOk sc m && G.blts.contains m && !hot && decide (ls'.length = 1) && mEL G hot N sc es ls'
        | _ => false)
      else biOk b && decide (n = b.nm) && !(b.calm && hot) && !ls.isEmpty && mEL G hot N sc es ls)
    | _ => false
  | .me m o es, x => match x with
    | .Call (.Attribute o' n ap) ls [] cp => decide (n = m.name) && decide (ap.endLine = cp.line) && mE G hot N sc o o' && baseOk o' && mEL G hot N sc es ls && !ls.isEmpty && decide (ls.length < 30)
    | _ => false
  | .isi a t, x => match x with
    | .Call (.Name n _) [l, .Name m _] [] _ => decide (n = "isinstance") && decide (m = t.name) && glOk sc n && glOk sc m && G.blts.contains n && G.blts.contains m && mE G hot N sc a l && plainE l
    | _ => false
  | .lc elt tg it cond own, x => match x with
    | .ListComp elt' [⟨tgE, iter, ifs, asy⟩] scope _ => !hot && decide (asy = 0) && blkC N sc scope own && mTg N (blkSt scope) tg tgE && mI G hot N sc it iter tgE && notSet iter && (tg.slots.all fun i => (own.map (·.2)).contains i) && mE G hot N (relS scope sc) elt elt' &&
        (match ifs with
        | [] => cond.isOmit
        | [c] => !cond.isOmit && mE G hot N (relS scope sc) cond c
        | _ => false)
    | _ => false
def mEL (G : GT) (hot : Bool) (N : List Str) (sc : Scope) : EL → List Expr → Bool
  | .nil, ls => ls.isEmpty
  | .cons e es, ls => match ls with
    | l :: ls => mE G hot N sc e l && plainE l && mEL G hot N sc es ls
    | [] => false
def mI (G : GT) (hot : Bool) (N : List Str) (sc : Scope) : It → Expr → Expr → Bool
  | .ex e, x, _ => mE G hot N sc e x
  | .rng a, x, _ => match x with
    | .Call (.Name n _) [l] [] _ => decide (n = "range") && glOk sc n && G.blts.contains n && mE G hot N sc a l && plainE l
    | _ => false
  | .rng2 a b, x, _ => match x with
    | .Call (.Name n _) [l, r] [] _ => decide (n = "range") && glOk sc n && G.blts.contains n && mE G hot N sc a l && plainE l && mE G hot N sc b r && plainE r
    | _ => false
  | .enu a, x, t => match x with
    | .Call (.Name n _) [l] [] _ => decide (n = "enumerate") && glOk sc n && G.blts.contains n && mE G hot N sc a l && plainE l && isTuple t
    | _ => false
  | .zip a b, x, t => match x with
    | .Call (.Name n _) [l, r] [] _ => decide (n = "zip") && glOk sc n && G.blts.contains n && mE G hot N sc a l && plainE l && mE G hot N sc b r && plainE r && isTuple t
    | _ => false
end

/-! ## what stands behind the module's names -/
structure CT (G : GT) (T : Tab) (n : Nat) (X : Cx) : Prop where
  blt : ∀ x, x ∈ G.blts → X.mg x = none
  const : ∀ (k : Nat) (x : Str) (d : PyData), G.consts[k]? = some (x, d) → T.consts k = some d ∧ ∃ v u, X.mg x = some u ∧ RelV v u ∧ ∀ H, Rp X.K X.prog X.w H v d []
  fn : ∀ (f : Nat) (x : Str) (np : Nat) (io : Bool), G.fns[f]? = some (x, np, io) → T.io f = io ∧ (io = false → ∃ (a : Addr) (fd : FuncData) (ps : List Str), FnOk X.prog X.w X.K X.mg X.base (L2.CX X.prog X.w) n a fd ps (spD X.K X.prog X.w X.mg np (T.fn f)) ∧ X.mg x = some (.ref a) ∧
    PySem.W.keepIn X.K (.ref a) = true ∧ Binds X.K fd ps [])
  exc : ∀ x ∈ G.excs, ∃ C, X.mg x = some (.ref C) ∧ PySem.W.excIn X.K C He.veBase "ValueError.__new__" = true ∧ PySem.W.keepIn X.K (.ref C) = true ∧ PySem.W.subIn X.K (.ref C) (.type "BaseException") = some true ∧ PySem.W.typeIn X.K (.ref C) = some (.type "type")
  sub : ∀ (c c' : Str) (b : Bool), T.sub c c' = some b → ∀ C C', X.mg c = some (.ref C) → X.mg c' = some (.ref C') → PySem.W.exmOne X.K (.ref C) (.ref C') = some b
structure Ctx (G : GT) (T : Tab) (n : Nat) (hot : Bool) (N : List Str) (sc : Scope) (X : Cx) (W : WX) : Prop where
  ct : CT G T n X
  hN : X.N = N
  hsc : X.env.scope = sc
  nd : N.Nodup
  calm : hot = false → X.calm = true
  room : hot = false → Room n X.A
  units : X.A.units + 70 < cLine
  tk : Takes X W

section
variable {G : GT} {T : Tab} {n : Nat} {hot : Bool} {N : List Str} {sc : Scope} {X : Cx} {W : WX}
theorem glOk_gl (C : Ctx G T n hot N sc X W) {x : Str} (h : glOk sc x = true) : Gl X x ∧ (x == ("__debug__" : Str)) = false := by
  unfold glOk at h
  simp only [Bool.and_eq_true, decide_eq_true_eq, Bool.not_eq_true'] at h
  refine ⟨?_, h.2⟩
  show X.env.scope.names.lookup x = _
  rw [C.hsc]
  exact h.1
theorem visOk_vis (C : Ctx G T n hot N sc X W) {x : Str} (h : visOk sc x = true) : Vis X.env.scope x := by
  unfold visOk at h
  rw [C.hsc]
  unfold Vis
  split at h
  · exact .inl (by assumption)
  · exact .inr (.inl (by assumption))
  · exact .inr (.inr (by assumption))
  · cases h
theorem room_ok (C : Ctx G T n hot N sc X W) : X.A.units + 66 < cLine := by have := C.units; omega
/-- a comprehension's block -/
theorem Ctx.blk (C : Ctx G T n hot N sc X W) (s : Shared) (H : Hp) (scope : Scope) (Cc : Addr) (cl : List (Str × Addr)) (fp : List Addr) : Ctx G T n hot N (relS scope sc) (X.blk s H scope (compEnvC scope cl Cc X.env) fp) W0 where
  ct := ⟨C.ct.blt, C.ct.const, C.ct.fn, C.ct.exc, C.ct.sub⟩
  hN := C.hN
  hsc := by
    rw [← C.hsc]
    rfl
  nd := C.nd
  calm := C.calm
  room := C.room
  units := C.units
  tk := takes0
theorem mTgs_ok (nd : N.Nodup) (hN : X.N = N) {st : StOk} (hst : ∀ x, st x = true → Loc X.env.scope x ∧ (X.fn x = true ∨ X.env.scope.names.lookup x = some .local)) : ∀ {is : List Nat} {es : List Expr}, mTgs N st is es = true → PGs X es (gNs is) ∧ (assignEach es X.env).length = is.length ∧ (assignEach es X.env).findIdx? (·.1) = none
  | [], [], _ => ⟨pgs_nil, rfl, rfl⟩
  | i :: is, .Name x p :: es, h => by
    have h : (decide (N[i]? = some x) && st x && mTgs N st is es) = true := h
    simp only [Bool.and_eq_true, decide_eq_true_eq] at h
    obtain ⟨⟨h1, h2⟩, h3⟩ := h
    obtain ⟨q1, q2, q3⟩ := mTgs_ok nd hN hst h3
    obtain ⟨l1, l2⟩ := hst x h2
    refine ⟨pgs_cons (pg_name (by rw [hN]; exact nd) (by rw [hN]; exact h1) l1 l2) q1, ?_, ?_⟩
    · show (assignEach es X.env).length + 1 = is.length + 1
      rw [q2]
    · show List.findIdx? (·.1) ((false, assign (.Name x p) X.env) :: assignEach es X.env) = none
      rw [List.findIdx?_cons, q3]
      rfl
  | [], _ :: _, h => by cases h
  | _ :: _, [], h => by cases h
  | i :: is, e :: es, h => by
    cases e with
    | Name x p =>
      have h : (decide (N[i]? = some x) && st x && mTgs N st is es) = true := h
      simp only [Bool.and_eq_true, decide_eq_true_eq] at h
      obtain ⟨⟨h1, h2⟩, h3⟩ := h
      obtain ⟨q1, q2, q3⟩ := mTgs_ok nd hN hst h3
      obtain ⟨l1, l2⟩ := hst x h2
      refine ⟨pgs_cons (pg_name (by rw [hN]; exact nd) (by rw [hN]; exact h1) l1 l2) q1, ?_, ?_⟩
      · show (assignEach es X.env).length + 1 = is.length + 1
        rw [q2]
      · show List.findIdx? (·.1) ((false, assign (.Name x p) X.env) :: assignEach es X.env) = none
        rw [List.findIdx?_cons, q3]
        rfl
    | _ => cases h
theorem mTg_ok (nd : N.Nodup) (hN : X.N = N) (hc : X.calm = true) {st : StOk} (hst : ∀ x, st x = true → Loc X.env.scope x ∧ (X.fn x = true ∨ X.env.scope.names.lookup x = some .local)) {tg : Tg} {e : Expr} (h : mTg N st tg e = true) : PG X e (gT X.K tg) := by
  unfold mTg at h
  split at h
  · simp only [Bool.and_eq_true, decide_eq_true_eq] at h
    obtain ⟨l1, l2⟩ := hst _ h.2
    exact pg_name (by rw [hN]; exact nd) (by rw [hN]; exact h.1) l1 l2
  · obtain ⟨q1, q2, q3⟩ := mTgs_ok nd hN hst h
    exact pg_tup hc q1 q2 q3
  · cases h
theorem blkSt_ok (C : Ctx G T n hot N sc X W) (s : Shared) (H : Hp) (scope : Scope) (Cc : Addr) (cl : List (Str × Addr)) (fp : List Addr) (x : Str) (h : blkSt scope x = true) :
    Loc (X.blk s H scope (compEnvC scope cl Cc X.env) fp).env.scope x ∧ ((X.blk s H scope (compEnvC scope cl Cc X.env) fp).fn x = true ∨ (X.blk s H scope (compEnvC scope cl Cc X.env) fp).env.scope.names.lookup x = some .local) := by
  unfold blkSt at h
  simp only [Bool.or_eq_true, decide_eq_true_eq] at h
  have e : (X.blk s H scope (compEnvC scope cl Cc X.env) fp).env.scope = relS scope X.env.scope := rfl
  rw [e]
  rcases h with h | h
  · have q := lookup_relS_keep (sc := X.env.scope) (by decide : NameKind.local ≠ .free) h
    exact ⟨.inl q, .inr q⟩
  · have q := lookup_relS_keep (sc := X.env.scope) (by decide : NameKind.cell ≠ .free) h
    exact ⟨.inr q, .inl (by show (scope.names.lookup x == some .cell) = true; rw [h]; rfl)⟩
end
end PD
set_option maxHeartbeats 4000000
namespace PD
open PySem PySem.Spec PyProof.Rows L2

section
variable {G : GT} {T : Tab} {n : Nat} {hot : Bool} {B : List Base}
theorem evL_len : ∀ {es : EL} {ρ : Rho} {ds : List PyData} {ts : List Tn} {ls : List Expr} {N : List Str} {sc : Scope}, mEL G hot N sc es ls = true → evL T es ρ = .ok ds ts → ds.length = ls.length
  | .nil, ρ, ds, ts, ls, N, sc, h, e => by
    unfold mEL at h
    unfold evL at e
    cases e
    cases ls with
    | nil => rfl
    | cons _ _ => cases h
  | .cons a es, ρ, ds, ts, ls, N, sc, h, e => by
    unfold mEL at h
    split at h
    · simp only [Bool.and_eq_true] at h
      unfold evL at e
      split at e
      · split at e
        · cases e
          have := evL_len h.2 (by assumption)
          simp [this]
        · cases e
        · cases e
      · cases e
      · cases e
    · cases h
theorem mEL_plain : ∀ {es : EL} {ls : List Expr} {N : List Str} {sc : Scope}, mEL G hot N sc es ls = true → ls.all plainE = true
  | .nil, ls, N, sc, h => by
    unfold mEL at h
    cases ls with
    | nil => rfl
    | cons _ _ => cases h
  | .cons a es, ls, N, sc, h => by
    unfold mEL at h
    split at h
    · simp only [Bool.and_eq_true] at h
      simp only [List.all_cons, Bool.and_eq_true]
      exact ⟨h.1.2, mEL_plain h.2⟩
    · cases h
theorem pt_false {X : Cx} {W : WX} {x : Expr} {r : Rho → RT} (h : ∀ ρ, r ρ = .no) : PT X x (RDT X B W r) := ⟨fun pins s σ H Q I ⟨ρ, φ, S, q⟩ => by rw [h ρ] at q; exact q.elim⟩
theorem notSet_beh {o : Cop} {b : Expr} (h : notSet b = true) : behindInMarks o.op b = false := by
  cases b <;> first | rfl | cases h
theorem notSet_fold {b : Expr} {env : Env} (h : notSet b = true) : ∀ x, foldedSetIterable b env x = pure x := by
  intro x
  cases b <;> first | rfl | cases h
/-- what is shown of an expression -/
structure Snd (T : Tab) (X : Cx) (B : List Base) (W : WX) (e : E) (x : Expr) : Prop where
  pe : PE X x (RD X B W (ev T e))
  pt : PT X x (RDT X B W (evT T e))
  pw : ∀ op vs p, x = .BoolOp op vs p → PW X x (RDT X B W (evT T e))
/-- where the test is the value's truth -/
theorem snd_plain {X : Cx} {W : WX} {e : E} {x : Expr} (h : PE X x (RD X B W (ev T e))) (ht : truthE x = true) (he : ∀ ρ, evT T e ρ = ofR (ev T e ρ)) : Snd T X B W e x :=
  ⟨h, by
    have := rdt_truth h ht
    have e' : (evT T e) = fun ρ => ofR (ev T e ρ) := funext he
    rw [e']
    exact this, fun op vs p e' => by subst e'; cases ht⟩
theorem snd_const {X : Cx} {W : WX} {d : PyData} {c : Const} {k : Nat} {p : Pos} (h : cOk d c = true) : PE X (.Constant c k p) (RD X B W fun _ => .ok d none) := by
  unfold cOk at h
  split at h
  · exact rd_none
  · have e := eq_of_beq h
    subst e
    exact rd_bool
  · have e := of_decide_eq_true h
    subst e
    exact rd_int
  · have e := of_decide_eq_true h
    subst e
    exact rd_str
  · cases h
theorem biop_call {b : Bi} (h : biOk b = true) {X : Cx} (hc : b.calm = true → X.calm = true) (hu : X.A.units + 67 < cLine) : (∃ id, CallR X (.builtin id) (rDX X (biop b)) ∧ bootBuiltins b.nm = some (.builtin id)) ∨ ∃ id, CallR X (.type id) (rDX X (biop b)) ∧ bootBuiltins b.nm = some (.type id) := by
  cases b with
  | len => exact .inl ⟨_, cl_len, by decide +kernel⟩
  | sum => exact .inl ⟨_, cl_sum (hc rfl), by decide +kernel⟩
  | max => exact .inl ⟨_, cl_max (hc rfl), by decide +kernel⟩
  | min => exact .inl ⟨_, cl_min (hc rfl), by decide +kernel⟩
  | sorted => exact .inl ⟨_, cl_sorted hu, by decide +kernel⟩
  | list => exact .inr ⟨_, cl_list, by decide +kernel⟩
  | tuple => exact .inr ⟨_, cl_tuple, by decide +kernel⟩
  | int => exact .inr ⟨_, cl_int, by decide +kernel⟩
  | abs => exact .inl ⟨_, cl_abs, by decide +kernel⟩
  | _ => cases h
theorem biNm {b : Bi} (h : biOk b = true) : b.nm ≠ "__name__" := by
  cases b <;> first | (cases h; done) | decide +kernel
theorem isTuple_eq {t : Expr} (h : isTuple t = true) : ∃ es k p, t = .Tuple es k p := by
  cases t <;> first | exact ⟨_, _, _, rfl⟩ | cases h

mutual
theorem snd : ∀ (e : E) {N : List Str} {sc : Scope} {X : Cx} {W : WX} {B : List Base} {x : Expr}, Ctx G T n hot N sc X W → mE G hot N sc e x = true → Snd T X B W e x
  | .v i, N, sc, X, W, B, x, C, h => by
    unfold mE at h
    split at h
    · simp only [Bool.and_eq_true, decide_eq_true_eq, Bool.not_eq_true'] at h
      obtain ⟨⟨⟨h1, h2⟩, h3⟩, h4⟩ := h
      exact snd_plain (rd_name (by rw [C.hN]; exact h1) (visOk_vis C h2) h3 h4) rfl fun _ => rfl
    · cases h
  | .c d, N, sc, X, W, B, x, C, h => by
    unfold mE at h
    split at h
    · exact snd_plain (snd_const h) rfl fun _ => rfl
    · cases h
  | .g k, N, sc, X, W, B, x, C, h => by
    unfold mE at h
    split at h
    · split at h
      · rename_i m d e
        simp only [Bool.and_eq_true, decide_eq_true_eq] at h
        obtain ⟨rfl, h2⟩ := h
        obtain ⟨q1, v, u, q2, q3, q4⟩ := C.ct.const k _ d e
        obtain ⟨g1, g2⟩ := glOk_gl C h2
        refine snd_plain ?_ rfl fun _ => rfl
        have e' : ev T (.g k) = fun _ => .ok d none := funext fun ρ => by
          show optR none (T.consts k) = _
          rw [q1]; rfl
        rw [e']
        exact rd_glob g1 q2 q3 g2 q4
      · cases h
    · cases h
  | .bin o a b, N, sc, X, W, B, x, C, h => by
    unfold mE at h
    split at h
    · simp only [Bool.and_eq_true, decide_eq_true_eq] at h
      obtain ⟨⟨rfl, h1⟩, h2⟩ := h
      exact snd_plain (rd_bin o (snd a C h1).pe (snd b C h2).pe) rfl fun _ => rfl
    · cases h
  | .neg a, N, sc, X, W, B, x, C, h => by
    unfold mE at h
    split at h
    · simp only [Bool.and_eq_true, decide_eq_true_eq] at h
      obtain ⟨rfl, h1⟩ := h
      exact snd_plain (rd_neg (snd a C h1).pe) rfl fun _ => rfl
    · cases h
  | .cmp o a b, N, sc, X, W, B, x, C, h => by
    unfold mE at h
    split at h
    · simp only [Bool.and_eq_true, decide_eq_true_eq] at h
      obtain ⟨⟨⟨rfl, h1⟩, h2⟩, h3⟩ := h
      exact ⟨rd_cmp (room_ok C) o (snd a C h1).pe (snd b C h2).pe (notSet_beh h3), rdt_cmp (room_ok C) o (snd a C h1).pe (snd b C h2).pe (notSet_beh h3), fun op vs p e => nomatch e⟩
    · cases h
  | .chain o o' a b c, N, sc, X, W, B, x, C, h => by
    unfold mE at h
    split at h
    · simp only [Bool.and_eq_true, decide_eq_true_eq] at h
      obtain ⟨⟨⟨⟨⟨rfl, rfl⟩, h1⟩, h2⟩, h3⟩, h4⟩ := h
      exact ⟨rd_chain (room_ok C) o o' (snd a C h1).pe (snd b C h2).pe (snd c C h3).pe (notSet_beh h4), rdt_chain (room_ok C) o o' (snd a C h1).pe (snd b C h2).pe (snd c C h3).pe (notSet_beh h4), fun op vs p e => nomatch e⟩
    · cases h
  | .and2 a b, N, sc, X, W, B, x, C, h => by
    unfold mE at h
    split at h
    · simp only [Bool.and_eq_true] at h
      have ha := snd a (B := B) C h.1
      have hb := snd b (B := B) C h.2
      have hw := rdw_and ha.pt (hb.pw _ _ _ rfl)
      exact ⟨rd_and ha.pe hb.pe, hw.pt, fun _ _ _ _ => hw⟩
    · cases h
  | .or2 a b, N, sc, X, W, B, x, C, h => by
    unfold mE at h
    split at h
    · simp only [Bool.and_eq_true] at h
      have ha := snd a (B := B) C h.1
      have hb := snd b (B := B) C h.2
      have hw := rdw_or ha.pt (hb.pw _ _ _ rfl)
      exact ⟨rd_or ha.pe hb.pe, hw.pt, fun _ _ _ _ => hw⟩
    · cases h
  | .one a, N, sc, X, W, B, x, C, h => by
    unfold mE at h
    split at h
    · have ha := snd a (B := B) C h
      exact ⟨rd_one ha.pe, (rdw_one ha.pt).pt, fun _ _ _ _ => rdw_one ha.pt⟩
    · cases h
  | .not1 a, N, sc, X, W, B, x, C, h => by
    unfold mE at h
    split at h
    · simp only [Bool.and_eq_true, decide_eq_true_eq] at h
      obtain ⟨rfl, h1⟩ := h
      have ha := snd a (B := B) C h1
      exact ⟨rd_not ha.pe, rdt_not ha.pt, fun op vs p e => nomatch e⟩
    · cases h
  | .ife t a b, N, sc, X, W, B, x, C, h => by
    unfold mE at h
    split at h
    · simp only [Bool.and_eq_true] at h
      exact ⟨rd_ife (snd t C h.1.1).pt (snd a C h.1.2).pe (snd b C h.2).pe, pt_false fun _ => rfl, fun op vs p e => nomatch e⟩
    · cases h
  | .ix a b, N, sc, X, W, B, x, C, h => by
    unfold mE at h
    split at h
    · simp only [Bool.and_eq_true] at h
      exact snd_plain (rd_ix (snd a C h.1.1).pe (snd b C h.1.2).pe h.2) rfl fun _ => rfl
    · cases h
  | .sl a lo hi, N, sc, X, W, B, x, C, h => by
    unfold mE at h
    split at h
    · rename_i l l' h' p2 p
      simp only [Bool.and_eq_true] at h
      obtain ⟨⟨h1, h2⟩, h3⟩ := h
      have hl : PO X l' (RDP X B fun ρ => if lo.isOmit = true then some none else partOf (evB T lo ρ).1) := by
        cases l' with
        | none =>
          have h2 : lo.isOmit = true := h2
          simp only [h2, if_true]
          exact rdp_none
        | some e =>
          have h2 : (!lo.isOmit && mE G hot N sc lo e) = true := h2
          simp only [Bool.and_eq_true, Bool.not_eq_true'] at h2
          simp only [h2.1, Bool.false_eq_true, if_false]
          exact rdp_some (snd lo (B := B) (W := W) C h2.2).pe
      have hh : PO X h' (RDP X B fun ρ => if hi.isOmit = true then some none else partOf (evB T hi ρ).1) := by
        cases h' with
        | none =>
          have h3 : hi.isOmit = true := h3
          simp only [h3, if_true]
          exact rdp_none
        | some e =>
          have h3 : (!hi.isOmit && mE G hot N sc hi e) = true := h3
          simp only [Bool.and_eq_true, Bool.not_eq_true'] at h3
          simp only [h3.1, Bool.false_eq_true, if_false]
          exact rdp_some (snd hi (B := B) (W := W) C h3.2).pe
      exact snd_plain (rd_sl (snd a C h1).pe hl hh) rfl fun _ => rfl
    · cases h
  | .rev a, N, sc, X, W, B, x, C, h => by
    unfold mE at h
    split at h
    · simp only [Bool.and_eq_true, decide_eq_true_eq] at h
      obtain ⟨rfl, h1⟩ := h
      exact snd_plain (rd_rev (snd a C h1).pe) rfl fun _ => rfl
    · cases h
  | .omit, N, sc, X, W, B, x, C, h => by
    unfold mE at h
    cases h
  | .tup es, N, sc, X, W, B, x, C, h => by
    unfold mE at h
    split at h
    · exact snd_plain (rd_tup (sndL es C h)) rfl fun _ => rfl
    · cases h
  | .lst es, N, sc, X, W, B, x, C, h => by
    unfold mE at h
    split at h
    · exact snd_plain (rd_lst (sndL es C h)) rfl fun _ => rfl
    · cases h
  | .dic0, N, sc, X, W, B, x, C, h => by
    unfold mE at h
    cases h
  | .call f es, N, sc, X, W, B, x, C, h => by
    unfold mE at h
    split at h
    · rename_i m p ls pos
      simp only [Bool.and_eq_true] at h
      obtain ⟨h1, h2⟩ := h
      split at h1
      · rename_i m' np io e
        simp only [Bool.and_eq_true, decide_eq_true_eq, Bool.not_eq_true'] at h1
        obtain ⟨⟨⟨⟨rfl, g⟩, hl⟩, hio⟩, hh⟩ := h1
        obtain ⟨q1, q2⟩ := C.ct.fn f _ np io e
        obtain ⟨a, fd, ps, F, hm, hk, hb⟩ := q2 hio
        obtain ⟨g1, g2⟩ := glOk_gl C g
        have ee : ev T (.call f es) = fun ρ => (evL T es ρ).bindR fun ds _ => outR (T.fn f ds) := funext fun ρ => by
          show (evL T es ρ).bindR (fun ds ts => callR T f ds) = _
          unfold callR
          rw [q1, hio]
          simp
        refine snd_plain ?_ rfl fun _ => rfl
        rw [ee]
        cases ls with
        | nil =>
          subst hl
          have := rd_call0 (B := B) (W := W) (x := m) (p := p) (pos := pos) F (C.room hh) C.tk g1 hm hk hb g2
          have e' : (fun ρ => (evL T es ρ).bindR fun ds _ => outR (T.fn f ds)) = fun _ => outR (T.fn f []) := funext fun ρ => by
            cases es with
            | nil => rfl
            | cons _ _ => unfold mEL at h2; cases h2
          rw [e']
          exact this
        | cons l ls =>
          subst hl
          exact rd_call F (C.room hh) C.tk g1 hm hk hb (sndL es C h2) (mEL_plain h2) g2 fun ρ ds ts e => evL_len h2 e
      · cases h1
    · cases h
  | .bi b es, N, sc, X, W, B, x, C, h => by
    unfold mE at h
    split at h
    · rename_i m p ls pos
      simp only [Bool.and_eq_true] at h
      obtain ⟨⟨g, gb⟩, h⟩ := h
      obtain ⟨g1, g2⟩ := glOk_gl C g
      have gm := C.ct.blt m (List.contains_iff_mem.mp gb)
      split at h
      · rename_i hb
        subst hb
        simp only [Bool.and_eq_true, decide_eq_true_eq] at h
        obtain ⟨rfl, h⟩ := h
        split at h
        · rename_i m' p' ls' pos'
          simp only [Bool.and_eq_true, decide_eq_true_eq, Bool.not_eq_true'] at h
          obtain ⟨⟨⟨⟨⟨rfl, k⟩, kb⟩, hh⟩, hl⟩, h2⟩ := h
          obtain ⟨k1, k2⟩ := glOk_gl C k
          have km := C.ct.blt _ (List.contains_iff_mem.mp kb)
          refine snd_plain ?_ rfl fun _ => rfl
          cases es with
          | nil =>
            unfold mEL at h2
            cases ls' with
            | nil => cases hl
            | cons _ _ => cases h2
          | cons a es =>
            unfold mEL at h2
            split at h2
            · rename_i l ls
              simp only [Bool.and_eq_true] at h2
              have e0 : ls = [] := by
                cases ls with
                | nil => rfl
                | cons _ _ => simp at hl
              subst e0
              have e1 : es = .nil := by
                cases es with
                | nil => rfl
                | cons _ _ => have := h2.2; unfold mEL at this; cases this
              subst e1
              have := rd_listRange (B := B) (W := W) (p := p) (p2 := p') (pos2 := pos') (pos := pos) (C.calm hh) g1 gm k1 km (snd a C h2.1.1).pe h2.1.2
              have e' : ev T (.bi .listRange1 (.cons a .nil)) = fun ρ => (ev T a ρ).bind fun x tx => okR (listRangeD [x]) [tx] := funext fun ρ => by
                show (evL T (.cons a .nil) ρ).bindR (fun ds ts => okR (biop .listRange1 ds) ts) = _
                unfold evL
                show _ = R.bind (evB T a ρ).1 _
                cases (evB T a ρ).1 <;> rfl
              rw [e']
              exact this
            · cases h2
        · cases h
      · split at h
        · rename_i hb
          subst hb
          simp only [Bool.and_eq_true, decide_eq_true_eq] at h
          obtain ⟨rfl, h⟩ := h
          split at h
          · rename_i m' p' ls' pos'
            simp only [Bool.and_eq_true, decide_eq_true_eq, Bool.not_eq_true'] at h
            obtain ⟨⟨⟨⟨⟨rfl, k⟩, kb⟩, hh⟩, hl⟩, h2⟩ := h
            obtain ⟨k1, k2⟩ := glOk_gl C k
            have km := C.ct.blt _ (List.contains_iff_mem.mp kb)
            refine snd_plain ?_ rfl fun _ => rfl
            cases es with
            | nil =>
              unfold mEL at h2
              cases ls' with
              | nil => cases hl
              | cons _ _ => cases h2
            | cons a es =>
              unfold mEL at h2
              split at h2
              · rename_i l ls
                simp only [Bool.and_eq_true] at h2
                have e0 : ls = [] := by
                  cases ls with
                  | nil => rfl
                  | cons _ _ => simp at hl
                subst e0
                have e1 : es = .nil := by
                  cases es with
                  | nil => rfl
                  | cons _ _ => have := h2.2; unfold mEL at this; cases this
                subst e1
                have := rd_sortedSet (B := B) (W := W) (p := p) (p2 := p') (pos2 := pos') (pos := pos) (C.calm hh) g1 gm k1 km (snd a C h2.1.1).pe h2.1.2
                have e' : ev T (.bi .sortedSet (.cons a .nil)) = fun ρ => (ev T a ρ).bind fun x tx => okR (sortedSetD [x]) [tx] := funext fun ρ => by
                  show (evL T (.cons a .nil) ρ).bindR (fun ds ts => okR (biop .sortedSet ds) ts) = _
                  unfold evL
                  show _ = R.bind (evB T a ρ).1 _
                  cases (evB T a ρ).1 <;> rfl
                rw [e']
                exact this
              · cases h2
          · cases h
        · simp only [Bool.and_eq_true, decide_eq_true_eq, Bool.not_eq_true'] at h
          obtain ⟨⟨⟨⟨h1, rfl⟩, h3⟩, h4⟩, h2⟩ := h
          have hc : b.calm = true → X.calm = true := fun z => C.calm (by
            rw [z] at h3
            simpa using h3)
          refine snd_plain ?_ rfl fun _ => rfl
          cases ls with
          | nil => cases h4
          | cons l ls =>
            rcases biop_call h1 hc (by have := C.units; omega) with ⟨id, q1, q2⟩ | ⟨id, q1, q2⟩
            · exact rd_bi q1 g1 gm q2 (sndL es C h2) (mEL_plain h2) (biNm h1) g2
            · exact rd_ty q1 g1 gm q2 (sndL es C h2) (mEL_plain h2) (biNm h1) g2
    · cases h
  | .me m o es, N, sc, X, W, B, x, C, h => by
    unfold mE at h
    split at h
    · rename_i o' nm ap ls cp
      simp only [Bool.and_eq_true, decide_eq_true_eq, Bool.not_eq_true'] at h
      obtain ⟨⟨⟨⟨⟨⟨rfl, h1⟩, h2⟩, h3⟩, h4⟩, h5⟩, h6⟩ := h
      refine snd_plain ?_ rfl fun _ => rfl
      cases ls with
      | nil => cases h5
      | cons l ls => exact rd_me (room_ok C) m (snd o C h2).pe (sndL es C h4) h3 (mEL_plain h4) h6 (by rw [h1]; simp)
    · cases h
  | .isi a t, N, sc, X, W, B, x, C, h => by
    unfold mE at h
    split at h
    · simp only [Bool.and_eq_true, decide_eq_true_eq] at h
      obtain ⟨⟨⟨⟨⟨⟨⟨rfl, rfl⟩, g⟩, k⟩, gb⟩, kb⟩, h1⟩, h2⟩ := h
      obtain ⟨g1, g2⟩ := glOk_gl C g
      obtain ⟨k1, k2⟩ := glOk_gl C k
      exact snd_plain (rd_isi g1 (C.ct.blt _ (List.contains_iff_mem.mp gb)) k1 (C.ct.blt _ (List.contains_iff_mem.mp kb)) (snd a C h1).pe h2) rfl fun _ => rfl
    · cases h
  | .lc elt tg it cond own, N, sc, X, W, B, x, C, h => by
    unfold mE at h
    split at h
    · rename_i elt' tgE iter ifs asy scope pos
      simp only [Bool.and_eq_true, decide_eq_true_eq, Bool.not_eq_true'] at h
      obtain ⟨⟨⟨⟨⟨⟨⟨⟨hh, rfl⟩, h1⟩, h2⟩, h3⟩, h4⟩, h5⟩, h6⟩, h7⟩ := h
      have hsl : ∀ i ∈ tg.slots, i ∈ own.map (·.2) := fun i hi => List.contains_iff_mem.mp (List.all_eq_true.mp h5 i hi)
      have htp : it.tp = true → ∃ is, tg = .many is := fun z => by
        have ht : isTuple tgE = true := by
          cases it <;> first | (cases z; done) | skip
          all_goals (unfold mI at h3; split at h3 <;> first | (simp only [Bool.and_eq_true] at h3; exact h3.2) | cases h3)
        obtain ⟨es, k, p, rfl⟩ := isTuple_eq ht
        cases tg with
        | one i => cases h2
        | many is => exact ⟨is, rfl⟩
      refine snd_plain (rd_lc (tp := it.tp) (C.calm hh) (by rw [C.hN]; exact C.nd) (sndI it C h3 hh) htp hsl (by rw [C.hN, C.hsc]; exact blkOk_by h1) (fun s H Cc cl fp => ?_) (fun s H Cc cl fp => ?_) (fun s H Cc cl fp => (snd elt (C.blk s H scope Cc cl fp) h6).pe) (notSet_fold h4)) rfl fun _ => rfl
      · exact mTg_ok (X := X.blk s H scope (compEnvC scope cl Cc X.env) fp) C.nd C.hN (C.calm hh) (fun x hx => blkSt_ok C s H scope Cc cl fp x hx) h2
      · cases ifs with
        | nil =>
          have h7 : cond.isOmit = true := h7
          simp only [h7, if_true]
          exact ⟨fun pins s σ H Q I ⟨ρ, φ, S, q⟩ => pts_nil.run pins s σ H Q I (q H (Same.refl _))⟩
        | cons c r =>
          cases r with
          | nil =>
            have h7 : (!cond.isOmit && mE G hot N (relS scope sc) cond c) = true := h7
            simp only [Bool.and_eq_true, Bool.not_eq_true'] at h7
            simp only [h7.1, Bool.false_eq_true, if_false]
            exact pts_one (snd cond (C.blk s H scope Cc cl fp) h7.2).pt
          | cons _ _ => cases h7
    · cases h
theorem sndL : ∀ (es : EL) {N : List Str} {sc : Scope} {X : Cx} {W : WX} {B : List Base} {ls : List Expr}, Ctx G T n hot N sc X W → mEL G hot N sc es ls = true → PA X ls (RDL X B W (evL T es))
  | .nil, N, sc, X, W, B, ls, C, h => by
    unfold mEL at h
    cases ls with
    | nil => exact rdl_nil
    | cons _ _ => cases h
  | .cons e es, N, sc, X, W, B, ls, C, h => by
    unfold mEL at h
    split at h
    · simp only [Bool.and_eq_true] at h
      exact rdl_cons (snd e C h.1.1).pe (sndL es C h.2) h.1.2
    · cases h
theorem sndI : ∀ (it : It) {N : List Str} {sc : Scope} {X : Cx} {W : WX} {B : List Base} {x t : Expr}, Ctx G T n hot N sc X W → mI G hot N sc it x t = true → hot = false → PI X t x (RDI X B W it.tp (evI T it))
  | .ex e, N, sc, X, W, B, x, t, C, h, hh => by
    unfold mI at h
    exact rdi_ex (snd e C h).pe
  | .rng a, N, sc, X, W, B, x, t, C, h, hh => by
    unfold mI at h
    split at h
    · simp only [Bool.and_eq_true, decide_eq_true_eq] at h
      obtain ⟨⟨⟨⟨rfl, g⟩, gb⟩, h1⟩, h2⟩ := h
      exact rdi_rng (glOk_gl C g).1 (C.ct.blt _ (List.contains_iff_mem.mp gb)) (snd a C h1).pe h2
    · cases h
  | .rng2 a b, N, sc, X, W, B, x, t, C, h, hh => by
    unfold mI at h
    split at h
    · simp only [Bool.and_eq_true, decide_eq_true_eq] at h
      obtain ⟨⟨⟨⟨⟨⟨rfl, g⟩, gb⟩, h1⟩, h2⟩, h3⟩, h4⟩ := h
      exact rdi_rng2 (glOk_gl C g).1 (C.ct.blt _ (List.contains_iff_mem.mp gb)) (snd a C h1).pe (snd b C h3).pe h2 h4
    · cases h
  | .enu a, N, sc, X, W, B, x, t, C, h, hh => by
    unfold mI at h
    split at h
    · simp only [Bool.and_eq_true, decide_eq_true_eq] at h
      obtain ⟨⟨⟨⟨⟨rfl, g⟩, gb⟩, h1⟩, h2⟩, h3⟩ := h
      obtain ⟨es, k, p, rfl⟩ := isTuple_eq h3
      exact rdi_enu (glOk_gl C g).1 (C.ct.blt _ (List.contains_iff_mem.mp gb)) (snd a C h1).pe h2
    · cases h
  | .zip a b, N, sc, X, W, B, x, t, C, h, hh => by
    unfold mI at h
    split at h
    · simp only [Bool.and_eq_true, decide_eq_true_eq] at h
      obtain ⟨⟨⟨⟨⟨⟨⟨rfl, g⟩, gb⟩, h1⟩, h2⟩, h3⟩, h4⟩, h5⟩ := h
      obtain ⟨es, k, p, rfl⟩ := isTuple_eq h5
      exact rdi_zip (glOk_gl C g).1 (C.ct.blt _ (List.contains_iff_mem.mp gb)) (snd a C h1).pe (snd b C h3).pe h2 h4
    · cases h
end
end
end PD
set_option maxHeartbeats 4000000
namespace PD
open PySem PySem.Spec PyProof.Rows L2

/-! ## statements: what they do -/
inductive RS where
  | nx (ρ : Rho)
  | rt (d : PyData) (ρ : Rho)
  | bk (ρ : Rho)
  | ct (ρ : Rho)
  | ec (c : Str) (ρ : Rho)
  | no
def killS (x : Nat) : Sl → Sl
  | .vw R d => if R.contains x then .un else .vw R d
  | s => s
/-- the views of x are forgotten -/
def killV (ρ : Rho) (x : Nat) : Rho := ρ.map (killS x)
def R.toS (r : R) (ρ : Rho) (k : PyData → Tn → RS) : RS := match r with
  | .ok d t => k d t
  | .ex c => .ec c ρ
  | .no => .no
def RL.toS (r : RL) (ρ : Rho) (k : List PyData → List Tn → RS) : RS := match r with
  | .ok d t => k d t
  | .ex c => .ec c ρ
  | .no => .no
def RT.toS (r : RT) (ρ : Rho) (k : Bool → RS) : RS := match r with
  | .ok b => k b
  | .ex c => .ec c ρ
  | .no => .no
def RI.toS (r : RI) (ρ : Rho) (k : List PyData → Tn → RS) : RS := match r with
  | .ok d t => k d t
  | .ex c => .ec c ρ
  | .no => .no
/-- an argument that is stored within, or handed back -/
inductive RA where
  | ok (d : PyData) (ρ : Rho)
  | ex (c : Str)
  | no
def RA.toS (r : RA) (ρ : Rho) (k : PyData → Rho → RS) : RS := match r with
  | .ok d ρ1 => k d ρ1
  | .ex c => .ec c ρ
  | .no => .no
/-- a slot handed over: its data, and the slots without it -/
def giveS (rt : Bool) (ρ : Rho) (y : Nat) : RA := match Rho.at ρ y with
  | .own d => .ok d (if imm d = true then ρ else (killV ρ y).set y .un)
  | .lk d => if imm d = true then .ok d ρ else if rt = true then .ok d ((killV ρ y).set y .un) else .no
  | .vw _ d => if imm d = true then .ok d ρ else .no
  | .un => .no
/-- the data of an own slot is changed -/
def chgS (ρ : Rho) (x : Nat) (d : Option PyData) : RS := match d with
  | some d => .nx ((killV ρ x).set x (.own d))
  | none => .no
def ownAt (ρ : Rho) (x : Nat) : Option PyData := match Rho.at ρ x with
  | .own d => some d
  | _ => none
def lockOne (ρ : Rho) (r : Nat) : Rho := match Rho.at ρ r with
  | .own d => if imm d = true then ρ else ρ.set r (.lk d)
  | _ => ρ
def lockR (ρ : Rho) : List Nat → Rho
  | [] => ρ
  | r :: R => lockOne (lockR ρ R) r
/-- the locked slots -/
def lks (ρ : Rho) : List Nat := (List.range ρ.length).filter fun j => match Rho.at ρ j with
  | .lk _ => true
  | _ => false
def forL (body : Rho → RS) (tg : Tg) (t : Tn) : List PyData → Rho → RS
  | [], ρ => .nx ρ
  | d :: ds, ρ => match putTg ρ tg d (some (t.getD [] ++ lks ρ)) with
    | none => .no
    | some ρ1 => match body ρ1 with
      | .nx ρ2 => forL body tg t ds ρ2
      | .ct ρ2 => forL body tg t ds ρ2
      | .bk ρ2 => .nx ρ2
      | r => r
def whN (c : Rho → RT) (body : Rho → RS) : Nat → Rho → Option RS
  | 0, _ => none
  | n + 1, ρ => match c ρ with
    | .ok false => some (.nx ρ)
    | .ok true => match body ρ with
      | .nx ρ2 => whN c body n ρ2
      | .ct ρ2 => whN c body n ρ2
      | .bk ρ2 => some (.nx ρ2)
      | r => some r
    | .ex c => some (.ec c ρ)
    | .no => some .no
theorem whN_more {c : Rho → RT} {body : Rho → RS} {r : RS} : ∀ {n : Nat} {ρ : Rho}, whN c body n ρ = some r → whN c body (n + 1) ρ = some r
  | 0, _, h => by cases h
  | n + 1, ρ, h => by
    unfold whN at h ⊢
    cases hc : c ρ with
    | ok b =>
      rw [hc] at h
      cases b with
      | false => exact h
      | true =>
        dsimp only at h ⊢
        cases hb : body ρ with
        | nx ρ2 => rw [hb] at h; exact whN_more h
        | ct ρ2 => rw [hb] at h; exact whN_more h
        | _ => rw [hb] at h; exact h
    | ex c => rw [hc] at h; exact h
    | no => rw [hc] at h; exact h
theorem whN_add {c : Rho → RT} {body : Rho → RS} {r : RS} {n : Nat} {ρ : Rho} (h : whN c body n ρ = some r) : ∀ m, whN c body (n + m) ρ = some r
  | 0 => h
  | m + 1 => whN_more (whN_add h m)
theorem whN_one {c : Rho → RT} {body : Rho → RS} {r r' : RS} {n m : Nat} {ρ : Rho} (h : whN c body n ρ = some r) (h' : whN c body m ρ = some r') : r = r' := by
  have a := whN_add h m
  have b := whN_add h' n
  rw [Nat.add_comm] at b
  rw [a] at b
  exact Option.some.inj b
open Classical in
/-- a loop: what it ends with, if it ends -/
noncomputable def whR (c : Rho → RT) (body : Rho → RS) (ρ : Rho) : RS := if h : ∃ r n, whN c body n ρ = some r then h.choose else .no
theorem whR_eq {c : Rho → RT} {body : Rho → RS} {r : RS} {n : Nat} {ρ : Rho} (h : whN c body n ρ = some r) : whR c body ρ = r := by
  have q : ∃ r n, whN c body n ρ = some r := ⟨r, n, h⟩
  unfold whR
  rw [dif_pos q]
  obtain ⟨m, hm⟩ := q.choose_spec
  exact whN_one hm h
theorem whR_ends {c : Rho → RT} {body : Rho → RS} {ρ : Rho} (h : whR c body ρ ≠ .no) : ∃ n, whN c body n ρ = some (whR c body ρ) := by
  by_cases q : ∃ r n, whN c body n ρ = some r
  · obtain ⟨r, n, e⟩ := q
    exact ⟨n, by rw [whR_eq e]; exact e⟩
  · exact absurd (by unfold whR; rw [dif_neg q]) h

/-! ### what changes a list -/
def appD : PyData → PyData → Option PyData
  | .list ds, d => if ds.length < lineN then some (.list (ds ++ [d])) else none
  | _, _ => none
def extD : PyData → PyData → Option PyData
  | .list ds, .list es => if ds.length + es.length ≤ lineN then some (.list (ds ++ es)) else none
  | _, _ => none
def remD : PyData → PyData → Option PyData
  | .list ds, .int k => match asInts ds with
    | some ns => if k ∈ ns then some (.list ((ns.erase k).map .int)) else none
    | none => none
  | _, _ => none
def popD : PyData → Option PyData
  | .list (d :: ds) => some (.list (d :: ds).dropLast)
  | _ => none
def setD : PyData → PyData → PyData → Option PyData
  | .list ds, .int i, d => (atPos ds.length i).map fun j => .list (ds.set j d)
  | _, _, _ => none
def augD : Bop → PyData → PyData → PyData → Option PyData
  | o, .list ds, .int i, .int k => match atPos ds.length i with
    | some j => match ds[j]? with
      | some (.int m) => match o with
        | .add => some (.list (ds.set j (.int (m + k))))
        | .sub => some (.list (ds.set j (.int (m - k))))
        | _ => none
      | _ => none
    | none => none
  | _, _, _, _ => none
def augI : Bop → PyData → PyData → Option PyData
  | .add, .int i, .int j => some (.int (i + j))
  | .sub, .int i, .int j => some (.int (i - j))
  | _, _, _ => none
def E.asV : E → Option Nat
  | .v i => some i
  | _ => none
def EL.one : EL → Option E
  | .cons e .nil => some e
  | _ => none
/-- may it be stored within -/
def inOk (d : PyData) (t : Tn) : Bool := imm d || t.isNone
/-- an argument that is stored within: given away where it is a name -/
def argS (T : Tab) (rt : Bool) (e : E) (ρ : Rho) : RA := match e.asV with
  | some y => giveS rt ρ y
  | none => match ev T e ρ with
    | .ok d t => if inOk d t = true then .ok d ρ else .no
    | .ex c => .ex c
    | .no => .no

mutual
noncomputable def exS (T : Tab) : S → Rho → RS
  | .set i e, ρ => (ev T e ρ).toS ρ fun d t => .nx (put ρ i d t)
  | .setT is e, ρ => (ev T e ρ).toS ρ fun d t => match putTg ρ (.many is) d t with
    | some ρ1 => .nx ρ1
    | none => .no
  | .aug i o e, ρ => match Rho.at ρ i with
    | .own d => (ev T e ρ).toS ρ fun d' t => match augI o d d' with
      | some r => .nx (put ρ i r none)
      | none => .no
    | _ => .no
  | .ixset x i e, ρ => (argS T false e ρ).toS ρ fun d ρ1 => match ownAt ρ1 x with
    | some dx => (ev T i ρ1).toS ρ1 fun di _ => chgS ρ1 x (setD dx di d)
    | none => .no
  | .ixaug x i o e, ρ => match ownAt ρ x with
    | some dx => (ev T i ρ).toS ρ fun di _ => (ev T e ρ).toS ρ fun d _ => chgS ρ x (augD o dx di d)
    | none => .no
  | .mut m x es, ρ => match ownAt ρ x with
    | some (.list _) => match m, es.one with
      | .append, some e => (argS T false e ρ).toS ρ fun d ρ1 => match ownAt ρ1 x with
        | some dx => chgS ρ1 x (appD dx d)
        | none => .no
      | .extend, some e => (ev T e ρ).toS ρ fun d t => match ownAt ρ x with
        | some dx => if imm1 d = true then chgS ρ x (extD dx d) else .no
        | none => .no
      | .remove, some e => (ev T e ρ).toS ρ fun d t => match ownAt ρ x with
        | some dx => chgS ρ x (remD dx d)
        | none => .no
      | .pop, none => match es with
        | .nil => match ownAt ρ x with
          | some dx => chgS ρ x (popD dx)
          | none => .no
        | _ => .no
      | _, _ => .no
    | _ => .no
  | .ex e, ρ => (ev T e ρ).toS ρ fun _ _ => .nx ρ
  | .io f x es, ρ => .no
  | .ret e, ρ => (argS T true e ρ).toS ρ fun d ρ1 => .rt d ρ1
  | .ret0, ρ => .rt .none ρ
  | .pass, ρ => .nx ρ
  | .brk, ρ => .bk ρ
  | .cnt, ρ => .ct ρ
  | .ife c a b, ρ => (evT T c ρ).toS ρ fun k => if k = true then exSL T a ρ else exSL T b ρ
  | .for_ tg it body, ρ => (evI T it ρ).toS ρ fun ds t => forL (exSL T body) tg t ds (lockR ρ (t.getD []))
  | .while_ c body, ρ => whR (evT T c) (exSL T body) ρ
  | .raise c, ρ => .ec c ρ
  | .try_ body c h, ρ => match exSL T body ρ with
    | .ec c' ρ1 => match T.sub c' c with
      | some true => (match exSL T h ρ1 with
        | .ec _ _ => .no
        | r => r)
      | some false => .ec c' ρ1
      | none => .no
    | r => r
noncomputable def exSL (T : Tab) : SL → Rho → RS
  | .nil, ρ => .nx ρ
  | .cons s r, ρ => match exS T s ρ with
    | .nx ρ1 => exSL T r ρ1
    | r => r
end
end PD
set_option maxHeartbeats 4000000
namespace PD
open PySem PySem.Spec PyProof.Rows L2

section
variable {K : PySem.W.Frag} {P : Program} {w : World} {B : List Base} {σ : L2.St} {H H0 : Hp} {ρ : Rho} {φ : Fp}
theorem killV_get {x j : Nat} {s : Sl} (h : (killV ρ x)[j]? = some s) : (ρ[j]? = some s ∧ x ∉ s.roots) ∨ s = .un := by
  unfold killV at h
  rw [List.getElem?_map] at h
  obtain ⟨s', h1, h2⟩ := Option.map_eq_some_iff.mp h
  unfold killS at h2
  split at h2
  · split at h2
    · exact .inr h2.symm
    · rename_i hz
      subst h2
      exact .inl ⟨h1, fun hm => hz (List.contains_iff_mem.mpr hm)⟩
  · rename_i hn
    subst h2
    refine .inl ⟨h1, ?_⟩
    cases s' with
    | vw R d => exact absurd rfl (hn R d)
    | _ => simp [Sl.roots]
theorem killV_ol {x j : Nat} {s : Sl} (h : ρ[j]? = some s) (ho : s.ol = true) : (killV ρ x)[j]? = some s := by
  unfold killV
  rw [List.getElem?_map, h]
  cases s <;> first | rfl | cases ho
theorem killV_length (x : Nat) : (killV ρ x).length = ρ.length := by unfold killV; simp
/-- the data of an own slot is changed, at the object that it is -/
theorem Sta.mut (S : Sta K P w B σ H ρ φ) {x : Nat} {d d' : PyData} {a : Addr} {o : HO} {F' : List Addr} (hx : ρ[x]? = some (.own d)) (hv : σ[x]? = some (some (.ref a))) (ha : a ∈ φ x) (hm : Mut (some o)) (hnew : Rp K P w (upd H a o) (.ref a) d' F')
    (hF : ∀ b ∈ F', b ∈ φ x ∨ (Mut (H b) ∧ (∀ bs ∈ B, bs.ok x b) ∧ ∀ (j : Nat) (s : Sl), ρ[j]? = some s → s.val ≠ none → b ∉ φ j)) (hn : F'.Nodup) :
    Sta K P w B σ (upd H a o) ((killV ρ x).set x (.own d')) (φ.set x F') := by
  have hxl : x < ρ.length := (List.getElem?_eq_some_iff.mp hx).1
  have mutA : Mut (H a) := (S.tree x _ hx rfl).2 a ha
  have chg : Chg (fun c => c = a) H (upd H a o) := ⟨fun c u e k => by
    by_cases hc : c = a
    · subst hc
      rw [e] at mutA
      rcases k with k | k
      · exact absurd rfl k
      · exact absurd mutA k
    · rw [upd_ne hc]; exact e, fun c e => by
    by_cases hc : c = a
    · subst hc; rw [upd_same] at e; cases e
    · rw [upd_ne hc] at e; exact e⟩
  have mutK : ∀ {b : Addr}, Mut (H b) → Mut (upd H a o b) := fun {b} m => by
    by_cases hb : b = a
    · subst hb; rw [upd_same]; exact hm
    · rw [upd_ne hb]; exact m
  -- the other slots
  have other : ∀ {j : Nat} {s : Sl}, ((killV ρ x).set x (.own d'))[j]? = some s → j ≠ x → s.val ≠ none → ρ[j]? = some s ∧ x ∉ s.roots := fun {j s} e hj hl => by
    rw [List.getElem?_set_ne (Ne.symm hj)] at e
    rcases killV_get e with z | z
    · exact z
    · subst z; exact absurd rfl hl
  have apart : ∀ {j : Nat} {s : Sl}, ρ[j]? = some s → j ≠ x → s.val ≠ none → x ∉ s.roots → ∀ c ∈ φ j, c ∉ φ x := fun {j s} e hj hl hr => S.disj j x s _ e hx hj hl rfl hr
  have self : ∀ {s : Sl}, ((killV ρ x).set x (.own d'))[x]? = some s → s = .own d' := fun {s} e => by
    rw [List.getElem?_set_self (by rw [killV_length]; exact hxl)] at e
    exact (Option.some.inj e).symm
  refine ⟨by rw [List.length_set, killV_length]; exact S.len, fun j s e e1 e2 => ?_, fun j s e1 e2 => ?_, fun j k s t e1 e2 hne hl ho hr c hc => ?_, fun b hb => ?_, fun b hb j s e1 e2 e3 c hc => ?_, S.pin⟩
  · by_cases hj : j = x
    · subst hj
      have q := self e1
      subst q
      cases e2
      exact ⟨_, hv, by rw [Fp.set_same]; exact hnew⟩
    · have hl : s.val ≠ none := by rw [e2]; simp
      obtain ⟨q1, q2⟩ := other e1 hj hl
      obtain ⟨v, k1, k2⟩ := S.val j s e q1 e2
      refine ⟨v, k1, ?_⟩
      rw [Fp.set_ne hj]
      exact k2.chg chg fun c hc z => apart q1 hj hl q2 c hc (by rw [z]; exact ha)
  · by_cases hj : j = x
    · subst hj
      rw [Fp.set_same]
      refine ⟨hn, fun c hc => ?_⟩
      rcases hF c hc with z | z
      · exact mutK ((S.tree j _ hx rfl).2 c z)
      · exact mutK z.1
    · have hl : s.val ≠ none := by cases s <;> first | (simp [Sl.val]; done) | cases e2
      obtain ⟨q1, _⟩ := other e1 hj hl
      rw [Fp.set_ne hj]
      obtain ⟨k1, k2⟩ := S.tree j s q1 e2
      exact ⟨k1, fun c hc => mutK (k2 c hc)⟩
  · have hlt : t.val ≠ none := by cases t <;> first | (simp [Sl.val]; done) | cases ho
    by_cases hj : j = x
    · subst hj
      have hk : k ≠ j := Ne.symm hne
      obtain ⟨q1, q2⟩ := other e2 hk hlt
      rw [Fp.set_same] at hc
      rw [Fp.set_ne hk]
      rcases hF c hc with z | z
      · exact fun hm' => apart q1 hk hlt q2 c hm' z
      · exact z.2.2 k t q1 hlt
    · obtain ⟨q1, q2⟩ := other e1 hj hl
      rw [Fp.set_ne hj] at hc
      by_cases hk : k = x
      · subst hk
        rw [Fp.set_same]
        intro hm'
        rcases hF c hm' with z | z
        · exact apart q1 hj hl q2 c hc z
        · exact z.2.2 j s q1 hl hc
      · obtain ⟨p1, _⟩ := other e2 hk hlt
        rw [Fp.set_ne hk]
        exact S.disj j k s t q1 p1 hne hl ho hr c hc
  · -- the bases
    have bo := S.bok b hb x _ hx rfl (.inl rfl) a ha
    refine ⟨fun c u e k => ?_, fun c e => (S.chg b hb).2 c (chg.2 c e)⟩
    have q := (S.chg b hb).1 c u e k
    by_cases hc : c = a
    · subst hc
      rcases bo with z | z
      · rw [z] at e; cases e
      · rcases k with k | k
        · exact absurd z.1 k
        · rw [q] at mutA; exact absurd mutA k
    · rw [upd_ne hc]; exact q
  · by_cases hj : j = x
    · subst hj
      rw [Fp.set_same] at hc
      rcases hF c hc with z | z
      · exact S.bok b hb j _ hx rfl (.inl rfl) c z
      · exact z.2.1 b hb
    · have hl : s.val ≠ none := by cases s <;> first | (simp [Sl.val]; done) | cases e2
      obtain ⟨q1, _⟩ := other e1 hj hl
      rw [Fp.set_ne hj] at hc
      exact S.bok b hb j s q1 e2 e3 c hc
/-- views of y forgotten, y left empty: what it held is at hand -/
theorem Sta.give (S : Sta K P w B σ H ρ φ) (y : Nat) : Sta K P w B σ H ((killV ρ y).set y .un) φ := by
  have other : ∀ {j : Nat} {s : Sl}, ((killV ρ y).set y .un)[j]? = some s → s.val ≠ none → ρ[j]? = some s ∧ y ∉ s.roots ∧ j ≠ y := fun {j s} e hl => by
    by_cases hj : j = y
    · subst hj
      by_cases hb : j < (killV ρ j).length
      · rw [List.getElem?_set_self hb] at e
        cases e; exact absurd rfl hl
      · rw [List.getElem?_eq_none (by rw [List.length_set]; omega)] at e; cases e
    · rw [List.getElem?_set_ne (Ne.symm hj)] at e
      rcases killV_get e with z | z
      · exact ⟨z.1, z.2, hj⟩
      · subst z; exact absurd rfl hl
  have ol_live : ∀ {s : Sl}, s.ol = true → s.val ≠ none := fun {s} o => by cases s <;> first | (simp [Sl.val]; done) | cases o
  refine ⟨by rw [List.length_set, killV_length]; exact S.len, fun j s d e1 e2 => S.val j s d (other e1 (by rw [e2]; simp)).1 e2, fun j s e1 e2 => S.tree j s (other e1 (ol_live e2)).1 e2,
    fun j k s t e1 e2 hne hl ho hr => S.disj j k s t (other e1 hl).1 (other e2 (ol_live ho)).1 hne hl ho hr, S.chg, fun b hb j s e1 e2 e3 => S.bok b hb j s (other e1 (ol_live e2)).1 e2 e3, S.pin⟩
end
end PD
set_option maxHeartbeats 4000000
namespace PD
open PySem PySem.Spec PyProof.Rows L2

section
variable (X : Cx) (B : List Base) (W : WX)
/-- it may be stored, or handed back: no slot reaches it -/
structure Free (rt : Bool) (ρ : Rho) (φ : Fp) (H : Hp) (F : List Addr) : Prop where
  nd : F.Nodup
  mu : ∀ a ∈ F, Mut (H a)
  bs : ∀ b ∈ B, (rt = true → b.all = false) → ∀ a ∈ F, ∀ j, b.ok j a
  dj : ∀ (j : Nat) (s : Sl), ρ[j]? = some s → s.val ≠ none → ∀ a ∈ F, a ∉ φ j
def LeftS (D : Ends) (r : RS) : Prop := match r with
  | .nx ρ => ∀ σ H φ, Sta X.K X.prog X.w B σ H ρ φ → D.nx σ H
  | .bk ρ => ∀ σ H φ, Sta X.K X.prog X.w B σ H ρ φ → D.bk σ H
  | .ct ρ => ∀ σ H φ, Sta X.K X.prog X.w B σ H ρ φ → D.ct σ H
  | .rt d ρ => ∀ v σ H φ F, Sta X.K X.prog X.w B σ H ρ φ → Rp X.K X.prog X.w H v d F → Free B true ρ φ H F → D.rt v H
  | .ec c ρ => ∀ σ H φ, Sta X.K X.prog X.w B σ H ρ φ → ∀ C, X.mg c = some (.ref C) → W (.ref C) none σ H
  | .no => False
def RSt (r : Rho → RS) : TS := fun D σ H => ∃ ρ φ, Sta X.K X.prog X.w B σ H ρ φ ∧ LeftS X B W D (r ρ)
def RDA (rt : Bool) (r : Rho → RA) : TE := fun σ H Q => ∃ ρ φ, Sta X.K X.prog X.w B σ H ρ φ ∧ match r ρ with
  | .ok d ρ1 => ∀ v H' F, Same H H' → Sta X.K X.prog X.w B σ H' ρ1 φ → Rp X.K X.prog X.w H' v d F → Free B rt ρ1 φ H' F → Q v H'
  | .ex c => EX X W c σ H
  | .no => False
end
section
variable {X : Cx} {B : List Base} {W : WX} {A A' : Rho → R} {pos : Pos}
theorem LeftS.ec {D : Ends} {ρ : Rho} {c : Str} {σ : L2.St} {H : Hp} {φ : Fp} (S : Sta X.K X.prog X.w B σ H ρ φ) (h : LeftS X B W D (.ec c ρ)) : EX X W c σ H := fun C H' e s => h σ H' φ (S.same s) C e
/-- an expression, then what the statement does with it -/
theorem RSt.bind {D : Ends} {σ : L2.St} {H : Hp} {ρ : Rho} {φ : Fp} {k : PyData → Tn → RS} {Q : V → Hp → Prop} (S : Sta X.K X.prog X.w B σ H ρ φ) (h : LeftS X B W D ((A ρ).toS ρ k))
    (hok : ∀ d t v H' F, Same H H' → VC X.K X.prog X.w ρ φ H H' t v d F → LeftS X B W D (k d t) → Q v H') : RD X B W A σ H Q := by
  refine ⟨ρ, φ, S, ?_⟩
  cases e : A ρ with
  | ok d t => rw [e] at h; exact fun v H' F s vc => hok d t v H' F s vc h
  | ex c => rw [e] at h; exact LeftS.ec S h
  | no => rw [e] at h; exact h
theorem RSt.bindA {D : Ends} {σ : L2.St} {H : Hp} {ρ : Rho} {φ : Fp} {rt : Bool} {G : Rho → RA} {k : PyData → Rho → RS} {Q : V → Hp → Prop} (S : Sta X.K X.prog X.w B σ H ρ φ) (h : LeftS X B W D ((G ρ).toS ρ k))
    (hok : ∀ d ρ1 v H' F, Same H H' → Sta X.K X.prog X.w B σ H' ρ1 φ → Rp X.K X.prog X.w H' v d F → Free B rt ρ1 φ H' F → LeftS X B W D (k d ρ1) → Q v H') : RDA X B W rt G σ H Q := by
  refine ⟨ρ, φ, S, ?_⟩
  cases e : G ρ with
  | ok d ρ1 => rw [e] at h; exact fun v H' F s S1 r f => hok d ρ1 v H' F s S1 r f h
  | ex c => rw [e] at h; exact LeftS.ec S h
  | no => rw [e] at h; exact h
theorem RSt.bindT {D : Ends} {σ : L2.St} {H : Hp} {ρ : Rho} {φ : Fp} {T : Rho → RT} {k : Bool → RS} {Q : Bool → Hp → Prop} (S : Sta X.K X.prog X.w B σ H ρ φ) (h : LeftS X B W D ((T ρ).toS ρ k))
    (hok : ∀ b H', Same H H' → LeftS X B W D (k b) → Q b H') : RDT X B W T σ H Q := by
  refine ⟨ρ, φ, S, ?_⟩
  cases e : T ρ with
  | ok b => rw [e] at h; exact fun H' s => hok b H' s h
  | ex c => rw [e] at h; exact LeftS.ec S h
  | no => rw [e] at h; exact h
theorem at_some {ρ : Rho} {y : Nat} {s : Sl} (h : Rho.at ρ y = s) (hs : s ≠ .un) : ρ[y]? = some s := by
  unfold Rho.at at h
  rw [List.getD_eq_getElem?_getD] at h
  cases e : ρ[y]? with
  | none => rw [e] at h; exact absurd h.symm hs
  | some t => rw [e] at h; rw [← h]; rfl
theorem Free.imm {rt : Bool} {ρ : Rho} {φ : Fp} {H : Hp} : Free B rt ρ φ H [] := ⟨List.nodup_nil, by simp, by simp, by simp⟩
theorem killV_dj {ρ : Rho} {y j : Nat} {s : Sl} (e : ((killV ρ y).set y .un)[j]? = some s) (hl : s.val ≠ none) : ρ[j]? = some s ∧ y ∉ s.roots ∧ j ≠ y := by
  by_cases hj : j = y
  · subst hj
    by_cases hb : j < (killV ρ j).length
    · rw [List.getElem?_set_self hb] at e
      cases e; exact absurd rfl hl
    · rw [List.getElem?_eq_none (by rw [List.length_set]; omega)] at e; cases e
  · rw [List.getElem?_set_ne (Ne.symm hj)] at e
    rcases killV_get e with z | z
    · exact ⟨z.1, z.2, hj⟩
    · subst z; exact absurd rfl hl
theorem Sta.free {σ : L2.St} {H : Hp} {ρ : Rho} {φ : Fp} (S : Sta X.K X.prog X.w B σ H ρ φ) {y : Nat} {s : Sl} (e : ρ[y]? = some s) (o : s.ol = true) {rt : Bool} (hr : s.isOwn = true ∨ rt = true) (hp : y ≠ 0 ∨ ∀ b ∈ B, b.io = false) : Free B rt ((killV ρ y).set y .un) φ H (φ y) := by
  refine ⟨(S.tree y s e o).1, (S.tree y s e o).2, fun b hb hrt a ha j => ?_, fun j t e1 hl a ha hm => ?_⟩
  · have q := S.bok b hb y s e o (by rcases hr with z | z; exact .inl z; exact .inr (hrt z)) a ha
    rcases q with q | ⟨q1, q2⟩
    · exact .inl q
    · refine .inr ⟨q1, .inl ?_⟩
      rcases q2 with q2 | ⟨q2, q3⟩
      · exact q2
      · rcases hp with hp | hp
        · exact absurd q3 hp
        · rw [hp b hb] at q2; cases q2
  · obtain ⟨q1, q2, q3⟩ := killV_dj e1 hl
    exact S.disj j y t s q1 e q3 hl o q2 a hm ha
theorem own_ne {d : PyData} : Sl.own d ≠ .un := fun z => by cases z
/-- an expression that is handed over -/
theorem rda_of {T : Tab} {e : E} {x : Expr} {rt : Bool} (hp : (∀ y, e.asV = some y → y ≠ 0) ∨ ∀ b ∈ B, b.io = false) (hn : ∀ y, e.asV = some y → ∃ n p, x = .Name n p ∧ X.N[y]? = some n ∧ Vis X.env.scope n ∧ (n == ("__debug__" : Str)) = false ∧ (n == ("__classdict__" : Str)) = false)
    (he : PE X x (RD X B W (ev T e))) : PE X x (RDA X B W rt (argS T rt e)) := by
  cases hv : e.asV with
  | some y =>
    obtain ⟨n, p, rfl, h1, h2, h3, h4⟩ := hn y hv
    refine (pe_var h1 h2 h3 h4).weak fun σ H Q ⟨ρ, φ, S, h⟩ => ?_
    have hp' : y ≠ 0 ∨ ∀ b ∈ B, b.io = false := hp.imp (fun z => z y hv) id
    unfold argS at h
    rw [hv] at h
    dsimp only at h
    unfold giveS at h
    cases ha : Rho.at ρ y with
    | un => rw [ha] at h; exact h.elim
    | own d =>
      rw [ha] at h
      dsimp only at h
      have e1 := at_some ha (fun z => by cases z)
      obtain ⟨v, q1, q2⟩ := S.val y _ d e1 rfl
      refine ⟨v, q1, ?_⟩
      by_cases im : imm d = true
      · rw [if_pos im] at h
        have := q2.imm im
        rw [this] at q2
        exact h v H [] (Same.refl _) S q2 Free.imm
      · rw [if_neg im] at h
        exact h v H (φ y) (Same.refl _) (S.give y) q2 (S.free e1 rfl (.inl rfl) hp')
    | lk d =>
      rw [ha] at h
      dsimp only at h
      have e1 := at_some ha (fun z => by cases z)
      obtain ⟨v, q1, q2⟩ := S.val y _ d e1 rfl
      refine ⟨v, q1, ?_⟩
      by_cases im : imm d = true
      · rw [if_pos im] at h
        have := q2.imm im
        rw [this] at q2
        exact h v H [] (Same.refl _) S q2 Free.imm
      · rw [if_neg im] at h
        by_cases hr : rt = true
        · rw [if_pos hr] at h
          exact h v H (φ y) (Same.refl _) (S.give y) q2 (S.free e1 rfl (.inr hr) hp')
        · rw [if_neg hr] at h; exact h.elim
    | vw R d =>
      rw [ha] at h
      dsimp only at h
      have e1 := at_some ha (fun z => by cases z)
      obtain ⟨v, q1, q2⟩ := S.val y _ d e1 rfl
      refine ⟨v, q1, ?_⟩
      by_cases im : imm d = true
      · rw [if_pos im] at h
        have := q2.imm im
        rw [this] at q2
        exact h v H [] (Same.refl _) S q2 Free.imm
      · rw [if_neg im] at h; exact h.elim
  | none =>
    refine he.weak fun σ H Q ⟨ρ, φ, S, h⟩ => ⟨ρ, φ, S, ?_⟩
    unfold argS at h
    rw [hv] at h
    dsimp only at h
    cases hr : ev T e ρ with
    | ok d t =>
      rw [hr] at h
      dsimp only at h
      intro v H' F s vc
      by_cases hi : inOk d t = true
      · rw [if_pos hi] at h
        refine h v H' F s (S.same s) vc.1 ?_
        unfold inOk at hi
        by_cases im : imm d = true
        · rw [vc.1.imm im]; exact Free.imm
        · have ht : t = none := by
            cases t with
            | none => rfl
            | some R => simp [im] at hi
          subst ht
          have q := vc.2
          exact ⟨q.2, fun a ha => (q.1 a ha).2, fun b hb _ a ha j => .inl ((S.chg b hb).2 a (q.1 a ha).1), fun j s' e1 hl a ha hm => by
            cases hv' : s'.val with
            | none => exact hl hv'
            | some d' =>
              obtain ⟨v', _, r'⟩ := S.val j s' d' e1 hv'
              exact r'.alloc a hm (q.1 a ha).1⟩
      · rw [if_neg hi] at h; exact h.elim
    | ex c => rw [hr] at h; exact h
    | no => rw [hr] at h; exact h

/-! ## small statements -/
theorem rs_next {st : Stmt} (h : PS X st tNext) : PS X st (RSt X B W fun ρ => .nx ρ) := h.weak fun D σ H ⟨ρ, φ, S, h⟩ => h σ H φ S
theorem rs_break : PS X (.Break pos) (RSt X B W fun ρ => .bk ρ) := ps_break.weak fun D σ H ⟨ρ, φ, S, h⟩ => h σ H φ S
theorem rs_cont : PS X (.Continue pos) (RSt X B W fun ρ => .ct ρ) := ps_continue.weak fun D σ H ⟨ρ, φ, S, h⟩ => h σ H φ S
theorem rs_ex {x : Expr} (hx : PE X x (RD X B W A)) (hs : swapsWith x none pos.line X.env = pure false) : PS X (.Expr x pos) (RSt X B W fun ρ => (A ρ).toS ρ fun _ _ => .nx ρ) := by
  refine (ps_expr hx hs).weak fun D σ H ⟨ρ, φ, S, h⟩ => ?_
  exact RSt.bind S h fun d t v H' F s vc h1 => h1 σ H' φ (S.same s)
theorem rs_ret {x : Expr} {G : Rho → RA} (hx : PE X x (RDA X B W true G)) : PS X (.Return (some x) pos) (RSt X B W fun ρ => (G ρ).toS ρ fun d ρ1 => .rt d ρ1) := by
  refine (ps_ret hx).weak fun D σ H ⟨ρ, φ, S, h⟩ => ?_
  exact RSt.bindA S h fun d ρ1 v H' F s S1 r f h1 => h1 v σ H' φ F S1 r f
theorem rs_ret0 : PS X (.Return none pos) (RSt X B W fun ρ => .rt .none ρ) := ps_retN.weak fun D σ H ⟨ρ, φ, S, h⟩ => h .non σ H φ [] S .non Free.imm
theorem rs_if {c : Expr} {a b : List Stmt} {T : Rho → RT} {f g : Rho → RS} (hc : PT X c (RDT X B W T)) (ha : PSs X a (RSt X B W f)) (hb : PSs X b (RSt X B W g)) : PS X (.If c a b pos) (RSt X B W fun ρ => (T ρ).toS ρ fun k => if k = true then f ρ else g ρ) := by
  refine (ps_if hc ha hb).weak fun D σ H ⟨ρ, φ, S, h⟩ => ?_
  refine RSt.bindT S h fun k H' s h1 => ?_
  cases k with
  | true => exact ⟨ρ, φ, S.same s, h1⟩
  | false => exact ⟨ρ, φ, S.same s, h1⟩
theorem rs_set {i : Nat} {n : Str} {x : Expr} {pos' : Pos} (hp : i ≠ 0 ∨ ∀ b ∈ B, b.pin = none) (hN : X.N.Nodup) (hi : X.N[i]? = some n) (hl : Loc X.env.scope n) (hf : X.fn n = true ∨ X.env.scope.names.lookup n = some .local) (hx : PE X x (RD X B W A))
    (hs : swapsWith x (some (.Name n pos')) pos.line X.env = pure false) : PS X (.Assign [.Name n pos'] x pos) (RSt X B W fun ρ => (A ρ).toS ρ fun d t => .nx (put ρ i d t)) := by
  refine (ps_set hN hi hl hx hs hf).weak fun D σ H ⟨ρ, φ, S, h⟩ => ?_
  exact RSt.bind S h fun d t v H' F s vc h1 => h1 _ H' _ (S.put s hp vc)
/-- a target's binding, after a value -/
theorem rs_aug {i : Nat} {n : Str} {x : Expr} {op : Operator} {o : Bop} {pos' : Pos} (ho : (o = .add ∧ op = .Add) ∨ (o = .sub ∧ op = .Sub)) (hp : i ≠ 0 ∨ ∀ b ∈ B, b.pin = none) (hN : X.N.Nodup) (hi : X.N[i]? = some n) (hl : Loc X.env.scope n) (hf : X.fn n = true ∨ X.env.scope.names.lookup n = some .local)
    (hx : PE X x (RD X B W A)) : PS X (.AugAssign (.Name n pos') op x pos) (RSt X B W fun ρ => match Rho.at ρ i with
      | .own d => (A ρ).toS ρ fun d' t => match augI o d d' with
        | some r => .nx (put ρ i r none)
        | none => .no
      | _ => .no) := by
  have main : ∀ {ti : TIp} {f : Int → Int → Int}, PIp X op ti → ti = ipI f → (∀ d d' r, augI o d d' = some r → ∃ m k, d = .int m ∧ d' = .int k ∧ r = .int (f m k)) → PS X (.AugAssign (.Name n pos') op x pos) (RSt X B W fun ρ => match Rho.at ρ i with
      | .own d => (A ρ).toS ρ fun d' t => match augI o d d' with
        | some r => .nx (put ρ i r none)
        | none => .no
      | _ => .no) := by
    intro ti f pip e hh
    subst e
    refine (ps_aug hN hi hl hx pip hf).weak fun D σ H ⟨ρ, φ, S, h⟩ => ?_
    dsimp only at h
    cases ha : Rho.at ρ i with
    | own d =>
      rw [ha] at h
      dsimp only at h
      obtain ⟨v, q1, q2⟩ := S.val i _ d (at_some ha (fun z => by cases z)) rfl
      refine ⟨v, q1, RSt.bind S h fun d' t v' H' F s vc h1 => ?_⟩
      cases hg : augI o d d' with
      | none => rw [hg] at h1; exact h1.elim
      | some r =>
        rw [hg] at h1
        obtain ⟨m, k, rfl, rfl, rfl⟩ := hh _ _ _ hg
        generalize φ i = G0 at q2
        cases q2
        have z := vc.1
        cases z
        exact ⟨m, k, rfl, rfl, h1 _ H' _ (S.put s hp (vc_atom (.int _)))⟩
    | _ => rw [ha] at h; exact h.elim
  rcases ho with ⟨rfl, rfl⟩ | ⟨rfl, rfl⟩
  · refine main ip_add rfl fun d d' r e => ?_
    unfold augI at e
    split at e <;> first | (cases e; rename_i h; first | exact ⟨_, _, rfl, rfl, rfl⟩ | cases h) | cases e
  · refine main ip_sub rfl fun d d' r e => ?_
    unfold augI at e
    split at e <;> first | (cases e; rename_i h; first | exact ⟨_, _, rfl, rfl, rfl⟩ | cases h) | cases e
end
end PD
set_option maxHeartbeats 4000000
namespace PD
open PySem PySem.Spec PyProof.Rows L2

section
variable {K : PySem.W.Frag} {P : Program} {w : World} {B : List Base} {σ : L2.St} {H : Hp} {ρ : Rho} {φ : Fp}
theorem lockOne_get {r j : Nat} {s : Sl} (h : (lockOne ρ r)[j]? = some s) : ρ[j]? = some s ∨ ∃ d, ρ[j]? = some (.own d) ∧ s = .lk d ∧ j = r := by
  unfold lockOne at h
  split at h
  · rename_i d e
    split at h
    · exact .inl h
    · have e1 := at_some e (fun z => by cases z)
      by_cases hj : j = r
      · subst hj
        rw [List.getElem?_set_self (List.getElem?_eq_some_iff.mp e1).1] at h
        exact .inr ⟨d, e1, (Option.some.inj h).symm, rfl⟩
      · rw [List.getElem?_set_ne (Ne.symm hj)] at h
        exact .inl h
  · exact .inl h
theorem Sta.lockOne (S : Sta K P w B σ H ρ φ) (r : Nat) : Sta K P w B σ H (lockOne ρ r) φ := by
  have back : ∀ {j : Nat} {s : Sl}, (PD.lockOne ρ r)[j]? = some s → ∃ t, ρ[j]? = some t ∧ t.val = s.val ∧ (s.ol = true → t.ol = true) ∧ (s.isOwn = true → t.isOwn = true) ∧ (t.roots = s.roots) := fun {j s} e => by
    rcases lockOne_get e with z | ⟨d, z, rfl, _⟩
    · exact ⟨s, z, rfl, id, id, rfl⟩
    · exact ⟨_, z, rfl, fun _ => rfl, (fun q => (nomatch q)), rfl⟩
  refine ⟨?_, fun j s d e1 e2 => ?_, fun j s e1 e2 => ?_, fun j k s t e1 e2 hne hl ho hr => ?_, S.chg, fun b hb j s e1 e2 e3 => ?_, S.pin⟩
  · unfold PD.lockOne
    split
    · split
      · exact S.len
      · rw [List.length_set]; exact S.len
    · exact S.len
  · obtain ⟨t, h1, h2, _⟩ := back e1
    exact S.val j t d h1 (by rw [h2]; exact e2)
  · obtain ⟨t, h1, _, h3, _⟩ := back e1
    exact S.tree j t h1 (h3 e2)
  · obtain ⟨s', h1, h2, _, _, h5⟩ := back e1
    obtain ⟨t', k1, _, k3, _⟩ := back e2
    exact S.disj j k s' t' h1 k1 hne (by rw [h2]; exact hl) (k3 ho) (by rw [h5]; exact hr)
  · obtain ⟨t, h1, _, h3, h4, _⟩ := back e1
    exact S.bok b hb j t h1 (h3 e2) (e3.imp h4 id)
theorem Sta.lockR (S : Sta K P w B σ H ρ φ) : ∀ (R : List Nat), Sta K P w B σ H (lockR ρ R) φ
  | [] => S
  | r :: R => (Sta.lockR S R).lockOne r
theorem lockR_own {j : Nat} {d : PyData} : ∀ {R : List Nat}, (lockR ρ R)[j]? = some (.own d) → ρ[j]? = some (.own d) ∧ (j ∈ R → imm d = true)
  | [], h => ⟨h, fun z => by simp at z⟩
  | r :: R, h => by
    have h : (lockOne (lockR ρ R) r)[j]? = some (.own d) := h
    rcases lockOne_get h with z | ⟨d', z, e, _⟩
    · obtain ⟨q1, q2⟩ := lockR_own z
      refine ⟨q1, fun hm => ?_⟩
      rcases List.mem_cons.mp hm with e | hm
      · subst e
        unfold lockOne at h
        have ea : Rho.at (lockR ρ R) j = .own d := by
          unfold Rho.at
          rw [List.getD_eq_getElem?_getD, z]; rfl
        rw [ea] at h
        dsimp only at h
        by_cases im : imm d = true
        · exact im
        · rw [if_neg im, List.getElem?_set_self (List.getElem?_eq_some_iff.mp z).1] at h
          cases h
      · exact q2 hm
    · cases e
theorem mem_lks {j : Nat} {d : PyData} (h : ρ[j]? = some (.lk d)) : j ∈ lks ρ := by
  unfold lks
  rw [List.mem_filter]
  refine ⟨List.mem_range.mpr (List.getElem?_eq_some_iff.mp h).1, ?_⟩
  have : Rho.at ρ j = .lk d := by
    unfold Rho.at
    rw [List.getD_eq_getElem?_getD, h]; rfl
  rw [this]
/-- what a loop starts from -/
def loopB (H : Hp) (ρ : Rho) (φ : Fp) : Base := ⟨H, fun a => ∃ j d, ρ[j]? = some (.own d) ∧ a ∈ φ j, true, false, none⟩
theorem Sta.loop (S : Sta K P w B σ H ρ φ) : Sta K P w (loopB H ρ φ :: B) σ H ρ φ := by
  refine ⟨S.len, S.val, S.tree, S.disj, fun b hb => ?_, fun b hb j s e1 e2 e3 a ha => ?_, fun b hb => ?_⟩
  · rcases List.mem_cons.mp hb with e | hb
    · subst e; exact Chg.refl
    · exact S.chg b hb
  · rcases List.mem_cons.mp hb with e | hb
    · subst e
      refine .inr ⟨?_, .inl rfl⟩
      rcases e3 with e3 | e3
      · cases s with
        | own d => exact ⟨j, d, e1, ha⟩
        | _ => cases e3
      · cases e3
    · exact S.bok b hb j s e1 e2 e3 a ha
  · rcases List.mem_cons.mp hb with e | hb
    · subst e; intro v e; cases e
    · exact S.pin b hb
theorem Sta.unloop {b : Base} (S : Sta K P w (b :: B) σ H ρ φ) : Sta K P w B σ H ρ φ :=
  ⟨S.len, S.val, S.tree, S.disj, fun b' hb => S.chg b' (List.mem_cons_of_mem _ hb), fun b' hb => S.bok b' (List.mem_cons_of_mem _ hb), fun b' hb => S.pin b' (List.mem_cons_of_mem _ hb)⟩
end
section
variable {X : Cx} {B : List Base} {W : WX} {pos : Pos}
theorem Free.unloop {b : Base} {rt : Bool} {ρ : Rho} {φ : Fp} {H : Hp} {F : List Addr} (h : Free B rt ρ φ H F) (hb : b.all = true) : Free (b :: B) true ρ φ H F → Free B true ρ φ H F := fun h => ⟨h.nd, h.mu, fun b' hb' => h.bs b' (List.mem_cons_of_mem _ hb'), h.dj⟩
theorem Free.loop {b : Base} {ρ : Rho} {φ : Fp} {H : Hp} {F : List Addr} (hb : b.all = true) (h : Free (b :: B) true ρ φ H F) : Free B true ρ φ H F := ⟨h.nd, h.mu, fun b' hb' => h.bs b' (List.mem_cons_of_mem _ hb'), h.dj⟩
/-- .. one behind another -/
theorem rss_nil : PSs X [] (RSt X B W fun ρ => .nx ρ) := pss_nil.weak fun D σ H ⟨ρ, φ, S, h⟩ => h σ H φ S
theorem rss_cons {st : Stmt} {rest : List Stmt} {f g : Rho → RS} (h1 : PS X st (RSt X B W f)) (h2 : PSs X rest (RSt X B W g)) : PSs X (st :: rest) (RSt X B W fun ρ => match f ρ with
    | .nx ρ1 => g ρ1
    | r => r) := by
  refine (pss_cons h1 h2).weak fun D σ H ⟨ρ, φ, S, h⟩ => ⟨ρ, φ, S, ?_⟩
  dsimp only at h
  cases e : f ρ with
  | nx ρ1 => rw [e] at h; exact fun σ' H' φ' S' => ⟨ρ1, φ', S', h⟩
  | rt d ρ1 => rw [e] at h; exact h
  | bk ρ1 => rw [e] at h; exact h
  | ct ρ1 => rw [e] at h; exact h
  | ec c ρ1 => rw [e] at h; exact h
  | no => rw [e] at h; exact h
theorem rs_while {c : Expr} {body : List Stmt} {T : Rho → RT} {f : Rho → RS} (hp : PassesOwn (model X.prog X.w) X.A X.env X.xe) (hc : PT X c (RDT X B W T)) (hb : PSs X body (RSt X B W f)) : PS X (.While c body [] pos) (RSt X B W fun ρ => whR T f ρ) := by
  refine (ps_while hp hc hb).weak fun D σ H ⟨ρ, φ, S, h⟩ => ?_
  have hno : whR T f ρ ≠ .no := fun z => by
    have h : LeftS X B W D (whR T f ρ) := h
    rw [z] at h; exact h
  obtain ⟨n, hn⟩ := whR_ends hno
  have h : LeftS X B W D (whR T f ρ) := h
  generalize whR T f ρ = r at hn h
  refine ⟨fun m σ H => ∃ ρ φ, Sta X.K X.prog X.w B σ H ρ φ ∧ whN T f m ρ = some r, ⟨n, ρ, φ, S, hn⟩, ?_⟩
  rintro m σ1 H1 ⟨ρ1, φ1, S1, hw⟩
  cases m with
  | zero => cases hw
  | succ m =>
    unfold whN at hw
    refine ⟨ρ1, φ1, S1, ?_⟩
    cases hT : T ρ1 with
    | ex c =>
      rw [hT] at hw
      cases hw
      exact LeftS.ec S1 h
    | no =>
      rw [hT] at hw
      cases hw
      exact h
    | ok b =>
      rw [hT] at hw
      intro H2 s2
      cases b with
      | false =>
        cases hw
        rw [if_neg (by decide)]
        exact h σ1 H2 φ1 (S1.same s2)
      | true =>
        rw [if_pos rfl]
        dsimp only at hw
        refine ⟨fun σ' H' => ∃ ρ' φ', Sta X.K X.prog X.w B σ' H' ρ' φ' ∧ whN T f m ρ' = some r, fun σ' H' q => ⟨m, Nat.lt_succ_self m, q⟩, ρ1, φ1, S1.same s2, ?_⟩
        cases hf : f ρ1 with
        | nx ρ2 => rw [hf] at hw; exact fun σ' H' φ' S' => ⟨ρ2, φ', S', hw⟩
        | ct ρ2 => rw [hf] at hw; exact fun σ' H' φ' S' => ⟨ρ2, φ', S', hw⟩
        | bk ρ2 => rw [hf] at hw; cases hw; exact h
        | rt d ρ2 => rw [hf] at hw; cases hw; exact h
        | ec c ρ2 => rw [hf] at hw; cases hw; exact h
        | no => rw [hf] at hw; cases hw; exact h
/-- for -/
theorem rs_for {tp : Bool} {I : Rho → RI} {tg : Tg} {tgE iter : Expr} {body : List Stmt} {f : Rho → RS} (hp : PassesOwn (model X.prog X.w) X.A X.env X.xe) (hc : X.calm = true) (hi : PI X tgE iter (RDI X B W tp I)) (htp : tp = true → ∃ is, tg = .many is)
    (hsl : ∀ i ∈ tg.slots, i ≠ 0 ∨ ∀ b ∈ B, b.pin = none) (hg : PG X tgE (gT X.K tg)) (hb : PSs X body (fun D σ H => ∃ b : Base, b.all = true ∧ b.io = false ∧ b.pin = none ∧ RSt X (b :: B) W f D σ H)) (hs : ∀ x, foldedSetIterable iter X.env x = pure x) :
    PS X (.For tgE iter body [] pos) (RSt X B W fun ρ => (I ρ).toS ρ fun ds t => forL f tg t ds (lockR ρ (t.getD []))) := by
  refine (ps_for hp hc hi hg hb hs).weak fun D σ H ⟨ρ, φ, S, h⟩ => ?_
  refine ⟨ρ, φ, S, ?_⟩
  dsimp only at h
  cases eI : I ρ with
  | ex c => rw [eI] at h; exact LeftS.ec S h
  | no => rw [eI] at h; exact h
  | ok ds t =>
    rw [eI] at h
    intro J H1 F s1 it ap
    have S1 := ((S.same s1).lockR (t.getD [])).loop
    have h : LeftS X B W D (forL f tg t ds (lockR ρ (t.getD []))) := h
    -- what is walked stays as it is
    have apO : ∀ a ∈ F, ¬ (loopB H1 (lockR ρ (t.getD [])) φ).O a := fun a ha ⟨j, d, e, hm⟩ => by
      obtain ⟨q1, q2⟩ := lockR_own e
      by_cases hj : j ∈ t.getD []
      · obtain ⟨v', _, r'⟩ := S.val j _ d q1 rfl
        rw [r'.imm (q2 hj)] at hm
        simp at hm
      · exact ap j _ q1 rfl hj a ha hm
    generalize lockR ρ (t.getD []) = ρ0 at S1 h apO
    generalize hb0 : loopB H1 ρ0 φ = b0 at S1 apO
    have b0H : b0.H = H1 := by subst hb0; rfl
    have b0a : b0.all = true := by subst hb0; rfl
    have b0p : b0.pin = none := by subst hb0; rfl
    have b0i : b0.io = false := by subst hb0; rfl
    let Inv : Nat → L2.St → Hp → Prop := fun i σ' H' => ∃ ρ' φ', Sta X.K X.prog X.w (b0 :: B) σ' H' ρ' φ' ∧ LeftS X B W D (forL f tg t (ds.drop i) ρ')
    refine ⟨fun i m σ' H' => m = ds.length - i ∧ i ≤ ds.length ∧ Inv i σ' H', ⟨ds.length, by simp, Nat.zero_le _, ρ0, φ, S1, by simpa using h⟩, ?_⟩
    rintro i m σ2 H2 ⟨rfl, hil, ρ2, φ2, S2, h2⟩
    have stay : Stay F H1 H2 := ⟨b0.O, by have := S2.chg b0 (List.mem_cons_self ..); rw [b0H] at this; exact this, apO⟩
    by_cases hlt : i < ds.length
    case neg =>
      have e : ds.drop i = [] := List.drop_eq_nil_of_le (by omega)
      rw [e] at h2
      exact .inl ⟨it.stop H2 i stay (by omega), h2 σ2 H2 φ2 S2.unloop⟩
    case pos =>
      have hd : ds[i]? = some ds[i] := List.getElem?_eq_getElem hlt
      rw [List.drop_eq_getElem_cons hlt] at h2
      unfold forL at h2
      refine .inr ⟨it.go H2 i stay hlt, Inv (i + 1), fun σ' H' q => ⟨ds.length - (i + 1), by omega, rfl, hlt, q⟩, fun x H3 y => ?_⟩
      obtain ⟨s3, item⟩ := it.item H2 i x H3 ds[i] stay hd y
      cases hpt : putTg ρ2 tg ds[i] (some (t.getD [] ++ lks ρ2)) with
      | none => rw [hpt] at h2; exact h2.elim
      | some ρ3 =>
        rw [hpt] at h2
        dsimp only at h2
        refine tg_ok (X := X) (B := b0 :: B) tg S2 s3 item htp (fun j s e o hj a ha hm => ?_) (fun k hk => ?_) hpt ?_
        · simp only [Option.getD_some, List.mem_append, not_or] at hj
          cases s with
          | un => cases o
          | vw _ _ => cases o
          | lk d => exact hj.2 (mem_lks e)
          | own d =>
            rcases S2.bok b0 (List.mem_cons_self ..) j _ e rfl (.inl rfl) a hm with q | q
            · rw [b0H] at q; exact it.al a ha q
            · exact apO a ha q.1
        · rcases hsl k hk with q | q
          · exact .inl q
          · refine .inr fun b hb => ?_
            rcases List.mem_cons.mp hb with e | hb
            · subst e; exact b0p
            · exact q b hb
        · intro σ3 φ3 S3 _ _
          refine ⟨b0, b0a, b0i, b0p, ρ3, φ3, S3, ?_⟩
          cases hf : f ρ3 with
          | nx ρ4 => rw [hf] at h2; exact fun σ' H' φ' S' => ⟨ρ4, φ', S', h2⟩
          | ct ρ4 => rw [hf] at h2; exact fun σ' H' φ' S' => ⟨ρ4, φ', S', h2⟩
          | bk ρ4 => rw [hf] at h2; exact fun σ' H' φ' S' => h2 σ' H' φ' S'.unloop
          | rt d ρ4 => rw [hf] at h2; exact fun v σ' H' φ' F' S' r fr => h2 v σ' H' φ' F' S'.unloop r (fr.loop b0a)
          | ec c ρ4 => rw [hf] at h2; exact fun σ' H' φ' S' => h2 σ' H' φ' S'.unloop
          | no => rw [hf] at h2; exact h2
end
end PD
set_option maxHeartbeats 4000000
namespace PD
open PySem PySem.Spec PyProof.Rows L2

section
variable {X : Cx} {B : List Base} {W : WX} {A A' : Rho → R} {pos : Pos}
def noLc : Expr → Bool
  | .ListComp .. => false
  | .SetComp .. => false
  | .DictComp .. => false
  | _ => true
theorem noLc_sw {x : Expr} (h : noLc x = true) {t : Option Expr} {l : Nat} {env : Env} : swapsWith x t l env = pure false := by
  cases x <;> first | (cases h; done) | rfl
theorem noTup_sw {x : Expr} {ts : List Expr} {env : Env} (h : isTuple x = false) : swappedStores ts x env = pure none := by
  cases x <;> first | (cases h; done) | (cases ts with
    | nil => rfl
    | cons t ts => cases ts <;> cases t <;> rfl)
theorem rs_setT {is : List Nat} {tgE x : Expr} (hp : ∀ i ∈ is, i ≠ 0 ∨ ∀ b ∈ B, b.pin = none) (hg : PG X tgE (gT X.K (.many is))) (hx : PE X x (RD X B W A)) (h1 : noLc x = true) (h2 : isTuple x = false) (h3 : (assignEach [tgE] X.env).map (·.2) = [assign tgE X.env]) :
    PS X (.Assign [tgE] x pos) (RSt X B W fun ρ => (A ρ).toS ρ fun d t => match putTg ρ (.many is) d t with
      | some ρ1 => .nx ρ1
      | none => .no) := by
  refine (ps_asg hx hg (noLc_sw h1) (noTup_sw h2) h3).weak fun D σ H ⟨ρ, φ, S, h⟩ => ?_
  refine RSt.bind S h fun d t v H' F s vc hl => ?_
  cases hq : putTg ρ (.many is) d t with
  | none => rw [hq] at hl; exact hl.elim
  | some ρ1 =>
    rw [hq] at hl
    refine tg_ok (X := X) (B := B) (tp := false) (t := t) (.many is) S s ?_ (fun z => by cases z) (vc.apart S) hp hq fun σ' φ' S' _ _ => hl σ' H' φ' S'
    unfold ItemOk
    rw [if_neg (by decide)]
    exact ⟨F, vc.1, fun a ha => ha⟩
/-- a comprehension that is stored as a name of its own line -/
theorem rs_setLc {i : Nat} {y : Str} {py : Pos} {tp : Bool} {I : Rho → RI} {T : Rho → RT} {tg : Tg} {elt tgE iter : Expr} {ifs : List Expr} {scope : Scope} {own : List (Str × Nat)} {pos spos : Pos} (hp : i ≠ 0 ∨ ∀ b ∈ B, b.pin = none) (hy : X.N[i]? = some y) (hyl : X.env.scope.names.lookup y = some .local)
    (hsw : swapsWith (.ListComp elt [⟨tgE, iter, ifs, 0⟩] scope pos) (some (.Name y py)) spos.line X.env = pure true)
    (hc : X.calm = true) (hN : X.N.Nodup) (hi : PI X tgE iter (RDI X B W tp I)) (htp : tp = true → ∃ is, tg = .many is) (hsl : ∀ i ∈ tg.slots, i ∈ own.map (·.2)) (ok : BlkOk X.N X.env.scope scope own)
    (hg : ∀ (s : Shared) (H : Hp) (C : Addr) (cl : List (Str × Addr)) (fp : List Addr), PG (X.blk s H scope (compEnvC scope cl C X.env) fp) tgE (gT X.K tg)) (ht : ∀ (s : Shared) (H : Hp) (C : Addr) (cl : List (Str × Addr)) (fp : List Addr), PTs (X.blk s H scope (compEnvC scope cl C X.env) fp) ifs (RDT X [] W0 T))
    (he : ∀ (s : Shared) (H : Hp) (C : Addr) (cl : List (Str × Addr)) (fp : List Addr), PE (X.blk s H scope (compEnvC scope cl C X.env) fp) elt (RD X [] W0 A)) (hs : ∀ x, foldedSetIterable iter X.env x = pure x) :
    PS X (.Assign [.Name y py] (.ListComp elt [⟨tgE, iter, ifs, 0⟩] scope pos) spos) (RSt X B W fun ρ => ((I ρ).bindR fun ds t => lcR (lcLoop T A tg (own.map (·.2)) ρ t ds [] [])).toS ρ fun d t => .nx (put ρ i d t)) := by
  refine (ps_setLc hc hN hy hyl hsw hi ok hg ht he hs).weak fun D σ H ⟨ρ, φ, S, h⟩ => ?_
  refine lc_weak htp hsl ?_
  exact RSt.bind S h fun d t v H' F s vc h1 => h1 _ H' _ (S.put s hp vc)
theorem rs_raise {x m : Str} {j : Nat} {p p2 cpos : Pos} {C : Addr} {bmB : List Value} {b0 newId initId : String} (hc : X.calm = true) (tk : Takes X W) (F : ExcBaseFacts b0 newId initId bmB) (q : PySem.W.excIn X.K C bmB newId = true) (gC : X.mg x = some (.ref C)) (kC : PySem.W.keepIn X.K (.ref C) = true)
    (r : Raises X (.ref C)) (hg : Gl X x) (hdb : (x == ("__debug__" : Str)) = false) : PS X (.Raise (some (.Call (.Name x p) [.Constant (.str m) j p2] [] cpos)) none pos) (RSt X B W fun ρ => .ec x ρ) := by
  refine (ps_raise hc tk (pmk_own F q gC kC r hg hdb)).weak fun D σ H ⟨ρ, φ, S, h⟩ => ?_
  exact h σ H φ S C gC
theorem rs_try {x : Str} {Cx : Addr} {body suite : List Stmt} {b₀ : Stmt} {np pos' : Pos} {f g : Rho → RS} {sub : Str → Option Bool} (hs : X.stack = X.env :: X.outer) (hf : X.env.frame = some X.env.locals) (hc : Names X x (.ref Cx)) (tk : Takes X W)
    (hsub : ∀ c C b, sub c = some b → X.mg c = some (.ref C) → PySem.W.exmOne X.K (.ref C) (.ref Cx) = some b)
    (hb : ∀ (W : WX) (pn : List (Addr × Obj)) (xe : Value → Shared → Prop), Takes (X.tr pn xe) W → PassesOwn (model X.prog X.w) X.A X.env xe → PSs (X.tr pn xe) body (RSt (X.tr pn xe) B W f))
    (hsu : ∀ (a : Addr) (pn : List (Addr × Obj)), PSs (X.suite a pn) (b₀ :: suite) (RSt (X.suite a pn) B W0 g)) :
    PS X (.Try body [.ExceptHandler (some (.Name x np)) none (b₀ :: suite) pos'] [] [] pos) (RSt X B W fun ρ => match f ρ with
      | .ec c' ρ1 => match sub c' with
        | some true => (match g ρ1 with
          | .ec _ _ => .no
          | r => r)
        | some false => .ec c' ρ1
        | none => .no
      | r => r) := by
  refine (ps_try_only (X := X) (x := x) (c := .ref Cx) (body := body) (suite := suite) (b₀ := b₀) (Wout := W) (tb := fun W => RSt X B W f) (ts := fun a cls d => RSt X B W0 g) hs hf hc tk (fun W' pn xe t1 t2 => hb W' pn xe t1 t2) (fun a oe cls d pn _ _ => hsu a _)).weak fun D σ H ⟨ρ, φ, S, h⟩ => ⟨ρ, φ, S, ?_⟩
  dsimp only at h
  cases e : f ρ with
  | nx ρ1 => rw [e] at h; exact h
  | rt d ρ1 => rw [e] at h; exact h
  | bk ρ1 => rw [e] at h; exact h
  | ct ρ1 => rw [e] at h; exact h
  | no => rw [e] at h; exact h
  | ec c ρ1 =>
    rw [e] at h
    dsimp only at h
    cases hq : sub c with
    | none => rw [hq] at h; exact h.elim
    | some b =>
      rw [hq] at h
      intro σ1 H1 φ1 S1 C hC
      refine ⟨b, hsub c C b hq hC, fun hbt a _ => ?_, fun hbf => ?_⟩
      · subst hbt
        refine ⟨ρ1, φ1, S1, ?_⟩
        dsimp only at h
        cases e2 : g ρ1 with
        | nx ρ2 => rw [e2] at h; exact h
        | rt d ρ2 => rw [e2] at h; exact h
        | bk ρ2 => rw [e2] at h; exact h
        | ct ρ2 => rw [e2] at h; exact h
        | ec c2 ρ2 => rw [e2] at h; exact h.elim
        | no => rw [e2] at h; exact h
      · subst hbf
        exact h σ1 H1 φ1 S1 C hC

/-! ### methods that change a list -/
variable {n : Str} {x : Nat} {np ap cp : Pos}
theorem own_at {ρ : Rho} {dx : PyData} (h : ownAt ρ x = some dx) : ρ[x]? = some (.own dx) := by
  unfold ownAt at h
  split at h
  · cases h
    exact at_some (by assumption) (fun z => by cases z)
  · cases h
theorem chg_left {D : Ends} {ρ : Rho} {d : Option PyData} (h : LeftS X B W D (chgS ρ x d)) : ∃ d', d = some d' ∧ LeftS X B W D (.nx ((killV ρ x).set x (.own d'))) := by
  cases d with
  | none => exact h.elim
  | some d' => exact ⟨d', rfl, h⟩
/-- what a receiver's own slot holds -/
theorem own_rp {σ : L2.St} {H : Hp} {ρ : Rho} {φ : Fp} (S : Sta X.K X.prog X.w B σ H ρ φ) {d : PyData} (h : ρ[x]? = some (.own d)) : ∃ v, σ[x]? = some (some v) ∧ Rp X.K X.prog X.w H v d (φ x) := S.val x _ d h rfl
/-- an own slot of a list: the object, its items, changed -/
theorem list_left {D : Ends} {σ : L2.St} {H : Hp} {ρ : Rho} {φ : Fp} (S : Sta X.K X.prog X.w B σ H ρ φ) {ds ds' : List PyData} {v : V} (hx : ρ[x]? = some (.own (.list ds))) (hv : σ[x]? = some (some v)) (h : LeftS X B W D (.nx ((killV ρ x).set x (.own (.list ds'))))) :
    ∃ a xs G, v = .ref a ∧ H a = some (.lst xs) ∧ RpL X.K X.prog X.w H xs ds G ∧ φ x = a :: G ∧ a ∉ G ∧ G.Nodup ∧ ∀ xs' G', RpL X.K X.prog X.w H xs' ds' G' → a ∉ G' → G'.Nodup → (∀ b ∈ G', b ∈ G ∨ (Mut (H b) ∧ (∀ bs ∈ B, bs.ok x b) ∧ ∀ (j : Nat) (s : Sl), ρ[j]? = some s → s.val ≠ none → b ∉ φ j)) →
      D.nx σ (upd H a (.lst xs')) := by
  obtain ⟨v', e1, r⟩ := own_rp S hx
  rw [hv] at e1
  cases e1
  obtain ⟨nd, mu⟩ := S.tree x _ hx rfl
  generalize hφ : φ x = Fx at r nd mu
  cases r with
  | lst h1 h2 =>
    rename_i a xs G
    obtain ⟨n1, n2⟩ := List.nodup_cons.mp nd
    refine ⟨a, xs, G, rfl, h1, h2, rfl, n1, n2, fun xs' G' r' na nd' hG => ?_⟩
    have c : Chg (fun c => c = a) H (upd H a (.lst xs')) := ⟨fun c o e k => by
      by_cases hc : c = a
      · subst hc
        rw [h1] at e; cases e
        rcases k with k | k
        · exact absurd rfl k
        · exact absurd trivial k
      · rw [upd_ne hc]; exact e, fun c e => by
      by_cases hc : c = a
      · subst hc; rw [upd_same] at e; cases e
      · rw [upd_ne hc] at e; exact e⟩
    refine h σ _ _ (S.mut (a := a) (o := .lst xs') (F' := a :: G') hx hv (by rw [hφ]; simp) trivial (.lst upd_same (r'.chg c fun b hb e => na (by rw [← e]; exact hb))) (fun b hb => ?_) (List.nodup_cons.mpr ⟨na, nd'⟩))
    rcases List.mem_cons.mp hb with e | hb
    · subst e; exact .inl (by rw [hφ]; simp)
    · rcases hG b hb with z | z
      · exact .inl (by rw [hφ]; exact List.mem_cons_of_mem _ z)
      · exact .inr z
variable {e : Expr}
theorem own_list {σ : L2.St} {H : Hp} {ρ : Rho} {φ : Fp} (S : Sta X.K X.prog X.w B σ H ρ φ) {ds : List PyData} (h : ownAt ρ x = some (.list ds)) : ∃ v, σ[x]? = some (some v) ∧ ∀ H1, Same H H1 → tyW X.K "list" v H1 := by
  obtain ⟨v, q1, q2⟩ := own_rp S (own_at h)
  refine ⟨v, q1, fun H1 s => ?_⟩
  have q3 := q2.same s
  generalize φ x = Fx at q3
  cases q3 with
  | lst h1 h2 => exact .inl (.inl ⟨rfl, _, .inl (.inl h1)⟩)
/-- a method that changes, with one argument that is handed over -/
theorem rs_append {G : Rho → RA} (hn : X.N[x]? = some n) (hv : Vis X.env.scope n) (h1 : (n == ("__debug__" : Str)) = false) (h2 : (n == ("__classdict__" : Str)) = false) (he : PE X e (RDA X B W false G)) (hpl : plainE e = true) (hline : (ap.endLine == cp.line) = true) :
    PS X (.Expr (.Call (.Attribute (.Name n np) "append" ap) [e] [] cp) pos) (RSt X B W fun ρ => match ownAt ρ x with
      | some (.list _) => (G ρ).toS ρ fun d ρ1 => match ownAt ρ1 x with
        | some dx => chgS ρ1 x (appD dx d)
        | none => .no
      | _ => .no) := by
  refine (ps_expr (pe_mD (pe_var hn hv h1 h2) (pa_cons he pa_nil (star_ok hpl)) (base_ok rfl) (few_ok (by simp [hpl]) (by simp)) hline (star_ok hpl) (by rfl)) (noLc_sw rfl)).weak fun D σ H ⟨ρ, φ, S, h⟩ => ?_
  dsimp only at h
  cases ho : ownAt ρ x with
  | none => rw [ho] at h; exact h.elim
  | some d0 =>
    rw [ho] at h
    cases d0 with
    | list ds0 =>
      dsimp only at h
      obtain ⟨v, q1, q2⟩ := own_list S ho
      refine ⟨v, q1, "list", _, _, ⟨PySem.F.plainAttrs_list, PySem.F.slot_list_append, PySem.F.type_list_append⟩, mt_append, q2 H (Same.refl _), ?_⟩
      refine RSt.bindA S h fun d ρ1 u H' F s S1 r f hl => ?_
      cases ho1 : ownAt ρ1 x with
      | none => rw [ho1] at hl; exact hl.elim
      | some dx =>
        rw [ho1] at hl
        obtain ⟨d', e1, hl⟩ := chg_left hl
        unfold appD at e1
        split at e1
        · split at e1
          · rename_i ds _ hz
            cases e1
            obtain ⟨a, xs, G0, rfl, k1, k2, k3, k4, k5, k6⟩ := list_left S1 (own_at ho1) q1 hl
            refine ⟨a, xs, u, rfl, rfl, k1, by rw [k2.length, ← line_eq]; exact hz, ?_⟩
            have ra := k2.append (.cons r .nil)
            rw [List.append_nil] at ra
            have dj : ∀ b ∈ F, b ∉ φ x := fun b hb => f.dj x _ (own_at ho1) (by simp [Sl.val]) b hb
            refine k6 _ _ ra (fun hm => ?_) (List.nodup_append.mpr ⟨k5, f.nd, fun b hb c hc e => dj c hc (by rw [k3, ← e]; exact List.mem_cons_of_mem _ hb)⟩) fun b hb => ?_
            · rcases List.mem_append.mp hm with z | z
              · exact k4 z
              · exact dj a z (by rw [k3]; simp)
            · rcases List.mem_append.mp hb with z | z
              · exact .inl z
              · exact .inr ⟨f.mu b z, fun bs hbs => f.bs bs hbs (fun q => by cases q) b z x, fun j sl e hl' => f.dj j sl e hl' b z⟩
          · cases e1
        · cases e1
    | _ => exact h.elim
theorem asInts_inv : ∀ {ds : List PyData} {ns : List Int}, asInts ds = some ns → ds = ns.map .int
  | [], ns, h => by cases h; rfl
  | d :: ds, ns, h => by
    cases d <;> first | (cases h; done) | skip
    unfold asInts at h
    obtain ⟨ms, e1, e2⟩ := Option.map_eq_some_iff.mp h
    cases e2
    rw [asInts_inv e1]
    rfl
theorem rpl_ints {K : PySem.W.Frag} {P : Program} {w : World} {H : Hp} : ∀ {ns : List Int} {xs : List V} {G : List Addr}, RpL K P w H xs (ns.map PyData.int) G → xs = ns.map V.int
  | [], _, _, h => by cases h; rfl
  | n :: ns, _, _, h => by
    cases h with
    | cons h1 h2 =>
      cases h1
      rw [rpl_ints h2]; rfl
theorem ints_rpl {K : PySem.W.Frag} {P : Program} {w : World} {H : Hp} : ∀ (ns : List Int), RpL K P w H (ns.map V.int) (ns.map PyData.int) []
  | [] => .nil
  | n :: ns => by
    have := RpL.cons (F := []) (Rp.int n (K := K) (P := P) (w := w) (H := H)) (ints_rpl ns)
    simpa using this
theorem erase_idx {k : Int} : ∀ {ns : List Int}, k ∈ ns → ∃ j, ns[j]? = some k ∧ (∀ m : Nat, m < j → ns[m]? ≠ some k) ∧ ns.erase k = ns.eraseIdx j
  | [], h => by simp at h
  | a :: ns, h => by
    by_cases e : a = k
    · subst e
      exact ⟨0, rfl, fun m hm => by omega, by simp⟩
    · have hm : k ∈ ns := by
        rcases List.mem_cons.mp h with z | z
        · exact absurd z.symm e
        · exact z
      obtain ⟨j, h1, h2, h3⟩ := erase_idx hm
      refine ⟨j + 1, by simpa using h1, fun m hm => ?_, ?_⟩
      · cases m with
        | zero => simp [e]
        | succ m => simpa using h2 m (by omega)
      · rw [List.erase_cons_tail (by simpa using e), h3]; rfl
theorem rs_remove (hn : X.N[x]? = some n) (hv : Vis X.env.scope n) (h1 : (n == ("__debug__" : Str)) = false) (h2 : (n == ("__classdict__" : Str)) = false) (he : PE X e (RD X B W A)) (hpl : plainE e = true) (hline : (ap.endLine == cp.line) = true) :
    PS X (.Expr (.Call (.Attribute (.Name n np) "remove" ap) [e] [] cp) pos) (RSt X B W fun ρ => match ownAt ρ x with
      | some (.list _) => (A ρ).toS ρ fun d t => match ownAt ρ x with
        | some dx => chgS ρ x (remD dx d)
        | none => .no
      | _ => .no) := by
  refine (ps_expr (pe_mD (pe_var hn hv h1 h2) (pa_cons he pa_nil (star_ok hpl)) (base_ok rfl) (few_ok (by simp [hpl]) (by simp)) hline (star_ok hpl) (by rfl)) (noLc_sw rfl)).weak fun D σ H ⟨ρ, φ, S, h⟩ => ?_
  dsimp only at h
  cases ho : ownAt ρ x with
  | none => rw [ho] at h; exact h.elim
  | some d0 =>
    rw [ho] at h
    cases d0 with
    | list ds0 =>
      dsimp only at h
      obtain ⟨v, q1, q2⟩ := own_list S ho
      refine ⟨v, q1, "list", _, _, ⟨PySem.F.plainAttrs_list, PySem.F.slot_list_remove, PySem.F.type_list_remove⟩, mt_remove, q2 H (Same.refl _), ?_⟩
      refine RSt.bind S h fun d t u H' F s vc hl => ?_
      have S1 := S.same s
      obtain ⟨d', e1, hl⟩ := chg_left hl
      cases d with
      | int k =>
        unfold remD at e1
        dsimp only at e1
        cases hi : asInts ds0 with
        | none => rw [hi] at e1; cases e1
        | some ns =>
          rw [hi] at e1
          dsimp only at e1
          split at e1
          · rename_i hm
            cases e1
            have ei := asInts_inv hi
            obtain ⟨a, xs, G0, rfl, k1, k2, k3, k4, k5, k6⟩ := list_left S1 (own_at ho) q1 hl
            rw [ei] at k2
            have ex := rpl_ints k2
            obtain ⟨j, j1, j2, j3⟩ := erase_idx hm
            have r := vc.1
            cases r
            rw [ex] at k1
            exact ⟨a, ns, k, j, rfl, rfl, k1, j1, j2, by
              have z := k6 ((ns.eraseIdx j).map V.int) [] (by rw [j3]; exact ints_rpl _) (by simp) List.nodup_nil (by simp)
              exact z⟩
          · cases e1
      | _ => cases e1
    | _ => exact h.elim
theorem rs_extend (hn : X.N[x]? = some n) (hv : Vis X.env.scope n) (h1 : (n == ("__debug__" : Str)) = false) (h2 : (n == ("__classdict__" : Str)) = false) (he : PE X e (RD X B W A)) (hpl : plainE e = true) (hline : (ap.endLine == cp.line) = true) :
    PS X (.Expr (.Call (.Attribute (.Name n np) "extend" ap) [e] [] cp) pos) (RSt X B W fun ρ => match ownAt ρ x with
      | some (.list _) => (A ρ).toS ρ fun d t => match ownAt ρ x with
        | some dx => if imm1 d = true then chgS ρ x (extD dx d) else .no
        | none => .no
      | _ => .no) := by
  refine (ps_expr (pe_mD (pe_var hn hv h1 h2) (pa_cons he pa_nil (star_ok hpl)) (base_ok rfl) (few_ok (by simp [hpl]) (by simp)) hline (star_ok hpl) (by rfl)) (noLc_sw rfl)).weak fun D σ H ⟨ρ, φ, S, h⟩ => ?_
  dsimp only at h
  cases ho : ownAt ρ x with
  | none => rw [ho] at h; exact h.elim
  | some d0 =>
    rw [ho] at h
    cases d0 with
    | list ds0 =>
      dsimp only at h
      obtain ⟨v, q1, q2⟩ := own_list S ho
      refine ⟨v, q1, "list", _, _, ⟨PySem.F.plainAttrs_list, PySem.F.slot_list_extend, PySem.F.type_list_extend⟩, mt_extend, q2 H (Same.refl _), ?_⟩
      refine RSt.bind S h fun d t u H' F s vc hl => ?_
      have S1 := S.same s
      by_cases im : imm1 d = true
      · rw [if_pos im] at hl
        obtain ⟨d', e1, hl⟩ := chg_left hl
        cases d with
        | list es =>
          unfold extD at e1
          dsimp only at e1
          split at e1
          · rename_i hz
            cases e1
            obtain ⟨a, xs, G0, rfl, k1, k2, k3, k4, k5, k6⟩ := list_left S1 (own_at ho) q1 hl
            have r := vc.1
            cases r with
            | lst g1 g2 =>
              rename_i b zs G1
              have g3 : RpL X.K X.prog X.w H' zs es [] := g2.all im
              have ra := k2.append g3
              rw [List.append_nil] at ra
              exact ⟨a, b, xs, zs, rfl, rfl, k1, g1, by rw [k2.length, g2.length, ← line_eq]; exact hz, k6 _ _ ra k4 k5 fun b hb => .inl hb⟩
          · cases e1
        | _ => cases e1
      · rw [if_neg im] at hl; exact hl.elim
    | _ => exact h.elim
end
end PD
set_option maxHeartbeats 4000000
namespace PD
open PySem PySem.Spec PyProof.Rows L2

/-! ## the statements that stand for it -/
def swIs (sc : Scope) (n : Str) (p' : Pos) (x : Expr) : Bool := match x with
  | .ListComp _ _ s p => decide (sc.names.lookup n = some .local) && (p'.line == p.line) && !(s.names.any fun (m, k) => m == n && (k == .local || k == .cell))
  | _ => false
def swOk : Expr → Bool
  | .SetComp .. => false
  | .DictComp .. => false
  | _ => true
def Mu.name : Mu → Str
  | .append => "append"
  | .remove => "remove"
  | .extend => "extend"
  | .pop => "pop"
  | .clear => "clear"
def slotOk (io : Bool) (i : Nat) : Bool := !io || decide (i ≠ 0)
def asvOk (io : Bool) (e : E) : Bool := match e.asV with
  | some y => slotOk io y
  | none => true
def nmOk (N : List Str) (sc : Scope) (i : Nat) (n : Str) : Bool := decide (N[i]? = some n) && visOk sc n && !(n == ("__debug__" : Str)) && !(n == ("__classdict__" : Str))
mutual
def mS (G : GT) (hot io : Bool) (N : List Str) (sc : Scope) : S → Stmt → Bool
  | .set i e, st => match st with
    | .Assign [.Name n p'] x p => decide (N[i]? = some n) && blkSt sc n && slotOk io i && mE G hot N sc e x && swOk x
    | _ => false
  | .setT is e, st => match st with
    | .Assign [tg] x p => !hot && mTg N (blkSt sc) (.many is) tg && is.all (slotOk io) && mE G hot N sc e x && noLc x && !isTuple x
    | _ => false
  | .aug i o e, st => match st with
    | .AugAssign (.Name n p') op x p => decide (N[i]? = some n) && blkSt sc n && slotOk io i && mE G hot N sc e x && ((decide (o = .add) && decide (op = .Add)) || (decide (o = .sub) && decide (op = .Sub)))
    | _ => false
  | .ixset x i e, st => false
  | .ixaug x i o e, st => false
  | .mut m x es, st => match st with
    | .Expr (.Call (.Attribute (.Name n np) a ap) [l] [] cp) p => nmOk N sc x n && decide (a = m.name) && (match es with
      | .cons e .nil => mE G hot N sc e l && asvOk io e
      | _ => false) && plainE l && decide (ap.endLine = cp.line) && (decide (m = .append) || decide (m = .remove) || decide (m = .extend))
    | _ => false
  | .ex e, st => match st with
    | .Expr x p => mE G hot N sc e x && noLc x
    | _ => false
  | .io f x es, st => false
  | .ret e, st => match st with
    | .Return (some x) p => mE G hot N sc e x && asvOk io e
    | _ => false
  | .ret0, st => match st with
    | .Return none p => true
    | _ => false
  | .pass, st => match st with
    | .Pass p => true
    | _ => false
  | .brk, st => match st with
    | .Break p => true
    | _ => false
  | .cnt, st => match st with
    | .Continue p => true
    | _ => false
  | .ife c a b, st => match st with
    | .If x l r p => mE G hot N sc c x && mSL G hot io N sc a l && mSL G hot io N sc b r
    | _ => false
  | .for_ tg it body, st => match st with
    | .For tgE iter l [] p => !hot && mTg N (blkSt sc) tg tgE && tg.slots.all (slotOk io) && mI G hot N sc it iter tgE && notSet iter && mSL G hot io N sc body l
    | _ => false
  | .while_ c body, st => match st with
    | .While x l [] p => !hot && mE G hot N sc c x && mSL G hot io N sc body l
    | _ => false
  | .raise c, st => match st with
    | .Raise (some (.Call (.Name n p') [.Constant (.str m) j p2] [] cp)) none p => !hot && decide (n = c) && glOk sc n && G.excs.contains n
    | _ => false
  | .try_ body c h, st => match st with
    | .Try l [.ExceptHandler (some (.Name n np)) none (b0 :: r) p'] [] [] p => !hot && decide (n = c) && glOk sc n && G.excs.contains n && mSL G hot io N sc body l && mSL G true io N sc h (b0 :: r)
    | _ => false
def mSL (G : GT) (hot io : Bool) (N : List Str) (sc : Scope) : SL → List Stmt → Bool
  | .nil, l => l.isEmpty
  | .cons s r, l => match l with
    | st :: l => mS G hot io N sc s st && mSL G hot io N sc r l
    | [] => false
end
structure SCtx (G : GT) (T : Tab) (n : Nat) (hot io : Bool) (N : List Str) (sc : Scope) (X : Cx) (B : List Base) (W : WX) : Prop where
  c : Ctx G T n hot N sc X W
  st : X.stack = X.env :: X.outer
  fr : X.env.frame = some X.env.locals
  ps : hot = false → PassesOwn (model X.prog X.w) X.A X.env X.xe
  kd : X.env.scope.kind = .function
  fn : ∀ x, X.fn x = true
  pin : io = false → ∀ b ∈ B, b.pin = none ∧ b.io = false
section
variable {G : GT} {T : Tab} {n : Nat} {io : Bool} {N : List Str} {sc : Scope}
theorem SCtx.slot {hot : Bool} {X : Cx} {B : List Base} {W : WX} (C : SCtx G T n hot io N sc X B W) {i : Nat} (h : slotOk io i = true) : i ≠ 0 ∨ ∀ b ∈ B, b.pin = none := by
  unfold slotOk at h
  cases io with
  | true => exact .inl (by simpa using h)
  | false => exact .inr fun b hb => (C.pin rfl b hb).1
theorem SCtx.asv {hot : Bool} {X : Cx} {B : List Base} {W : WX} (C : SCtx G T n hot io N sc X B W) {e : E} (h : asvOk io e = true) : (∀ y, e.asV = some y → y ≠ 0) ∨ ∀ b ∈ B, b.io = false := by
  cases hio : io with
  | false => exact .inr fun b hb => (C.pin hio b hb).2
  | true =>
    refine .inl fun y hy => ?_
    unfold asvOk at h
    rw [hy, hio] at h
    simpa [slotOk] using h
theorem SCtx.sto {hot : Bool} {X : Cx} {B : List Base} {W : WX} (C : SCtx G T n hot io N sc X B W) : ∀ x, blkSt sc x = true → Loc X.env.scope x ∧ (X.fn x = true ∨ X.env.scope.names.lookup x = some .local) := fun x h => by
  unfold blkSt at h
  simp only [Bool.or_eq_true, decide_eq_true_eq] at h
  refine ⟨?_, .inl (C.fn x)⟩
  rw [C.c.hsc]
  exact h
theorem SCtx.loop {hot : Bool} {X : Cx} {B : List Base} {W : WX} (C : SCtx G T n hot io N sc X B W) {b : Base} (h1 : b.io = false) (h2 : b.pin = none) : SCtx G T n hot io N sc X (b :: B) W :=
  ⟨C.c, C.st, C.fr, C.ps, C.kd, C.fn, fun z c hc => by
    rcases List.mem_cons.mp hc with e | hc
    · subst e; exact ⟨h2, h1⟩
    · exact C.pin z c hc⟩
theorem SCtx.tr {X : Cx} {B : List Base} {W W' : WX} (C : SCtx G T n false io N sc X B W) {pn : List (Addr × Obj)} {xe : Value → Shared → Prop} (tk : Takes (X.tr pn xe) W') (hp : PassesOwn (model X.prog X.w) X.A X.env xe) : SCtx G T n false io N sc (X.tr pn xe) B W' :=
  ⟨⟨⟨C.c.ct.blt, C.c.ct.const, C.c.ct.fn, C.c.ct.exc, C.c.ct.sub⟩, C.c.hN, C.c.hsc, C.c.nd, C.c.calm, C.c.room, C.c.units, tk⟩, C.st, C.fr, fun _ => hp, C.kd, C.fn, C.pin⟩
theorem SCtx.suite {X : Cx} {B : List Base} {W : WX} (C : SCtx G T n false io N sc X B W) {a : Addr} {pn : List (Addr × Obj)} : SCtx G T n true io N sc (X.suite a pn) B W0 :=
  ⟨⟨⟨C.c.ct.blt, C.c.ct.const, C.c.ct.fn, C.c.ct.exc, C.c.ct.sub⟩, C.c.hN, C.c.hsc, C.c.nd, fun z => (by cases z), fun z => (by cases z), C.c.units, takes0⟩, C.st, C.fr, fun z => (by cases z), C.kd, C.fn, C.pin⟩
theorem mE_v {hot : Bool} {e : E} {x : Expr} (h : mE G hot N sc e x = true) {X : Cx} {W : WX} (C : Ctx G T n hot N sc X W) : ∀ y, e.asV = some y → ∃ m p, x = .Name m p ∧ X.N[y]? = some m ∧ Vis X.env.scope m ∧ (m == ("__debug__" : Str)) = false ∧ (m == ("__classdict__" : Str)) = false := fun y hy => by
  cases e <;> first | (cases hy; done) | skip
  cases hy
  unfold mE at h
  split at h
  · simp only [Bool.and_eq_true, decide_eq_true_eq, Bool.not_eq_true'] at h
    obtain ⟨⟨⟨h1, h2⟩, h3⟩, h4⟩ := h
    exact ⟨_, _, rfl, by rw [C.hN]; exact h1, visOk_vis C h2, h3, h4⟩
  · cases h
end
end PD
set_option maxHeartbeats 4000000
namespace PD
open PySem PySem.Spec PyProof.Rows L2

section
variable {G : GT} {T : Tab} {n : Nat} {hot io : Bool} {N : List Str} {sc : Scope}
theorem mTg_one {st : StOk} {tg : Tg} {e : Expr} (h : mTg N st tg e = true) (env : Env) : (assignEach [e] env).map (·.2) = [assign e env] := by
  unfold mTg at h
  split at h
  · rfl
  · rfl
  · cases h
theorem tup_of {it : It} {iter tgE : Expr} (h4 : mI G hot N sc it iter tgE = true) (z : it.tp = true) : isTuple tgE = true := by
  cases it <;> first | (cases z; done) | skip
  all_goals (unfold mI at h4; split at h4 <;> first | (simp only [Bool.and_eq_true] at h4; exact h4.2) | cases h4)
/-- what a comprehension's parts are -/
theorem snd_setLc {i : Nat} {elt : E} {tg : Tg} {it : It} {cond : E} {own : List (Str × Nat)} {X : Cx} {B : List Base} {W : WX} {nm : Str} {p' p : Pos} {x : Expr} (C : Ctx G T n hot N sc X W) (hp : i ≠ 0 ∨ ∀ b ∈ B, b.pin = none) (hi : N[i]? = some nm) (kd : X.env.scope.kind = .function)
    (h : mE G hot N sc (.lc elt tg it cond own) x = true) (hs : swIs sc nm p' x = true) : PS X (.Assign [.Name nm p'] x p) (RSt X B W fun ρ => (ev T (.lc elt tg it cond own) ρ).toS ρ fun d t => .nx (put ρ i d t)) := by
  unfold mE at h
  split at h
  · rename_i elt' tgE iter ifs asy scope pos
    simp only [Bool.and_eq_true, decide_eq_true_eq, Bool.not_eq_true'] at h
    obtain ⟨⟨⟨⟨⟨⟨⟨⟨hh, rfl⟩, h1⟩, h2⟩, h3⟩, h4⟩, h5⟩, h6⟩, h7⟩ := h
    have hs : (decide (sc.names.lookup nm = some .local) && (p'.line == pos.line) && !(scope.names.any fun (m, k) => m == nm && (k == .local || k == .cell))) = true := hs
    simp only [Bool.and_eq_true, decide_eq_true_eq, Bool.not_eq_true'] at hs
    obtain ⟨⟨s1, s2⟩, s3⟩ := hs
    have hyl : X.env.scope.names.lookup nm = some .local := by rw [C.hsc]; exact s1
    have hsl : ∀ i ∈ tg.slots, i ∈ own.map (·.2) := fun i hi => List.contains_iff_mem.mp (List.all_eq_true.mp h5 i hi)
    have htp : it.tp = true → ∃ is, tg = .many is := fun z => by
      have ht : isTuple tgE = true := by
        cases it <;> first | (cases z; done) | skip
        all_goals (unfold mI at h3; split at h3 <;> first | (simp only [Bool.and_eq_true] at h3; exact h3.2) | cases h3)
      obtain ⟨es, k, p, rfl⟩ := isTuple_eq ht
      cases tg with
      | one i => cases h2
      | many is => exact ⟨is, rfl⟩
    refine rs_setLc (tp := it.tp) hp (by rw [C.hN]; exact hi) hyl (sw_true kd hyl s2 s3) (C.calm hh) (by rw [C.hN]; exact C.nd) (sndI it C h3 hh) htp hsl (by rw [C.hN, C.hsc]; exact blkOk_by h1) (fun s H Cc cl fp => ?_) (fun s H Cc cl fp => ?_) (fun s H Cc cl fp => (snd elt (C.blk s H scope Cc cl fp) h6).pe) (notSet_fold h4)
    · exact mTg_ok (X := X.blk s H scope (compEnvC scope cl Cc X.env) fp) C.nd C.hN (C.calm hh) (fun x hx => blkSt_ok C s H scope Cc cl fp x hx) h2
    · cases ifs with
      | nil =>
        have h7 : cond.isOmit = true := h7
        simp only [h7, if_true]
        exact ⟨fun pins s σ H Q I ⟨ρ, φ, S, q⟩ => pts_nil.run pins s σ H Q I (q H (Same.refl _))⟩
      | cons c r =>
        cases r with
        | nil =>
          have h7 : (!cond.isOmit && mE G hot N (relS scope sc) cond c) = true := h7
          simp only [Bool.and_eq_true, Bool.not_eq_true'] at h7
          simp only [h7.1, Bool.false_eq_true, if_false]
          exact pts_one (snd cond (C.blk s H scope Cc cl fp) h7.2).pt
        | cons _ _ => cases h7
  · cases h
theorem swIs_no {x : Expr} {nm : Str} {p' : Pos} {X : Cx} (hx : swOk x = true) (h : swIs X.env.scope nm p' x = false) (kd : X.env.scope.kind = .function) {l : Nat} : swapsWith x (some (.Name nm p')) l X.env = pure false := by
  cases x <;> first | rfl | (cases hx; done) | skip
  rename_i elt gs s p
  have h : (decide (X.env.scope.names.lookup nm = some .local) && (p'.line == p.line) && !(s.names.any fun (m, k) => m == nm && (k == .local || k == .cell))) = false := h
  have hb : X.env.blockKind = .function := by unfold Env.blockKind; rw [kd]; rfl
  have e : ((X.env.blockKind == .function) && (X.env.kindOf nm == some .local) && (p'.line == p.line) && !(s.names.any fun (m, k) => m == nm && (k == .local || k == .cell))) = false := by
    rw [hb]
    have : (X.env.kindOf nm == some .local) = decide (X.env.scope.names.lookup nm = some .local) := by
      show (X.env.scope.names.lookup nm == some .local) = _
      by_cases q : X.env.scope.names.lookup nm = some .local
      · rw [q]; rfl
      · rw [decide_eq_false q]; exact beq_eq_false_iff_ne.mpr q
    rw [this]
    simpa using h
  unfold swapsWith
  show (pure ((X.env.blockKind == .function) && (X.env.kindOf nm == some .local) && (p'.line == p.line) && !(s.names.any fun (m, k) => m == nm && (k == .local || k == .cell))) : Sem Bool) = _
  rw [e]
end
section
variable {G : GT} {T : Tab} {n : Nat} {io : Bool} {N : List Str} {sc : Scope}
mutual
theorem sndS : ∀ (s : S) {hot : Bool} {X : Cx} {B : List Base} {W : WX} {st : Stmt}, SCtx G T n hot io N sc X B W → mS G hot io N sc s st = true → PS X st (RSt X B W (exS T s))
  | .set i e, hot, X, B, W, st, C, h => by
    unfold mS at h
    split at h
    · rename_i nm p' x p
      simp only [Bool.and_eq_true, decide_eq_true_eq] at h
      obtain ⟨⟨⟨⟨h1, h2⟩, h3⟩, h4⟩, h5⟩ := h
      by_cases hs : swIs sc nm p' x = true
      · cases x <;> first | (cases hs; done) | skip
        cases e <;> first | (unfold mE at h4; cases h4; done) | skip
        all_goals first | exact snd_setLc C.c (C.slot h3) h1 C.kd h4 hs | (unfold mE at h4; simp at h4)
      · refine rs_set (C.slot h3) (by rw [C.c.hN]; exact C.c.nd) (by rw [C.c.hN]; exact h1) (C.sto _ h2).1 (C.sto _ h2).2 (snd e C.c h4).pe (swIs_no h5 ?_ C.kd)
        rw [C.c.hsc]
        exact Bool.eq_false_iff.mpr hs
    · cases h
  | .setT is e, hot, X, B, W, st, C, h => by
    unfold mS at h
    split at h
    · simp only [Bool.and_eq_true, Bool.not_eq_true'] at h
      obtain ⟨⟨⟨⟨⟨h1, h2⟩, h3⟩, h4⟩, h5⟩, h6⟩ := h
      exact rs_setT (fun i hi => C.slot (List.all_eq_true.mp h3 i hi)) (mTg_ok C.c.nd C.c.hN (C.c.calm h1) C.sto h2) (snd e C.c h4).pe h5 h6 (mTg_one h2 _)
    · cases h
  | .aug i o e, hot, X, B, W, st, C, h => by
    unfold mS at h
    split at h
    · simp only [Bool.and_eq_true, decide_eq_true_eq, Bool.or_eq_true] at h
      obtain ⟨⟨⟨⟨h1, h2⟩, h3⟩, h4⟩, h5⟩ := h
      exact rs_aug h5 (C.slot h3) (by rw [C.c.hN]; exact C.c.nd) (by rw [C.c.hN]; exact h1) (C.sto _ h2).1 (C.sto _ h2).2 (snd e C.c h4).pe
    · cases h
  | .ixset x i e, hot, X, B, W, st, C, h => by
    unfold mS at h
    cases h
  | .ixaug x i o e, hot, X, B, W, st, C, h => by
    unfold mS at h
    cases h
  | .mut m x es, hot, X, B, W, st, C, h => by
    unfold mS at h
    split at h
    · simp only [Bool.and_eq_true, decide_eq_true_eq, Bool.or_eq_true] at h
      obtain ⟨⟨⟨⟨⟨h1, rfl⟩, h2⟩, h3⟩, h4⟩, h5⟩ := h
      unfold nmOk at h1
      simp only [Bool.and_eq_true, decide_eq_true_eq, Bool.not_eq_true'] at h1
      obtain ⟨⟨⟨n1, n2⟩, n3⟩, n4⟩ := h1
      cases es with
      | nil => cases h2
      | cons e r =>
        cases r with
        | cons _ _ => cases h2
        | nil =>
          have h2 : (mE G hot N sc e _ && asvOk io e) = true := h2
          obtain ⟨h2, h6⟩ := Bool.and_eq_true_iff.mp h2
          rcases h5 with (rfl | rfl) | rfl
          · refine rs_append (x := x) (by rw [C.c.hN]; exact n1) (visOk_vis C.c n2) n3 n4 (rda_of (B := B) (W := W) (rt := false) (C.asv h6) (mE_v h2 C.c) (snd e C.c h2).pe) h3 (beq_iff_eq.mpr h4)
          · exact rs_remove (x := x) (by rw [C.c.hN]; exact n1) (visOk_vis C.c n2) n3 n4 (snd e C.c h2).pe h3 (beq_iff_eq.mpr h4)
          · exact rs_extend (x := x) (by rw [C.c.hN]; exact n1) (visOk_vis C.c n2) n3 n4 (snd e C.c h2).pe h3 (beq_iff_eq.mpr h4)
    · cases h
  | .ex e, hot, X, B, W, st, C, h => by
    unfold mS at h
    split at h
    · simp only [Bool.and_eq_true] at h
      exact rs_ex (snd e C.c h.1).pe (noLc_sw h.2)
    · cases h
  | .io f x es, hot, X, B, W, st, C, h => by
    unfold mS at h
    cases h
  | .ret e, hot, X, B, W, st, C, h => by
    unfold mS at h
    split at h
    · simp only [Bool.and_eq_true] at h
      exact rs_ret (rda_of (C.asv h.2) (mE_v h.1 C.c) (snd e C.c h.1).pe)
    · cases h
  | .ret0, hot, X, B, W, st, C, h => by
    unfold mS at h
    split at h
    · exact rs_ret0
    · cases h
  | .pass, hot, X, B, W, st, C, h => by
    unfold mS at h
    split at h
    · exact rs_next ps_pass
    · cases h
  | .brk, hot, X, B, W, st, C, h => by
    unfold mS at h
    split at h
    · exact rs_break
    · cases h
  | .cnt, hot, X, B, W, st, C, h => by
    unfold mS at h
    split at h
    · exact rs_cont
    · cases h
  | .ife c a b, hot, X, B, W, st, C, h => by
    unfold mS at h
    split at h
    · simp only [Bool.and_eq_true] at h
      exact rs_if (snd c C.c h.1.1).pt (sndSL a C h.1.2) (sndSL b C h.2)
    · cases h
  | .for_ tg it body, hot, X, B, W, st, C, h => by
    unfold mS at h
    split at h
    · simp only [Bool.and_eq_true, Bool.not_eq_true'] at h
      obtain ⟨⟨⟨⟨⟨h1, h2⟩, h3⟩, h4⟩, h5⟩, h6⟩ := h
      subst h1
      refine rs_for (tp := it.tp) (C.ps rfl) (C.c.calm rfl) (sndI it C.c h4 rfl) (fun z => ?_) (fun i hi => C.slot (List.all_eq_true.mp h3 i hi)) (mTg_ok C.c.nd C.c.hN (C.c.calm rfl) C.sto h2) ⟨fun pins s σ H D I ⟨b, b1, b2, b3, q⟩ => (sndSL body (C.loop b2 b3) h6).run pins s σ H D I q⟩ (notSet_fold h5)
      obtain ⟨es, k, p, rfl⟩ := isTuple_eq (tup_of h4 z)
      cases tg with
      | one i => cases h2
      | many is => exact ⟨is, rfl⟩
    · cases h
  | .while_ c body, hot, X, B, W, st, C, h => by
    unfold mS at h
    split at h
    · simp only [Bool.and_eq_true, Bool.not_eq_true'] at h
      obtain ⟨⟨h1, h2⟩, h3⟩ := h
      subst h1
      exact rs_while (C.ps rfl) (snd c C.c h2).pt (sndSL body C h3)
    · cases h
  | .raise c, hot, X, B, W, st, C, h => by
    unfold mS at h
    split at h
    · simp only [Bool.and_eq_true, decide_eq_true_eq, Bool.not_eq_true'] at h
      obtain ⟨⟨⟨h1, rfl⟩, h2⟩, h3⟩ := h
      obtain ⟨Ca, g1, g2, g3, g4, g5⟩ := C.c.ct.exc _ (List.contains_iff_mem.mp h3)
      obtain ⟨k1, k2⟩ := glOk_gl C.c h2
      exact rs_raise (C.c.calm h1) C.c.tk PySem.F.excBase_ValueError g2 g1 g3 (raises_own g4 g5) k1 k2
    · cases h
  | .try_ body c hd, hot, X, B, W, st, C, h => by
    unfold mS at h
    split at h
    · simp only [Bool.and_eq_true, decide_eq_true_eq, Bool.not_eq_true'] at h
      obtain ⟨⟨⟨⟨⟨h1, rfl⟩, h2⟩, h3⟩, h4⟩, h5⟩ := h
      subst h1
      obtain ⟨Ca, g1, g2, g3, g4, g5⟩ := C.c.ct.exc _ (List.contains_iff_mem.mp h3)
      obtain ⟨k1, k2⟩ := glOk_gl C.c h2
      exact rs_try (sub := fun c' => T.sub c' _) C.st C.fr ⟨k1, k2, .inl g1⟩ C.c.tk (fun c' C' b e1 e2 => C.c.ct.sub c' _ b e1 C' Ca e2 g1) (fun W' pn xe t1 t2 => sndSL body (C.tr t1 t2) h4) (fun a pn => sndSL hd C.suite h5)
    · cases h
theorem sndSL : ∀ (s : SL) {hot : Bool} {X : Cx} {B : List Base} {W : WX} {l : List Stmt}, SCtx G T n hot io N sc X B W → mSL G hot io N sc s l = true → PSs X l (RSt X B W (exSL T s))
  | .nil, hot, X, B, W, l, C, h => by
    unfold mSL at h
    cases l with
    | nil => exact rss_nil
    | cons _ _ => cases h
  | .cons s r, hot, X, B, W, l, C, h => by
    unfold mSL at h
    split at h
    · simp only [Bool.and_eq_true] at h
      exact rss_cons (sndS s C h.1) (sndSL r C h.2)
    · cases h
end
end
end PD
set_option maxHeartbeats 4000000
namespace PD
open PySem PySem.Spec PyProof.Rows L2

/-! ## defs -/
structure FnI where
  name : Str
  ps : List Str
  N : List Str
  st : Stmt
  sl : SL
def outOf : RS → Out
  | .nx _ => .ret .none .none
  | .rt d _ => .ret d .none
  | .ec c _ => .ex c .none
  | _ => .no
def startR (n : Nat) (ds : List PyData) : Rho := ds.map (fun d => Sl.of d (some [])) ++ List.replicate (n - ds.length) .un
/-- what the defs compute, calls going k deep -/
noncomputable def lev (D : List FnI) (sub : Str → Str → Option Bool) (consts : Nat → Option PyData) : Nat → Tab
  | 0 => ⟨fun _ _ => .no, fun _ => false, sub, consts⟩
  | k + 1 => ⟨fun f ds => match D[f]? with
    | some d => outOf (exSL (lev D sub consts k) d.sl (startR d.N.length ds))
    | none => .no, fun _ => false, sub, consts⟩
def scOk (N P : List Str) (sc : Scope) : Bool := sc.kind == .function && !sc.isCoroutine && !sc.isGenerator && decide N.Nodup && decide (N.take P.length = P) && P.all (fun x => decide (sc.names.lookup x = some .local) || decide (sc.names.lookup x = some .cell)) && sc.names.all fun y => decide (y.2 ≠ .free)
def FnI.ok (G : GT) (d : FnI) : Bool := scOk d.N d.ps (defScope d.st) && mSL G false false d.N (defScope d.st) d.sl (defBody d.st)
theorem scOk_ok {N P : List Str} {sc : Scope} (h : scOk N P sc = true) : FnScope N P sc := by
  unfold scOk at h
  simp only [Bool.and_eq_true, decide_eq_true_eq, Bool.not_eq_true'] at h
  obtain ⟨⟨⟨⟨⟨⟨h1, h2⟩, h3⟩, h4⟩, h5⟩, h6⟩, h7⟩ := h
  refine ⟨eq_of_beq h1, h2, h3, h4, h5, fun x hx => ?_, fun y hy => ?_⟩
  · have := List.all_eq_true.mp h6 x hx
    simpa using this
  · have := List.all_eq_true.mp h7 y hy
    simpa using this
abbrev FnP (K : PySem.W.Frag) (d : FnI) (f : Addr) (fd : FuncData) : Prop := FunD K d.name d.name (defArgs d.st) (defBody d.st) (defScope d.st) [] [] f fd
/-- what stands in the module -/
structure Facts (D : List FnI) (G : GT) (sub : Str → Str → Option Bool) (consts : Nat → Option PyData) (P : Program) (w : World) (K : PySem.W.Frag) (mg : Str → Option Value) : Prop where
  blt : ∀ x, x ∈ G.blts → mg x = none
  const : ∀ (k : Nat) (x : Str) (d : PyData), G.consts[k]? = some (x, d) → consts k = some d ∧ ∃ v u, mg x = some u ∧ RelV v u ∧ ∀ H, Rp K P w H v d []
  fns : G.fns = D.map fun d => (d.name, d.ps.length, false)
  fn : ∀ (f : Nat) (d : FnI), D[f]? = some d → ∃ a fd, FnP K d a fd ∧ mg d.name = some (.ref a) ∧ Binds K fd d.ps []
  ok : ∀ (f : Nat) (d : FnI), D[f]? = some d → d.ok G = true
  exc : ∀ x ∈ G.excs, ∃ C, mg x = some (.ref C) ∧ PySem.W.excIn K C He.veBase "ValueError.__new__" = true ∧ PySem.W.keepIn K (.ref C) = true ∧ PySem.W.subIn K (.ref C) (.type "BaseException") = some true ∧ PySem.W.typeIn K (.ref C) = some (.type "type")
  sub : ∀ (c c' : Str) (b : Bool), sub c c' = some b → ∀ C C', mg c = some (.ref C) → mg c' = some (.ref C') → PySem.W.exmOne K (.ref C) (.ref C') = some b
theorem lev_sub {D : List FnI} {sub : Str → Str → Option Bool} {consts : Nat → Option PyData} : ∀ {k : Nat}, (lev D sub consts k).sub = sub ∧ (lev D sub consts k).consts = consts ∧ (lev D sub consts k).io = fun _ => false
  | 0 => ⟨rfl, rfl, rfl⟩
  | _ + 1 => ⟨rfl, rfl, rfl⟩
section
variable {K : PySem.W.Frag} {P : Program} {w : World}
/-- at a def's start -/
theorem start_sta {H : Hp} {vs : List V} {ds : List PyData} {F : List Addr} {N : List Str} (h : RpL K P w H vs ds F) (hn : ds.length ≤ N.length) : ∃ φ, Sta K P w [⟨H, fun _ => False, false, false, none⟩] (L2.start N vs) H (startR N.length ds) φ := by
  classical
  have hl := h.length
  let φ : Fp := fun j => if q : ∃ G : List Addr, ∀ d, ds[j]? = some d → ∃ v, vs[j]? = some v ∧ Rp K P w H v d G then q.choose else []
  have hφ : ∀ {j : Nat} {d : PyData}, ds[j]? = some d → ∃ v, vs[j]? = some v ∧ Rp K P w H v d (φ j) := fun {j d} e => by
    obtain ⟨v, G, e1, r, _⟩ := h.get e
    have q : ∃ G : List Addr, ∀ d, ds[j]? = some d → ∃ v, vs[j]? = some v ∧ Rp K P w H v d G := ⟨G, fun d' e' => by
      rw [e] at e'
      cases e'
      exact ⟨v, e1, r⟩⟩
    have e2 : φ j = q.choose := dif_pos q
    rw [e2]
    exact q.choose_spec d e
  have hρ : ∀ {j : Nat} {s : Sl}, (startR N.length ds)[j]? = some s → s = .un ∨ ∃ d, ds[j]? = some d ∧ s = Sl.of d (some []) := fun {j s} e => by
    unfold startR at e
    by_cases hj : j < ds.length
    · rw [List.getElem?_append_left (by simpa using hj), List.getElem?_map] at e
      obtain ⟨d, e1, e2⟩ := Option.map_eq_some_iff.mp e
      exact .inr ⟨d, e1, e2.symm⟩
    · rw [List.getElem?_append_right (by simpa using hj)] at e
      obtain ⟨_, e1⟩ := List.getElem?_eq_some_iff.mp e
      rw [List.getElem_replicate] at e1
      exact .inl e1.symm
  have hol : ∀ {j : Nat} {s : Sl}, (startR N.length ds)[j]? = some s → s.ol = true → φ j = [] := fun {j s} e o => by
    rcases hρ e with z | ⟨d, e1, z⟩
    · subst z; cases o
    · subst z
      obtain ⟨v, _, r⟩ := hφ e1
      unfold Sl.of at o
      by_cases im : imm d = true
      · exact r.imm im
      · rw [if_neg im] at o; cases o
  refine ⟨φ, ?_, fun j s d e1 e2 => ?_, fun j s e o => ?_, fun j k s t e1 e2 _ _ o _ a _ => ?_, fun b hb => ?_, fun b hb j s e o _ a ha => ?_, fun b hb v e => ?_⟩
  · unfold startR L2.start
    simp [hl]
  · rcases hρ e1 with z | ⟨d', e3, z⟩
    · subst z; cases e2
    · subst z
      rw [Sl.of_val] at e2
      cases e2
      obtain ⟨v, k1, k2⟩ := hφ e3
      refine ⟨v, ?_, k2⟩
      unfold L2.start
      have hj := (List.getElem?_eq_some_iff.mp k1).1
      rw [List.getElem?_append_left (by simpa using hj), List.getElem?_map, k1]
      rfl
  · rw [hol e o]; simp
  · rw [hol e2 o]; simp
  · rw [List.mem_singleton.mp hb]; exact Chg.refl
  · rw [hol e o] at ha; simp at ha
  · rw [List.mem_singleton.mp hb] at e; cases e
/-- every def, at every depth -/
theorem fn_ok {D : List FnI} {G : GT} {sub : Str → Str → Option Bool} {consts : Nat → Option PyData} {mg : Str → Option Value} {base : Heap} (FF : Facts D G sub consts P w K mg) : ∀ (n f : Nat) (d : FnI) (a : Addr) (fd : FuncData), D[f]? = some d → FnP K d a fd → FnOk P w K mg base (L2.CX P w) n a fd d.ps (spD K P w mg d.ps.length ((lev D sub consts n).fn f))
  | 0, f, d, a, fd, hd, F => ⟨fun vs H Q E h => h.1, fun _ _ _ _ _ _ _ _ _ _ _ _ _ h => by obtain ⟨_, ds, F', _, q⟩ := h; exact q.elim⟩
  | n + 1, f, d, a, fd, hd, F => by
    have ok := FF.ok f d hd
    unfold FnI.ok at ok
    obtain ⟨ok1, ok2⟩ := Bool.and_eq_true_iff.mp ok
    have sc := scOk_ok ok1
    refine F.ok sc (fun vs H Q E h => h.1) fun cdv A outer s H vs Q E hr h => ?_
    obtain ⟨hl, ds, F', hrp, q⟩ := h
    let X : Cx := cxOf (L2.CX P w) P w K mg base d.N d.name (defScope d.st) a cdv A outer s H E
    let B : List Base := [⟨H, fun _ => False, false, false, none⟩]
    let W : WX := fun cls dd _ H => E cls dd H
    have C : SCtx G (lev D sub consts n) n false false d.N (defScope d.st) X B W := by
      refine ⟨⟨⟨FF.blt, fun k x d' e => ?_, fun f' x np io e => ?_, FF.exc, fun c c' b e => ?_⟩, rfl, rfl, sc.nd, fun _ => rfl, fun _ => hr, ?_, takes_of rfl rfl rfl rfl⟩, rfl, rfl, fun _ => passes_of rfl, sc.kind, fun _ => rfl, fun _ b hb => ?_⟩
      · rw [lev_sub.2.1]; exact FF.const k x d' e
      · rw [FF.fns, List.getElem?_map] at e
        obtain ⟨d', e1, e2⟩ := Option.map_eq_some_iff.mp e
        cases e2
        refine ⟨by rw [lev_sub.2.2], fun _ => ?_⟩
        obtain ⟨a', fd', g1, g2, g3⟩ := FF.fn f' d' e1
        exact ⟨a', fd', d'.ps, fn_ok FF n f' d' a' fd' e1 g1, g2, g1.kp, g3⟩
      · rw [lev_sub.1] at e; exact FF.sub c c' b e
      · have := hr.un
        show (A.deeper (envOfC d.name (defScope d.st) s.heap.objs.size a cdv)).units + 70 < cLine
        omega
      · rw [List.mem_singleton.mp hb]; exact ⟨rfl, rfl⟩
    have S := sndSL (B := B) d.sl C ok2
    refine ⟨_, S, ?_⟩
    have hN : ds.length ≤ d.N.length := by
      have h1 := hrp.length
      have h2 := sc.pre
      have h3 : (d.N.take d.ps.length).length = d.ps.length := by rw [h2]
      rw [List.length_take] at h3
      omega
    obtain ⟨φ, St⟩ := start_sta (N := d.N) hrp hN
    refine ⟨startR d.N.length ds, φ, St, ?_⟩
    have e : (lev D sub consts (n + 1)).fn f ds = outOf (exSL (lev D sub consts n) d.sl (startR d.N.length ds)) := by
      show (match D[f]? with
        | some d => outOf (exSL (lev D sub consts n) d.sl (startR d.N.length ds))
        | none => Out.no) = _
      rw [hd]
    rw [e] at q
    have same : ∀ {σ' : L2.St} {H' : Hp} {ρ' : Rho} {φ' : Fp}, Sta K P w B σ' H' ρ' φ' → Same H H' := fun {σ' H' ρ' φ'} S' x o e => (S'.chg _ (List.mem_singleton.mpr rfl)).1 x o e (.inl (fun z => z))
    cases hr' : exSL (lev D sub consts n) d.sl (startR d.N.length ds) with
    | nx ρ' =>
      rw [hr'] at q
      exact fun σ' H' φ' S' => q .non H' [] (same S') .non (by simp) List.nodup_nil
    | rt d' ρ' =>
      rw [hr'] at q
      refine fun v σ' H' φ' F'' S' r fr => q v H' F'' (same S') r (fun x hx => ⟨?_, fr.mu x hx⟩) fr.nd
      rcases fr.bs _ (List.mem_singleton.mpr rfl) (fun _ => rfl) x hx 0 with z | z
      · exact z
      · exact z.1.elim
    | ec c ρ' =>
      rw [hr'] at q
      exact fun σ' H' φ' S' C' e' => q C' H' e' (same S')
    | bk _ => rw [hr'] at q; exact q.elim
    | ct _ => rw [hr'] at q; exact q.elim
    | no => rw [hr'] at q; exact q.elim
end
end PD
set_option maxHeartbeats 4000000
namespace PD
open PySem PySem.Spec PyProof.Rows L2

/-! ## the head's facts -/
def BindOk (d : FnI) : Prop := ∀ (kV doc pm : Value) (an : Option Addr) (cdv ct : Value) (us : List Value), us.length = d.ps.length →
  bindArgs (PySem.W.fnOf d.name d.name (defArgs d.st) (defBody d.st) (defScope d.st) .none kV doc pm an cdv ct) ⟨us, []⟩ = pure (d.ps.zip us)
theorem all_nil {p : FnI → Prop} : ∀ d ∈ ([] : List FnI), p d := fun _ h => by simp at h
theorem all_cons {p : FnI → Prop} {d : FnI} {r : List FnI} (h : p d) (hr : ∀ d ∈ r, p d) : ∀ e ∈ d :: r, p e := fun e he => (List.mem_cons.mp he).elim (fun z => z ▸ h) (hr e)
def defD (d : FnI) : He.DefD := ⟨(d.name, none), d.name, d.name, defArgs d.st, defBody d.st, defScope d.st, [], []⟩
def conFa (p : Str × PyData) : He.Fa := match p.2 with
  | .int i => .int p.1 i
  | .str x => .str p.1 x
  | _ => .glo p.1
def conOk (p : Str × PyData) : Bool := match p.2 with
  | .int _ => true
  | .str _ => true
  | _ => false
def faOf (D : List FnI) (G : GT) (prs : List (Str × Str × Bool)) : List He.Fa :=
  D.map (fun d => .glo d.name) ++ (G.excs.map .glo ++ (G.excs.map .exc ++ (prs.map (fun p => .exm p.1 p.2.1 p.2.2) ++ (G.blts.map .free ++ G.consts.map conFa))))
def subOf (prs : List (Str × Str × Bool)) (c c' : Str) : Option Bool := (prs.find? fun p => decide (p.1 = c) && decide (p.2.1 = c')).map (·.2.2)
def conOf (G : GT) (k : Nat) : Option PyData := (G.consts[k]?).map (·.2)
section
variable {D : List FnI} {G : GT} {prs : List (Str × Str × Bool)} {P : Program} {w : World} {K : PySem.W.Frag} {h : Heap} {mg : Str → Option Value}
theorem facts_of (X : K.In h) (Gm : h.Ns mainGlobals mg) (c : He.SaysD (faOf D G prs) (D.map defD) K) (hb : ∀ d ∈ D, BindOk d) (hok : ∀ d ∈ D, d.ok G = true) (hG : G.fns = D.map fun d => (d.name, d.ps.length, false))
    (hc : ∀ p ∈ G.consts, conOk p = true) (hp : ∀ p ∈ prs, p.1 ∈ G.excs ∧ p.2.1 ∈ G.excs) : Facts D G (subOf prs) (conOf G) P w K mg := by
  have glo : ∀ x, x ∈ D.map FnI.name ∨ x ∈ G.excs → mg x = some (.ref (He.ga K x)) := fun x hx => by
    refine He.glo_ok X Gm (c.facts ?_)
    unfold faOf
    rcases hx with hx | hx
    · obtain ⟨d, hd, rfl⟩ := List.mem_map.mp hx
      exact List.mem_append_left _ (List.mem_map.mpr ⟨d, hd, rfl⟩)
    · exact List.mem_append_right _ (List.mem_append_left _ (List.mem_map.mpr ⟨x, hx, rfl⟩))
  refine ⟨fun x hx => ?_, fun k x d e => ?_, hG, fun f d e => ?_, fun f d e => hok d (List.mem_of_getElem? e), fun x hx => ?_, fun a b k e C C' h1 h2 => ?_⟩
  · refine He.free_ok X Gm (c.facts ?_)
    unfold faOf
    exact List.mem_append_right _ (List.mem_append_right _ (List.mem_append_right _ (List.mem_append_right _ (List.mem_append_left _ (List.mem_map.mpr ⟨x, hx, rfl⟩)))))
  · have hm := List.mem_of_getElem? e
    have hf : conFa (x, d) ∈ faOf D G prs := by
      unfold faOf
      exact List.mem_append_right _ (List.mem_append_right _ (List.mem_append_right _ (List.mem_append_right _ (List.mem_append_right _ (List.mem_map.mpr ⟨_, hm, rfl⟩)))))
    have hf := c.facts hf
    refine ⟨by unfold conOf; rw [e]; rfl, ?_⟩
    have ho := hc _ hm
    cases d with
    | int i =>
      obtain ⟨t, q⟩ := He.int_ok X Gm (x := x) (i := i) hf
      exact ⟨.int i, _, q, ⟨t, rfl⟩, fun H => .int i⟩
    | str z =>
      obtain ⟨t, q⟩ := He.str_ok X Gm (x := x) (z := z) hf
      exact ⟨.str z, _, q, ⟨t, rfl⟩, fun H => .str z⟩
    | _ => cases ho
  · have hd := List.mem_of_getElem? e
    obtain ⟨fd, F⟩ := c.defs (d := defD d) (List.mem_map.mpr ⟨d, hd, rfl⟩)
    have F' : FnP K d (He.ga K d.name) fd := F
    exact ⟨_, fd, F', glo _ (.inl (List.mem_map.mpr ⟨d, hd, rfl⟩)), FunD.bindsN F' fun kV doc pm an cdv ct us hl => hb d hd kV doc pm an cdv ct us hl⟩
  · obtain ⟨q1, q2, q3, q4⟩ := He.exc_ok (c.facts (f := .exc x) (by
      unfold faOf
      exact List.mem_append_right _ (List.mem_append_right _ (List.mem_append_left _ (List.mem_map.mpr ⟨x, hx, rfl⟩)))))
    exact ⟨_, glo _ (.inr hx), q1, q2, q3, q4⟩
  · unfold subOf at e
    obtain ⟨p, e1, e2⟩ := Option.map_eq_some_iff.mp e
    have hm := List.mem_of_find?_eq_some e1
    have hq := List.find?_some e1
    simp only [Bool.and_eq_true, decide_eq_true_eq] at hq
    obtain ⟨rfl, rfl⟩ := hq
    subst e2
    obtain ⟨k1, k2⟩ := hp p hm
    have q := He.exm_ok (c.facts (f := .exm p.1 p.2.1 p.2.2) (by
      unfold faOf
      exact List.mem_append_right _ (List.mem_append_right _ (List.mem_append_right _ (List.mem_append_left _ (List.mem_map.mpr ⟨p, hm, rfl⟩))))))
    rw [glo _ (.inr k1)] at h1
    rw [glo _ (.inr k2)] at h2
    cases h1
    cases h2
    exact q
/-- a law lets nothing out -/
theorem fn_law {base : Heap} {k : Nat} {f : Addr} {fd : FuncData} {ps : List Str} {sp : Sp} (F : FnOk P w K mg base (L2.CX P w) k f fd ps sp) : FnOk P w K mg base CX0 k f fd ps (fun vs H Q _ => sp vs H Q fun _ _ _ => False) := by
  refine ⟨fun vs H Q E q => F.len vs H Q _ q, fun A outer s H args us vs Q E hr he hb hv hs => ?_⟩
  have go := F.run A outer s H args us vs Q (fun _ _ _ => False) hr he hb hv hs
  have imp : ∀ r s', CR (L2.CX P w) outer P w H s Q (fun _ _ _ => False) r s' → CR CX0 outer P w H s Q E r s' := fun r s' q => by
    cases r with
    | ok fl => cases fl <;> exact q
    | error e =>
      obtain ⟨a, Bh, H', cls, d, _, _, _, _, _, _, _, z⟩ := q
      exact z.elim
  exact codeAny_mono go imp
theorem law_facts {fa : Addr} {x : Str} (X : K.In h) (Gm : h.Ns mainGlobals mg) (hfa : mg ("law" : Str) = some (.ref fa)) (FF : Facts D G (subOf prs) (conOf G) P w K mg) (n f : Nat) (d : FnI) (hd : D[f]? = some d) (hb : BindOk d) (hn : d.name = "law") (hp : d.ps = [x])
    (hv : ∀ ns : List Int, ns.length ≤ 63 → ∃ io, (lev D (subOf prs) (conOf G) n).fn f [.dict [(.none, .list (ns.map .int))]] = .ret (.bool true) io) :
    ∃ (fd : FuncData) (sp : Sp), (∀ (s : Shared) (v : Value), BindsTo s fd ⟨[v], []⟩ [(x, v)]) ∧ (∀ (H : Hp) (a : Addr) (ns : List Int), ns.length ≤ 63 → Only H → SqL K H a (ns.map V.int) → sp [.ref a] H (fun v _ => v = .bl true) fun _ _ _ => False) ∧
      ∀ base : Heap, K.In base → base.Ns mainGlobals mg → FnOk P w K mg base CX0 n fa fd [x] sp := by
  obtain ⟨a, fd, F, g1, g2⟩ := FF.fn f d hd
  rw [hn, hfa] at g1
  cases g1
  refine ⟨fd, fun vs H Q _ => spD K P w mg 1 ((lev D (subOf prs) (conOf G) n).fn f) vs H Q fun _ _ _ => False, fun s v => ?_, fun H a ns hl hO hS => ?_, fun base _ _ => ?_⟩
  · have := FunD.bindsA (ps := d.ps) F (fun kV doc pm an cdv ct us hl => hb kV doc pm an cdv ct us hl) s [v] (by rw [hp]; rfl)
    rw [hp] at this
    exact this
  rotate_left
  · have q := fn_ok (base := base) FF n f d fa fd hd F
    rw [hp] at q
    exact fn_law q
  · obtain ⟨io, e⟩ := hv ns hl
    have rp : Rp K P w H (.ref a) (.dict [(.none, .list (ns.map .int))]) [] := by
      refine .fz ?_
      rcases hS with (z | ⟨o, z⟩) | z
      · rcases hO a with q | ⟨o, xs, q⟩
        · rw [q] at z; cases z
        · rw [q] at z; cases z
      · exact .inl ⟨o, z⟩
      · exact .inr z
    refine ⟨rfl, [.dict [(.none, .list (ns.map .int))]], [] ++ [], .cons rp .nil, ?_⟩
    rw [e]
    intro v H' G' _ r _ _
    cases r
    rfl
end
end PD
set_option maxHeartbeats 4000000
namespace PF
open PySem PD
def sl_is_within_28da31 : PD.SL :=
 (.cons (.ret (.and2 (.isi (.v 0) .int) (.and2 (.not1 (.isi (.v 0) .bool)) (.one (.chain .le .le (.v 1) (.v 0) (.v 2))))))
 .nil)
def sl_is_kind_527e9e (c_is_within g_KINDS : Nat) : PD.SL :=
 (.cons (.ret (.call c_is_within (.cons (.v 0) (.cons (.c (.int 0)) (.cons (.bin .sub (.g g_KINDS) (.c (.int 1))) .nil)))))
 .nil)
def sl_are_tiles_abae20 (c_is_kind g_MOST : Nat) : PD.SL :=
 (.cons (.ife (.or2 (.not1 (.isi (.v 0) .tuple)) (.one (.lc (.v 1) (.one 1) (.ex (.v 0)) (.not1 (.call c_is_kind (.cons (.v 1) .nil))) [("one", 1)])))
  (.cons (.ret (.c (.bool false)))
  .nil)
  .nil)
 (.cons (.for_ (.many [1, 2]) (.zip (.v 0) (.sl (.v 0) (.c (.int 1)) .omit))
  (.cons (.ife (.cmp .gt (.v 1) (.v 2))
   (.cons (.ret (.c (.bool false)))
   .nil)
   .nil)
  .nil))
 (.cons (.ret (.not1 (.lc (.v 1) (.one 1) (.ex (.v 0)) (.cmp .gt (.me .count (.v 0) (.cons (.v 1) .nil)) (.g g_MOST)) [("one", 1)])))
 .nil)))
def sl_checked_eba4db (c_are_tiles g_MOST_TILES : Nat) : PD.SL :=
 (.cons (.ife (.or2 (.not1 (.call c_are_tiles (.cons (.v 0) .nil))) (.one (.not1 (.chain .le .le (.c (.int 1)) (.bi .len (.cons (.v 0) .nil)) (.g g_MOST_TILES)))))
  (.cons (.raise "BadHand")
  .nil)
  .nil)
 (.cons (.ret (.v 0))
 .nil))
def sl_with_tile_0ad879 : PD.SL :=
 (.cons (.ret (.bi .tuple (.cons (.bi .sorted (.cons (.bin .add (.v 0) (.tup (.cons (.v 1) .nil))) .nil)) .nil)))
 .nil)
def sl_without_tile_f7f35a : PD.SL :=
 (.cons (.set 2 (.me .index (.v 0) (.cons (.v 1) .nil)))
 (.cons (.ret (.bin .add (.sl (.v 0) .omit (.v 2)) (.sl (.v 0) (.bin .add (.v 2) (.c (.int 1))) .omit)))
 .nil))
def sl_put_in_94a850 (c_checked c_is_kind c_with_tile : Nat) : PD.SL :=
 (.cons (.ex (.call c_checked (.cons (.v 0) .nil)))
 (.cons (.ife (.not1 (.call c_is_kind (.cons (.v 1) .nil)))
  (.cons (.raise "BadHand")
  .nil)
  .nil)
 (.cons (.ret (.call c_checked (.cons (.call c_with_tile (.cons (.v 0) (.cons (.v 1) .nil))) .nil)))
 .nil)))
def sl_taken_out_87a023 (c_checked c_is_kind c_without_tile : Nat) : PD.SL :=
 (.cons (.ex (.call c_checked (.cons (.v 0) .nil)))
 (.cons (.ife (.or2 (.not1 (.call c_is_kind (.cons (.v 1) .nil))) (.or2 (.cmp .notin (.v 1) (.v 0)) (.one (.cmp .eq (.bi .len (.cons (.v 0) .nil)) (.c (.int 1))))))
  (.cons (.raise "BadHand")
  .nil)
  .nil)
 (.cons (.ret (.call c_without_tile (.cons (.v 0) (.cons (.v 1) .nil))))
 .nil)))
def sl__law_cell_736ffd : PD.SL :=
 (.cons (.ife (.cmp .lt (.v 1) (.bi .len (.cons (.v 0) .nil)))
  (.cons (.ret (.ix (.v 0) (.v 1)))
  .nil)
  .nil)
 (.cons (.ret (.c (.int 0)))
 .nil))
def sl__law_mix_83d9e8 : PD.SL :=
 (.cons (.ret (.bin .mod (.bin .mod (.bin .pow (.bin .mod (.bin .mul (.v 0) (.c (.int 48271))) (.v 1)) (.c (.int 3))) (.v 1)) (.v 2)))
 .nil)
def sl__law_seed_50671f : PD.SL :=
 (.cons (.ret (.bin .mod (.bin .pow (.bin .mod (.bin .add (.bin .add (.bin .mul (.v 0) (.c (.int 1103515245))) (.bin .mul (.c (.int 7919)) (.v 1))) (.c (.int 12345))) (.c (.int 2147483647))) (.c (.int 5))) (.c (.int 2147483647))))
 .nil)
def sl__law_pick_3feff9 : PD.SL :=
 (.cons (.ret (.bin .mod (.bin .fdiv (.v 0) (.c (.int 97))) (.v 1)))
 .nil)
def sl__law_sets_97e411 : PD.SL :=
 (.cons (.set 0 (.lc (.tup (.cons (.c (.str "run")) (.cons (.v 1) .nil))) (.one 1) (.rng (.c (.int 18))) (.cmp .lt (.bin .mod (.v 1) (.c (.int 6))) (.c (.int 4))) [("_law_kind", 1)]))
 (.cons (.ret (.bin .add (.v 0) (.lc (.tup (.cons (.c (.str "three")) (.cons (.v 1) .nil))) (.one 1) (.rng (.c (.int 21))) .omit [("_law_kind", 1)])))
 .nil))
def sl__law_tiles_639140 : PD.SL :=
 (.cons (.ret (.ife (.cmp .eq (.ix (.v 0) (.c (.int 0))) (.c (.str "run"))) (.lst (.cons (.ix (.v 0) (.c (.int 1))) (.cons (.bin .add (.ix (.v 0) (.c (.int 1))) (.c (.int 1))) (.cons (.bin .add (.ix (.v 0) (.c (.int 1))) (.c (.int 2))) .nil)))) (.bin .mul (.lst (.cons (.ix (.v 0) (.c (.int 1))) .nil)) (.c (.int 3)))))
 .nil)
def sl__law_hand_31719a (c__law_tiles c__law_sets c__law_pick c__law_seed : Nat) : PD.SL :=
 (.cons (.set 3 (.bi .listRange1 (.cons (.c (.int 21)) .nil)))
 (.cons (.ife (.cmp .gt (.bin .mod (.v 2) (.c (.int 3))) (.c (.int 0)))
  (.cons (.set 3 (.bin .add (.lc (.bin .add (.bin .mul (.bin .mod (.bin .fdiv (.v 0) (.c (.int 11))) (.c (.int 3))) (.c (.int 6))) (.v 4)) (.one 4) (.rng (.c (.int 6))) .omit [("_law_k", 4)]) (.lst (.cons (.bin .add (.c (.int 18)) (.bin .mod (.bin .fdiv (.v 0) (.c (.int 7))) (.c (.int 3)))) .nil))))
  .nil)
  .nil)
 (.cons (.set 5 (.lst .nil))
 (.cons (.ife (.cmp .eq (.bin .mod (.v 2) (.c (.int 3))) (.c (.int 2)))
  (.cons (.for_ (.one 4) (.rng (.bin .fdiv (.v 1) (.c (.int 3))))
   (.cons (.set 5 (.bin .add (.v 5) (.call c__law_tiles (.cons (.ix (.call c__law_sets .nil) (.call c__law_pick (.cons (.call c__law_seed (.cons (.v 0) (.cons (.v 4) .nil))) (.cons (.c (.int 33)) .nil)))) .nil))))
   .nil))
  (.cons (.set 5 (.bin .add (.v 5) (.bin .mul (.lst (.cons (.call c__law_pick (.cons (.call c__law_seed (.cons (.v 0) (.cons (.c (.int 9)) .nil))) (.cons (.c (.int 21)) .nil))) .nil)) (.ife (.cmp .eq (.bin .mod (.v 1) (.c (.int 3))) (.c (.int 2))) (.c (.int 2)) (.c (.int 0))))))
  (.cons (.set 5 (.sl (.v 5) (.bin .mod (.bin .fdiv (.v 0) (.c (.int 13))) (.c (.int 3))) .omit))
  .nil)))
  .nil)
 (.cons (.set 5 (.lc (.v 6) (.many [4, 6]) (.enu (.v 5)) (.cmp .lt (.me .count (.sl (.v 5) .omit (.v 4)) (.cons (.v 6) .nil)) (.c (.int 4))) [("_law_k", 4), ("_law_one", 6)]))
 (.cons (.set 4 (.c (.int 0)))
 (.cons (.while_ (.cmp .lt (.bi .len (.cons (.v 5) .nil)) (.v 1))
  (.cons (.set 6 (.ix (.v 3) (.bin .mod (.bin .add (.call c__law_pick (.cons (.call c__law_seed (.cons (.v 0) (.cons (.bin .add (.c (.int 40)) (.v 4)) .nil))) (.cons (.bi .len (.cons (.v 3) .nil)) .nil))) (.bin .fdiv (.v 4) (.c (.int 60)))) (.bi .len (.cons (.v 3) .nil)))))
  (.cons (.aug 4 .add (.c (.int 1)))
  (.cons (.ife (.cmp .lt (.me .count (.v 5) (.cons (.v 6) .nil)) (.c (.int 4)))
   (.cons (.mut .append 5 (.cons (.v 6) .nil))
   .nil)
   .nil)
  .nil))))
 (.cons (.ret (.bi .tuple (.cons (.bi .sorted (.cons (.v 5) .nil)) .nil)))
 .nil))))))))
def sl_law_16f7e6 (c__law_hand c__law_cell c__law_seed c__law_mix c_checked c_put_in c_taken_out : Nat) : PD.SL :=
 (.cons (.set 1 (.call c__law_hand (.cons (.call c__law_seed (.cons (.call c__law_cell (.cons (.v 0) (.cons (.c (.int 0)) .nil))) (.cons (.c (.int 0)) .nil))) (.cons (.bin .add (.c (.int 1)) (.bin .mod (.call c__law_cell (.cons (.v 0) (.cons (.c (.int 1)) .nil))) (.c (.int 11)))) (.cons (.call c__law_cell (.cons (.v 0) (.cons (.c (.int 2)) .nil))) .nil)))))
 (.cons (.set 2 (.call c__law_mix (.cons (.call c__law_cell (.cons (.v 0) (.cons (.c (.int 3)) .nil))) (.cons (.c (.int 9949)) (.cons (.c (.int 21)) .nil)))))
 (.cons (.ife (.cmp .ne (.call c_checked (.cons (.v 1) .nil)) (.v 1))
  (.cons (.ret (.c (.bool false)))
  .nil)
  .nil)
 (.cons (.set 3 (.lst .nil))
 (.cons (.for_ (.one 4) (.rng (.c (.int 2)))
  (.cons (.try_ (.cons (.mut .append 3 (.cons (.ife (.cmp .eq (.v 4) (.c (.int 0))) (.call c_put_in (.cons (.v 1) (.cons (.v 2) .nil))) (.call c_taken_out (.cons (.v 1) (.cons (.v 2) .nil)))) .nil))
   .nil) "BadHand"
   (.cons (.mut .append 3 (.cons (.c .none) .nil))
   .nil))
  .nil))
 (.cons (.set 5 (.ife (.and2 (.cmp .lt (.me .count (.v 1) (.cons (.v 2) .nil)) (.c (.int 4))) (.one (.cmp .lt (.bi .len (.cons (.v 1) .nil)) (.c (.int 11))))) (.bi .tuple (.cons (.bi .sorted (.cons (.bin .add (.v 1) (.tup (.cons (.v 2) .nil))) .nil)) .nil)) (.c .none)))
 (.cons (.set 6 (.bi .list (.cons (.v 1) .nil)))
 (.cons (.ife (.cmp .in_ (.v 2) (.v 6))
  (.cons (.mut .remove 6 (.cons (.v 2) .nil))
  .nil)
  .nil)
 (.cons (.ife (.cmp .ne (.v 3) (.lst (.cons (.v 5) (.cons (.ife (.chain .lt .lt (.c (.int 0)) (.bi .len (.cons (.v 6) .nil)) (.bi .len (.cons (.v 1) .nil))) (.bi .tuple (.cons (.v 6) .nil)) (.c .none)) .nil))))
  (.cons (.ret (.c (.bool false)))
  .nil)
  .nil)
 (.cons (.set 7 (.lst (.cons (.tup .nil) (.cons (.bi .list (.cons (.v 1) .nil)) (.cons (.c .none) (.cons (.bin .mul (.sl (.v 1) .omit (.c (.int 1))) (.c (.int 5))) (.cons (.tup (.cons (.c (.int 3)) (.cons (.c (.int 2)) .nil))) (.cons (.tup (.cons (.c (.int 21)) .nil)) (.cons (.tup (.cons (.neg (.c (.int 1))) .nil)) (.cons (.tup (.cons (.c (.bool true)) .nil)) (.cons (.tup (.cons (.c (.str "1")) .nil)) (.cons (.c (.int 7)) .nil))))))))))))
 (.cons (.mut .append 7 (.cons (.bi .tuple (.cons (.lc (.bin .fdiv (.v 8) (.c (.int 2))) (.one 8) (.rng (.c (.int 12))) .omit [("_law_k", 8)]) .nil)) .nil))
 (.cons (.set 9 (.ix (.v 7) (.bin .mod (.call c__law_cell (.cons (.v 0) (.cons (.c (.int 4)) .nil))) (.c (.int 11)))))
 (.cons (.set 10 (.c (.int 0)))
 (.cons (.for_ (.one 4) (.rng (.c (.int 4)))
  (.cons (.try_ (.cons (.ife (.cmp .eq (.v 4) (.c (.int 0)))
    (.cons (.ex (.call c_checked (.cons (.v 9) .nil)))
    .nil)
    (.cons (.ife (.cmp .eq (.v 4) (.c (.int 1)))
     (.cons (.ex (.call c_put_in (.cons (.v 9) (.cons (.v 2) .nil))))
     .nil)
     (.cons (.ife (.cmp .eq (.v 4) (.c (.int 2)))
      (.cons (.ex (.call c_taken_out (.cons (.v 9) (.cons (.v 2) .nil))))
      .nil)
      (.cons (.set 11 (.ix (.lst (.cons (.c (.int 21)) (.cons (.neg (.c (.int 1))) (.cons (.c .none) (.cons (.c (.str "1")) (.cons (.c (.bool true)) .nil)))))) (.bin .mod (.call c__law_cell (.cons (.v 0) (.cons (.c (.int 3)) .nil))) (.c (.int 5)))))
      (.cons (.ex (.call c_put_in (.cons (.sl (.v 1) .omit (.c (.int 1))) (.cons (.v 11) .nil))))
      .nil)))
     .nil))
    .nil))
   .nil) "BadHand"
   (.cons (.aug 10 .add (.c (.int 1)))
   .nil))
  .nil))
 (.cons (.ret (.cmp .eq (.v 10) (.c (.int 4))))
 .nil)))))))))))))))
def sl_begins_run_99955b (g_RANKS g_SUITED : Nat) : PD.SL :=
 (.cons (.ret (.and2 (.cmp .lt (.v 0) (.g g_SUITED)) (.one (.cmp .lt (.bin .mod (.v 0) (.g g_RANKS)) (.bin .sub (.g g_RANKS) (.c (.int 2)))))))
 .nil)
def sl_tiles_of_7334a7 : PD.SL :=
 (.cons (.setT [1, 2] (.v 0))
 (.cons (.ife (.cmp .eq (.v 1) (.c (.str "run")))
  (.cons (.ret (.lst (.cons (.v 2) (.cons (.bin .add (.v 2) (.c (.int 1))) (.cons (.bin .add (.v 2) (.c (.int 2))) .nil)))))
  .nil)
  .nil)
 (.cons (.ret (.bin .mul (.lst (.cons (.v 2) .nil)) (.ife (.cmp .eq (.v 1) (.c (.str "three"))) (.c (.int 3)) (.c (.int 2)))))
 .nil)))
def sl_is_set_56e43c (c_is_kind c_begins_run : Nat) : PD.SL :=
 (.cons (.ife (.or2 (.not1 (.isi (.v 0) .tuple)) (.or2 (.cmp .ne (.bi .len (.cons (.v 0) .nil)) (.c (.int 2))) (.or2 (.not1 (.isi (.ix (.v 0) (.c (.int 0))) .str)) (.one (.not1 (.call c_is_kind (.cons (.ix (.v 0) (.c (.int 1))) .nil)))))))
  (.cons (.ret (.c (.bool false)))
  .nil)
  .nil)
 (.cons (.ret (.or2 (.cmp .eq (.ix (.v 0) (.c (.int 0))) (.c (.str "three"))) (.one (.and2 (.cmp .eq (.ix (.v 0) (.c (.int 0))) (.c (.str "run"))) (.one (.call c_begins_run (.cons (.ix (.v 0) (.c (.int 1))) .nil)))))))
 .nil))
def sl_is_form_fb7cc3 (c_is_kind c_is_set : Nat) : PD.SL :=
 (.cons (.ife (.or2 (.not1 (.isi (.v 0) .tuple)) (.or2 (.cmp .ne (.bi .len (.cons (.v 0) .nil)) (.c (.int 2))) (.or2 (.not1 (.call c_is_kind (.cons (.ix (.v 0) (.c (.int 0))) .nil))) (.one (.not1 (.isi (.ix (.v 0) (.c (.int 1))) .tuple))))))
  (.cons (.ret (.c (.bool false)))
  .nil)
  .nil)
 (.cons (.ret (.and2 (.not1 (.lc (.v 1) (.one 1) (.ex (.ix (.v 0) (.c (.int 1)))) (.not1 (.call c_is_set (.cons (.v 1) .nil))) [("one", 1)])) (.one (.cmp .eq (.bi .tuple (.cons (.bi .sorted (.cons (.ix (.v 0) (.c (.int 1))) .nil)) .nil)) (.ix (.v 0) (.c (.int 1)))))))
 .nil))
def sl_tiles_in_0e21f6 (c_tiles_of : Nat) : PD.SL :=
 (.cons (.set 1 (.lst (.cons (.ix (.v 0) (.c (.int 0))) (.cons (.ix (.v 0) (.c (.int 0))) .nil))))
 (.cons (.for_ (.one 2) (.ex (.ix (.v 0) (.c (.int 1))))
  (.cons (.mut .extend 1 (.cons (.call c_tiles_of (.cons (.v 2) .nil)) .nil))
  .nil))
 (.cons (.ret (.bi .tuple (.cons (.bi .sorted (.cons (.v 1) .nil)) .nil)))
 .nil)))
def sl_is_parting_e232ec (c_checked c_tiles_in c_is_form : Nat) : PD.SL :=
 (.cons (.ex (.call c_checked (.cons (.v 0) .nil)))
 (.cons (.ret (.and2 (.call c_is_form (.cons (.v 1) .nil)) (.one (.cmp .eq (.call c_tiles_in (.cons (.v 1) .nil)) (.v 0)))))
 .nil))
def sl__law_all_76c748 (c__law_sets c__law_tiles c__law_all : Nat) : PD.SL :=
 (.cons (.ife (.cmp .eq (.v 0) (.lst .nil))
  (.cons (.ret (.lst (.cons (.tup .nil) .nil)))
  .nil)
  .nil)
 (.cons (.set 2 (.lst .nil))
 (.cons (.set 3 (.call c__law_sets .nil))
 (.cons (.for_ (.one 4) (.rng2 (.v 1) (.c (.int 33)))
  (.cons (.set 5 (.bi .list (.cons (.v 0) .nil)))
  (.cons (.for_ (.one 6) (.ex (.call c__law_tiles (.cons (.ix (.v 3) (.v 4)) .nil)))
   (.cons (.ife (.cmp .in_ (.v 6) (.v 5))
    (.cons (.mut .remove 5 (.cons (.v 6) .nil))
    .nil)
    .nil)
   .nil))
  (.cons (.ife (.cmp .eq (.bi .len (.cons (.v 5) .nil)) (.bin .sub (.bi .len (.cons (.v 0) .nil)) (.c (.int 3))))
   (.cons (.set 2 (.bin .add (.v 2) (.lc (.bin .add (.tup (.cons (.ix (.v 3) (.v 4)) .nil)) (.v 7)) (.one 7) (.ex (.call c__law_all (.cons (.v 5) (.cons (.v 4) .nil)))) .omit [("_law_row", 7)])))
   .nil)
   .nil)
  .nil))))
 (.cons (.ret (.v 2))
 .nil)))))
def sl__law_partings_a189fe (c__law_all : Nat) : PD.SL :=
 (.cons (.set 1 (.lst .nil))
 (.cons (.for_ (.one 2) (.ex (.bi .sortedSet (.cons (.v 0) .nil)))
  (.cons (.set 3 (.bi .list (.cons (.v 0) .nil)))
  (.cons (.mut .remove 3 (.cons (.v 2) .nil))
  (.cons (.ife (.cmp .in_ (.v 2) (.v 3))
   (.cons (.mut .remove 3 (.cons (.v 2) .nil))
   (.cons (.set 1 (.bin .add (.v 1) (.lc (.tup (.cons (.v 2) (.cons (.v 4) .nil))) (.one 4) (.ex (.call c__law_all (.cons (.v 3) (.cons (.c (.int 0)) .nil)))) .omit [("_law_sets_here", 4)])))
   .nil))
   .nil)
  .nil))))
 (.cons (.ret (.v 1))
 .nil)))
def sl_law_d04ccc (c__law_cell c__law_hand c__law_seed c__law_partings c__law_mix c_is_parting : Nat) : PD.SL :=
 (.cons (.set 1 (.ix (.lst (.cons (.c (.int 2)) (.cons (.c (.int 5)) (.cons (.c (.int 8)) (.cons (.c (.int 11)) .nil))))) (.bin .mod (.call c__law_cell (.cons (.v 0) (.cons (.c (.int 0)) .nil))) (.c (.int 4)))))
 (.cons (.set 2 (.call c__law_hand (.cons (.call c__law_seed (.cons (.call c__law_cell (.cons (.v 0) (.cons (.c (.int 1)) .nil))) (.cons (.c (.int 0)) .nil))) (.cons (.v 1) (.cons (.c (.int 2)) .nil)))))
 (.cons (.set 3 (.bin .add (.bin .add (.call c__law_partings (.cons (.v 2) .nil)) (.call c__law_partings (.cons (.call c__law_hand (.cons (.call c__law_seed (.cons (.call c__law_cell (.cons (.v 0) (.cons (.c (.int 3)) .nil))) (.cons (.c (.int 1)) .nil))) (.cons (.v 1) (.cons (.c (.int 2)) .nil)))) .nil))) (.lst (.cons (.tup (.cons (.c (.int 3)) (.cons (.tup .nil) .nil))) .nil))))
 (.cons (.setT [4, 5] (.ix (.v 3) (.call c__law_mix (.cons (.call c__law_cell (.cons (.v 0) (.cons (.c (.int 2)) .nil))) (.cons (.c (.int 9949)) (.cons (.bi .len (.cons (.v 3) .nil)) .nil))))))
 (.cons (.set 6 (.lst (.cons (.tup (.cons (.v 4) (.cons (.v 5) .nil))) (.cons (.tup (.cons (.v 4) (.cons (.bi .list (.cons (.v 5) .nil)) .nil))) (.cons (.tup (.cons (.v 4) (.cons (.rev (.v 5)) .nil))) (.cons (.tup (.cons (.c (.int 21)) (.cons (.v 5) .nil))) (.cons (.tup (.cons (.c (.bool true)) (.cons (.v 5) .nil))) (.cons (.c .none) (.cons (.lst (.cons (.v 4) (.cons (.v 5) .nil))) .nil)))))))))
 (.cons (.set 6 (.bin .add (.v 6) (.lst (.cons (.tup (.cons (.v 4) (.cons (.bin .add (.v 5) (.tup (.cons (.tup (.cons (.c (.str "run")) (.cons (.c (.int 4)) .nil))) .nil))) .nil))) (.cons (.tup (.cons (.v 4) (.cons (.bin .add (.v 5) (.tup (.cons (.tup (.cons (.c (.str "two")) (.cons (.c (.int 3)) .nil))) .nil))) .nil))) (.cons (.tup (.cons (.v 4) (.cons (.v 5) (.cons (.tup .nil) .nil)))) (.cons (.tup (.cons (.v 4) (.cons (.sl (.v 5) (.c (.int 1)) .omit) .nil))) .nil)))))))
 (.cons (.set 7 (.ix (.v 6) (.bin .mod (.call c__law_cell (.cons (.v 0) (.cons (.c (.int 4)) .nil))) (.c (.int 11)))))
 (.cons (.set 8 (.call c_is_parting (.cons (.v 2) (.cons (.v 7) .nil))))
 (.cons (.ret (.and2 (.isi (.v 8) .bool) (.one (.cmp .eq (.v 8) (.and2 (.cmp .in_ (.v 7) (.call c__law_partings (.cons (.v 2) .nil))) (.one (.cmp .isnot (.ix (.v 7) (.c (.int 0))) (.c (.bool true)))))))))
 .nil)))))))))
end PF
set_option maxHeartbeats 4000000
namespace PL
open PySem PD
/-! ## what expressions, statements compute, one by one (loops, comprehensions apart) -/
section
variable {T : Tab} {ρ : Rho} {a b c e t : E} {es : EL} {s : S} {r : SL}
theorem ev_def : ev T e ρ = (evB T e ρ).1 := rfl
theorem evT_def : evT T e ρ = (evB T e ρ).2 := rfl
theorem ev_v {i : Nat} : evB T (.v i) ρ = wR (rd ρ i) := rfl
theorem ev_c {d : PyData} : evB T (.c d) ρ = wR (.ok d none) := rfl
theorem ev_g {k : Nat} : evB T (.g k) ρ = wR (optR none (T.consts k)) := rfl
theorem ev_bin {o : Bop} : evB T (.bin o a b) ρ = wR ((evB T a ρ).1.bind fun x tx => (evB T b ρ).1.bind fun y ty => okR (bop o x y) [tx, ty]) := rfl
theorem ev_neg : evB T (.neg a) ρ = wR ((evB T a ρ).1.bind fun x _ => negR x) := rfl
theorem ev_cmp {o : Cop} : evB T (.cmp o a b) ρ = wR ((evB T a ρ).1.bind fun x tx => (evB T b ρ).1.bind fun y ty => optB (cop o x y)) := rfl
theorem ev_chain {o o' : Cop} : evB T (.chain o o' a b c) ρ = wR ((evB T a ρ).1.bind fun x tx => (evB T b ρ).1.bind fun y ty => optT (cop o x y) fun k =>
      if k = true then (evB T c ρ).1.bind fun z tz => optB (cop o' y z) else .ok (.bool false) none) := rfl
theorem ev_and : evB T (.and2 a b) ρ = ((evB T a ρ).1.bind fun x tx => optT (truth x) fun k => if k = true then (evB T b ρ).1 else .ok x tx,
      (evB T a ρ).2.bind fun k => if k = true then (evB T b ρ).2 else .ok false) := rfl
theorem ev_or : evB T (.or2 a b) ρ = ((evB T a ρ).1.bind fun x tx => optT (truth x) fun k => if k = true then .ok x tx else (evB T b ρ).1,
      (evB T a ρ).2.bind fun k => if k = true then .ok true else (evB T b ρ).2) := rfl
theorem ev_one : evB T (.one a) ρ = evB T a ρ := rfl
theorem ev_not : evB T (.not1 a) ρ = ((evB T a ρ).1.bind fun x tx => optT (truth x) fun k => .ok (.bool (!k)) none, (evB T a ρ).2.bind fun k => .ok (!k)) := rfl
theorem ev_ife : evB T (.ife t a b) ρ = ((evB T t ρ).2.bindR fun k => if k = true then (evB T a ρ).1 else (evB T b ρ).1, .no) := rfl
theorem ev_ix : evB T (.ix a b) ρ = wR ((evB T a ρ).1.bind fun x tx => (evB T b ρ).1.bind fun y ty => okI (ixop x y) [tx, ty]) := rfl
theorem ev_sl : evB T (.sl a b c) ρ = wR ((evB T a ρ).1.bind fun x tx => slR x tx (if b.isOmit = true then some none else partOf (evB T b ρ).1) (if c.isOmit = true then some none else partOf (evB T c ρ).1)) := rfl
theorem ev_tup : evB T (.tup es) ρ = wR ((evL T es ρ).bindR fun ds ts => if ds.length ≤ lineN then .ok (.tuple ds) (mkT ds ts) else .no) := rfl
theorem ev_lst : evB T (.lst es) ρ = wR ((evL T es ρ).bindR fun ds ts => if ds.length ≤ lineN then .ok (.list ds) (mkT ds ts) else .no) := rfl
theorem ev_call {f : Nat} : evB T (.call f es) ρ = wR ((evL T es ρ).bindR fun ds ts => callR T f ds) := rfl
theorem ev_bi {k : Bi} : evB T (.bi k es) ρ = wR ((evL T es ρ).bindR fun ds ts => okR (biop k ds) ts) := rfl
theorem ev_me {m : Me} : evB T (.me m a es) ρ = wR ((evB T a ρ).1.bind fun x tx => (evL T es ρ).bindN fun ds ts => okR (meop m x ds) (tx :: ts)) := rfl
theorem ev_isi {k : Ty} : evB T (.isi a k) ρ = wR ((evB T a ρ).1.bind fun x tx => optB (isTy k x)) := rfl
theorem evL_nil : evL T .nil ρ = .ok [] [] := rfl
theorem evL_cons : evL T (.cons e es) ρ = (match (evB T e ρ).1 with
    | .ok d t => match evL T es ρ with
      | .ok ds ts => .ok (d :: ds) (t :: ts)
      | .ex c => .ex c
      | .no => .no
    | .ex c => .ex c
    | .no => .no) := rfl
theorem xl_nil : exSL T .nil ρ = .nx ρ := rfl
theorem xl_cons : exSL T (.cons s r) ρ = (match exS T s ρ with
    | .nx ρ1 => exSL T r ρ1
    | r => r) := rfl
theorem x_set {i : Nat} : exS T (.set i e) ρ = (ev T e ρ).toS ρ fun d t => .nx (put ρ i d t) := rfl
theorem x_aug {i : Nat} {o : Bop} : exS T (.aug i o e) ρ = (match Rho.at ρ i with
    | .own d => (ev T e ρ).toS ρ fun d' t => match augI o d d' with
      | some r => .nx (put ρ i r none)
      | none => .no
    | _ => .no) := rfl
theorem x_app {x : Nat} : exS T (.mut .append x (.cons e .nil)) ρ = (match ownAt ρ x with
    | some (.list _) => (argS T false e ρ).toS ρ fun d ρ1 => match ownAt ρ1 x with
        | some dx => chgS ρ1 x (appD dx d)
        | none => .no
    | _ => .no) := rfl
theorem x_rem {x : Nat} : exS T (.mut .remove x (.cons e .nil)) ρ = (match ownAt ρ x with
    | some (.list _) => (ev T e ρ).toS ρ fun d t => match ownAt ρ x with
        | some dx => chgS ρ x (remD dx d)
        | none => .no
    | _ => .no) := rfl
theorem x_ext {x : Nat} : exS T (.mut .extend x (.cons e .nil)) ρ = (match ownAt ρ x with
    | some (.list _) => (ev T e ρ).toS ρ fun d t => match ownAt ρ x with
        | some dx => if imm1 d = true then chgS ρ x (extD dx d) else .no
        | none => .no
    | _ => .no) := rfl
theorem x_setT {is : List Nat} : exS T (.setT is e) ρ = (ev T e ρ).toS ρ fun d t => match putTg ρ (.many is) d t with
    | some ρ1 => .nx ρ1
    | none => .no := rfl
theorem ev_rev : evB T (.rev a) ρ = wR ((evB T a ρ).1.bind fun x tx => okR (revD x) [tx]) := rfl
theorem x_ex : exS T (.ex e) ρ = (ev T e ρ).toS ρ fun _ _ => .nx ρ := rfl
theorem x_ret : exS T (.ret e) ρ = (argS T true e ρ).toS ρ fun d ρ1 => .rt d ρ1 := rfl
theorem x_ret0 : exS T .ret0 ρ = .rt .none ρ := rfl
theorem x_pass : exS T .pass ρ = .nx ρ := rfl
theorem x_brk : exS T .brk ρ = .bk ρ := rfl
theorem x_cnt : exS T .cnt ρ = .ct ρ := rfl
theorem x_if {p q : SL} : exS T (.ife c p q) ρ = (evT T c ρ).toS ρ fun k => if k = true then exSL T p ρ else exSL T q ρ := rfl
theorem x_raise {m : Str} : exS T (.raise m) ρ = .ec m ρ := rfl
theorem x_try {p q : SL} {m : Str} : exS T (.try_ p m q) ρ = (match exSL T p ρ with
    | .ec c' ρ1 => match T.sub c' m with
      | some true => (match exSL T q ρ1 with
        | .ec _ _ => .no
        | r => r)
      | some false => .ec c' ρ1
      | none => .no
    | r => r) := rfl
theorem x_for {tg : Tg} {it : It} {p : SL} : exS T (.for_ tg it p) ρ = (evI T it ρ).toS ρ fun ds t => forL (exSL T p) tg t ds (lockR ρ (t.getD [])) := rfl
theorem x_while {p : SL} : exS T (.while_ c p) ρ = whR (evT T c) (exSL T p) ρ := rfl
end
/-! ## lists of ints -/
theorem immL_int (ns : List Int) : immL (ns.map .int) = true := by
  rw [immL_iff]
  intro x hx
  obtain ⟨n, _, rfl⟩ := List.mem_map.mp hx
  rfl
theorem lay_int : ∀ ns : List Int, PyData.canLayAll0 (ns.map .int) = true
  | [] => rfl
  | n :: ns => by simp [PyData.canLayAll0, PyData.canLay0, lay_int ns]
theorem dep_int : ∀ ns : List Int, PyData.depthAll (ns.map .int) = 0
  | [] => rfl
  | n :: ns => by simp [PyData.depthAll, PyData.depth, dep_int ns]
theorem shT_int (ns : List Int) : SeqAt.shaped (.tuple (ns.map .int)) = true := by simp [SeqAt.shaped, PyData.canLay0, lay_int, PyData.depth, dep_int]
theorem shL_int (ns : List Int) : SeqAt.shaped (.list (ns.map .int)) = true := by simp [SeqAt.shaped, PyData.canLay0, lay_int, PyData.depth, dep_int]
theorem sh_int (n : Int) : SeqAt.shaped (.int n) = true := rfl
theorem sh_none : SeqAt.shaped .none = true := rfl
theorem eqvAll_int : ∀ ns ms : List Int, PyData.eqvAll (ns.map .int) (ms.map .int) = decide (ns = ms)
  | [], [] => rfl
  | [], _ :: _ => by simp [PyData.eqvAll]
  | _ :: _, [] => by simp [PyData.eqvAll]
  | n :: ns, m :: ms => by
    simp only [List.map_cons, PyData.eqvAll, PyData.eqv, eqvAll_int ns ms, List.cons.injEq, Bool.decide_and]
    rfl
theorem eqv_tup (ns ms : List Int) : PyData.eqv (.tuple (ns.map .int)) (.tuple (ms.map .int)) = decide (ns = ms) := by simp only [PyData.eqv, eqvAll_int]
theorem count_int : ∀ (ns : List Int) (k : Int), eqvCount (ns.map .int) (.int k) = ns.count k
  | [], _ => rfl
  | n :: ns, k => by
    have ih := count_int ns k
    unfold eqvCount at ih ⊢
    rw [List.map_cons, List.countP_cons, ih, List.count_cons]
    simp [PyData.eqv]
theorem any_int : ∀ (ns : List Int) (k : Int), ((ns.map PyData.int).any fun z => PyData.eqv z (.int k)) = decide (k ∈ ns)
  | [], _ => by simp
  | n :: ns, k => by
    rw [List.map_cons, List.any_cons, any_int ns k]
    by_cases e : n = k
    · subst e; simp [PyData.eqv]
    · have : ¬ k = n := fun h => e h.symm
      simp [PyData.eqv, e, this]
theorem index_int : ∀ (ns : List Int) (k : Int), eqvIndex (ns.map .int) (.int k) = ns.findIdx? fun z => z == k := fun ns k => by
  unfold eqvIndex
  rw [List.findIdx?_map]
  rfl
def srt (ns : List Int) : List Int := ns.mergeSort fun a b => decide (a ≤ b)
theorem srt_perm (ns : List Int) : (srt ns).Perm ns := List.mergeSort_perm ns _
theorem srt_sorted (ns : List Int) : (srt ns).Pairwise (· ≤ ·) := by
  have := List.pairwise_mergeSort (le := fun a b : Int => decide (a ≤ b)) (fun a b c h1 h2 => by simp at h1 h2 ⊢; omega) (fun a b => by simp; omega) ns
  unfold srt
  simpa using this
theorem sortD_int (ns : List Int) : sortD (ns.map .int) = (srt ns).map .int := by
  unfold sortD srt
  rw [PySem.W.sort_maps (s := PySem.W.dataLe false id) PyData.int]
  intro a _ b _
  show decide (a ≤ b) = !(PyProof.Rows.lexLt PyProof.Rows.itemOrd (PySem.W.keyToks (.int b)) (PySem.W.keyToks (.int a)))
  by_cases h : b < a
  · have : ¬ a ≤ b := by omega
    simp [PySem.W.keyToks, PyProof.Rows.lexLt, PyProof.Rows.itemLt, h, this]
  · have : a ≤ b := by omega
    have h2 : ¬ b < a := h
    simp [PySem.W.keyToks, PyProof.Rows.lexLt, PyProof.Rows.itemLt, h2, this]
theorem sortOk_int (ns : List Int) : sortOk (ns.map .int) = true := by
  unfold sortOk allAlike
  have h1 : ((ns.map PyData.int).all fun d => (ns.map PyData.int).all fun d' => PySem.W.alike d d') = true := by
    simp [List.all_eq_true, PySem.W.alike]
  have h2 : ((ns.map PyData.int).all noTup) = true := by simp [List.all_eq_true, noTup]
  rw [h1, h2, dep_int]
  simp
theorem sorted_listI (ns : List Int) : sortedD [.list (ns.map .int)] = some (.list ((srt ns).map .int)) := by simp [sortedD, sortOk_int, lay_int, sortD_int]
theorem sorted_tupI (ns : List Int) : sortedD [.tuple (ns.map .int)] = some (.list ((srt ns).map .int)) := by simp [sortedD, sortOk_int, lay_int, sortD_int]
/-! ## comprehensions -/
theorem lc_go {cond : Rho → RT} {elt : Rho → R} {tg : Tg} {own : List Nat} {ρ : Rho} {t : Tn} (p : PyData → Bool) (f : PyData → PyData) : ∀ (ds acc : List PyData) (ts : List Tn),
    (∀ d ∈ ds, ∃ ρ1, putTg (wipeR ρ own) tg d t = some ρ1 ∧ cond ρ1 = .ok (p d) ∧ (p d = true → elt ρ1 = .ok (f d) none)) → acc.length + ds.length ≤ lineN →
    ∃ ts', lcLoop cond elt tg own ρ t ds acc ts = .ok (acc ++ (ds.filter p).map f) ts'
  | [], acc, ts, _, _ => ⟨ts, by simp [lcLoop]⟩
  | d :: ds, acc, ts, h, hl => by
    obtain ⟨ρ1, h1, h2, h3⟩ := h d (by simp)
    have hl' : acc.length + (ds.length + 1) ≤ lineN := by simpa using hl
    cases hp : p d with
    | false =>
      obtain ⟨ts', e⟩ := lc_go p f ds acc ts (fun d' hd => h d' (List.mem_cons_of_mem _ hd)) (by omega)
      refine ⟨ts', ?_⟩
      rw [hp] at h2
      simp only [lcLoop, h1, h2, List.filter_cons, hp]
      exact e
    | true =>
      obtain ⟨ts', e⟩ := lc_go p f ds (acc ++ [f d]) (ts ++ [none]) (fun d' hd => h d' (List.mem_cons_of_mem _ hd)) (by simp; omega)
      refine ⟨ts', ?_⟩
      rw [hp] at h2
      have hz : acc.length < lineN ∧ (none : Tn) = none := ⟨by omega, rfl⟩
      simp only [lcLoop, h1, h2, h3 hp, List.filter_cons, hp]
      rw [if_pos ⟨hz.1, trivial⟩, e]
      simp
/-- a comprehension whose items are worked out one by one -/
theorem lc_ev {T : Tab} {elt : E} {tg : Tg} {it : It} {cond : E} {own : List (Str × Nat)} {ρ : Rho} {ds : List PyData} {t : Tn} (p : PyData → Bool) (f : PyData → PyData) (hi : evI T it ρ = .ok ds t)
    (h : ∀ d ∈ ds, ∃ ρ1, putTg (wipeR ρ (own.map (·.2))) tg d t = some ρ1 ∧ (if cond.isOmit = true then RT.ok true else (evB T cond ρ1).2) = .ok (p d) ∧ (p d = true → (evB T elt ρ1).1 = .ok (f d) none)) (hl : ds.length ≤ lineN) :
    evB T (.lc elt tg it cond own) ρ = wR (.ok (.list ((ds.filter p).map f)) none) := by
  obtain ⟨ts', e⟩ := lc_go (cond := fun ρ1 => if cond.isOmit = true then .ok true else (evB T cond ρ1).2) (elt := fun ρ1 => (evB T elt ρ1).1) (tg := tg) (own := own.map (·.2)) (ρ := ρ) (t := t) p f ds [] [] h (by simpa using hl)
  show wR ((evI T it ρ).bindR fun ds t => lcR (lcLoop (fun ρ1 => if cond.isOmit = true then .ok true else (evB T cond ρ1).2) (fun ρ1 => (evB T elt ρ1).1) tg (own.map (·.2)) ρ t ds [] [])) = _
  rw [hi]
  show wR (lcR (lcLoop (fun ρ1 => if cond.isOmit = true then .ok true else (evB T cond ρ1).2) (fun ρ1 => (evB T elt ρ1).1) tg (own.map (·.2)) ρ t ds [] [])) = _
  rw [e]
  rfl
end PL
set_option maxHeartbeats 4000000
namespace PL
open PySem PD PF
def scr (ns : List Int) : PyData := .dict [(.none, .list (ns.map .int))]
theorem imm_scr (ns : List Int) : imm (scr ns) = false := rfl
theorem cell_ok (T : Tab) (ns : List Int) (k : Nat) : outOf (exSL T sl__law_cell_736ffd (startR 2 [scr ns, .int k])) = .ret (.int (ns.getD k 0)) .none := by
  unfold sl__law_cell_736ffd
  by_cases h : k < ns.length
  · have e : (decide ((k : Int) < (ns.length : Int))) = true := by simp [h]
    have e2 : atN (ns.map PyData.int) (k : Int) = some (.int (ns.getD k 0)) := by
      unfold atN
      rw [if_pos (by omega)]
      simp [List.getD_eq_getElem?_getD, List.getElem?_eq_getElem h]
    simp [xl_nil, xl_cons, x_set, x_aug, x_app, x_rem, x_ext, x_setT, x_ex, x_ret, x_ret0, x_pass, x_brk, x_cnt, x_if, x_raise, x_try, ev_def, evT_def, ev_v, ev_c, ev_g, ev_bin, ev_neg, ev_cmp, ev_chain, ev_and, ev_or, ev_one, ev_not, ev_ife, ev_ix, ev_sl, ev_rev, ev_tup, ev_lst, ev_call, ev_bi, ev_me, ev_isi, evL_nil, evL_cons, wR, PD.R.bind, PD.RL.bindR, PD.RL.bindN, PD.RI.bindR, PD.R.bindI, PD.RT.bindR, PD.RT.bind, optR, optB, PD.okR, optT, okI, negR, outR, callR, slR, lcR, itD, ofR, PD.R.toS, PD.RT.toS, PD.RI.toS, PD.RA.toS, startR, rd, PD.Rho.at, imm, immL, imm1, tnt, mkT, inOk, argS, giveS, PD.E.asV, PD.EL.one, PD.Sl.of, truth, outOf, bop, cop, ltD, leD, subD, addD, mulD, fdivD, modD, powD, ixop, lenD, biop, put, putTg, putAll, wipeR, PD.E.isOmit, List.map_cons, List.map_nil, List.length_cons, List.length_nil, List.set_cons_zero, List.set_cons_succ, List.set_nil, List.getD_cons_zero, List.getD_cons_succ, List.cons_append, List.nil_append, List.replicate, Option.getD, ownAt, chgS, appD, extD, remD, revD, augI, isTy, killV, killS, scr, e, e2, h]
  · have e : (decide ((k : Int) < (ns.length : Int))) = false := by simp; omega
    simp [xl_nil, xl_cons, x_set, x_aug, x_app, x_rem, x_ext, x_setT, x_ex, x_ret, x_ret0, x_pass, x_brk, x_cnt, x_if, x_raise, x_try, ev_def, evT_def, ev_v, ev_c, ev_g, ev_bin, ev_neg, ev_cmp, ev_chain, ev_and, ev_or, ev_one, ev_not, ev_ife, ev_ix, ev_sl, ev_rev, ev_tup, ev_lst, ev_call, ev_bi, ev_me, ev_isi, evL_nil, evL_cons, wR, PD.R.bind, PD.RL.bindR, PD.RL.bindN, PD.RI.bindR, PD.R.bindI, PD.RT.bindR, PD.RT.bind, optR, optB, PD.okR, optT, okI, negR, outR, callR, slR, lcR, itD, ofR, PD.R.toS, PD.RT.toS, PD.RI.toS, PD.RA.toS, startR, rd, PD.Rho.at, imm, immL, imm1, tnt, mkT, inOk, argS, giveS, PD.E.asV, PD.EL.one, PD.Sl.of, truth, outOf, bop, cop, ltD, leD, subD, addD, mulD, fdivD, modD, powD, ixop, lenD, biop, put, putTg, putAll, wipeR, PD.E.isOmit, List.map_cons, List.map_nil, List.length_cons, List.length_nil, List.set_cons_zero, List.set_cons_succ, List.set_nil, List.getD_cons_zero, List.getD_cons_succ, List.cons_append, List.nil_append, List.replicate, Option.getD, ownAt, chgS, appD, extD, remD, revD, augI, isTy, killV, killS, scr, e, h, List.getD_eq_getElem?_getD, List.getElem?_eq_none (Nat.le_of_not_lt h)]
def mixV (c p m : Int) : Int := ((c * 48271 % p) ^ 3 % p) % m
theorem mix_ok (T : Tab) (c p m : Int) (hp : 0 < p) (hp2 : p < 2147483647) (hm : 0 < m) : outOf (exSL T sl__law_mix_83d9e8 (startR 3 [.int c, .int p, .int m])) = .ret (.int (mixV c p m)) .none := by
  unfold sl__law_mix_83d9e8
  have e1 : (c * 48271).fmod p = c * 48271 % p := Int.fmod_eq_emod_of_nonneg _ (by omega)
  have e2 : ((c * 48271 % p) ^ 3).fmod p = (c * 48271 % p) ^ 3 % p := Int.fmod_eq_emod_of_nonneg _ (by omega)
  have e3 : ((c * 48271 % p) ^ 3 % p).fmod m = (c * 48271 % p) ^ 3 % p % m := Int.fmod_eq_emod_of_nonneg _ (by omega)
  have b1 := Int.emod_nonneg (c * 48271) (show p ≠ 0 by omega)
  have b2 := Int.emod_lt_of_pos (c * 48271) hp
  have e4 : (c * 48271 % p).natAbs < 2 ^ 64 := by omega
  have s : small64 48271 = true := by decide
  have n1 : p ≠ 0 := by omega
  have n2 : m ≠ 0 := by omega
  simp [xl_nil, xl_cons, x_set, x_aug, x_app, x_rem, x_ext, x_setT, x_ex, x_ret, x_ret0, x_pass, x_brk, x_cnt, x_if, x_raise, x_try, ev_def, evT_def, ev_v, ev_c, ev_g, ev_bin, ev_neg, ev_cmp, ev_chain, ev_and, ev_or, ev_one, ev_not, ev_ife, ev_ix, ev_sl, ev_rev, ev_tup, ev_lst, ev_call, ev_bi, ev_me, ev_isi, evL_nil, evL_cons, wR, PD.R.bind, PD.RL.bindR, PD.RL.bindN, PD.RI.bindR, PD.R.bindI, PD.RT.bindR, PD.RT.bind, optR, optB, PD.okR, optT, okI, negR, outR, callR, slR, lcR, itD, ofR, PD.R.toS, PD.RT.toS, PD.RI.toS, PD.RA.toS, startR, rd, PD.Rho.at, imm, immL, imm1, tnt, mkT, inOk, argS, giveS, PD.E.asV, PD.EL.one, PD.Sl.of, truth, outOf, bop, cop, ltD, leD, subD, addD, mulD, fdivD, modD, powD, ixop, lenD, biop, put, putTg, putAll, wipeR, PD.E.isOmit, List.map_cons, List.map_nil, List.length_cons, List.length_nil, List.set_cons_zero, List.set_cons_succ, List.set_nil, List.getD_cons_zero, List.getD_cons_succ, List.cons_append, List.nil_append, List.replicate, Option.getD, ownAt, chgS, appD, extD, remD, revD, augI, isTy, killV, killS, s, n1, n2, e1, e2, e3, e4, mixV]
def seedV (s k : Int) : Int := ((s * 1103515245 + 7919 * k + 12345) % 2147483647) ^ 5 % 2147483647
theorem seed_ok (T : Tab) (s k : Int) : outOf (exSL T sl__law_seed_50671f (startR 2 [.int s, .int k])) = .ret (.int (seedV s k)) .none := by
  unfold sl__law_seed_50671f
  have e1 : (s * 1103515245 + 7919 * k + 12345).fmod 2147483647 = (s * 1103515245 + 7919 * k + 12345) % 2147483647 := Int.fmod_eq_emod_of_nonneg _ (by omega)
  have e2 : (((s * 1103515245 + 7919 * k + 12345) % 2147483647) ^ 5).fmod 2147483647 = ((s * 1103515245 + 7919 * k + 12345) % 2147483647) ^ 5 % 2147483647 := Int.fmod_eq_emod_of_nonneg _ (by omega)
  have b1 := Int.emod_nonneg (s * 1103515245 + 7919 * k + 12345) (show (2147483647 : Int) ≠ 0 by omega)
  have b2 := Int.emod_lt_of_pos (s * 1103515245 + 7919 * k + 12345) (show (0 : Int) < 2147483647 by omega)
  have e4 : ((s * 1103515245 + 7919 * k + 12345) % 2147483647).natAbs < 2 ^ 64 := by omega
  have s1 : small64 1103515245 = true := by decide
  have s2 : small64 7919 = true := by decide
  simp [xl_nil, xl_cons, x_set, x_aug, x_app, x_rem, x_ext, x_setT, x_ex, x_ret, x_ret0, x_pass, x_brk, x_cnt, x_if, x_raise, x_try, ev_def, evT_def, ev_v, ev_c, ev_g, ev_bin, ev_neg, ev_cmp, ev_chain, ev_and, ev_or, ev_one, ev_not, ev_ife, ev_ix, ev_sl, ev_rev, ev_tup, ev_lst, ev_call, ev_bi, ev_me, ev_isi, evL_nil, evL_cons, wR, PD.R.bind, PD.RL.bindR, PD.RL.bindN, PD.RI.bindR, PD.R.bindI, PD.RT.bindR, PD.RT.bind, optR, optB, PD.okR, optT, okI, negR, outR, callR, slR, lcR, itD, ofR, PD.R.toS, PD.RT.toS, PD.RI.toS, PD.RA.toS, startR, rd, PD.Rho.at, imm, immL, imm1, tnt, mkT, inOk, argS, giveS, PD.E.asV, PD.EL.one, PD.Sl.of, truth, outOf, bop, cop, ltD, leD, subD, addD, mulD, fdivD, modD, powD, ixop, lenD, biop, put, putTg, putAll, wipeR, PD.E.isOmit, List.map_cons, List.map_nil, List.length_cons, List.length_nil, List.set_cons_zero, List.set_cons_succ, List.set_nil, List.getD_cons_zero, List.getD_cons_succ, List.cons_append, List.nil_append, List.replicate, Option.getD, ownAt, chgS, appD, extD, remD, revD, augI, isTy, killV, killS, s1, s2, e1, e2, e4, seedV]
theorem seedV_nonneg (s k : Int) : 0 ≤ seedV s k := Int.emod_nonneg _ (by omega)
def pickV (s m : Int) : Int := s / 97 % m
theorem pick_ok (T : Tab) (s m : Int) (hm : 0 < m) : outOf (exSL T sl__law_pick_3feff9 (startR 2 [.int s, .int m])) = .ret (.int (pickV s m)) .none := by
  unfold sl__law_pick_3feff9
  have e1 : s.fdiv 97 = s / 97 := Int.fdiv_eq_ediv_of_nonneg _ (by omega)
  have e2 : (s / 97).fmod m = s / 97 % m := Int.fmod_eq_emod_of_nonneg _ (by omega)
  have n2 : m ≠ 0 := by omega
  simp [xl_nil, xl_cons, x_set, x_aug, x_app, x_rem, x_ext, x_setT, x_ex, x_ret, x_ret0, x_pass, x_brk, x_cnt, x_if, x_raise, x_try, ev_def, evT_def, ev_v, ev_c, ev_g, ev_bin, ev_neg, ev_cmp, ev_chain, ev_and, ev_or, ev_one, ev_not, ev_ife, ev_ix, ev_sl, ev_rev, ev_tup, ev_lst, ev_call, ev_bi, ev_me, ev_isi, evL_nil, evL_cons, wR, PD.R.bind, PD.RL.bindR, PD.RL.bindN, PD.RI.bindR, PD.R.bindI, PD.RT.bindR, PD.RT.bind, optR, optB, PD.okR, optT, okI, negR, outR, callR, slR, lcR, itD, ofR, PD.R.toS, PD.RT.toS, PD.RI.toS, PD.RA.toS, startR, rd, PD.Rho.at, imm, immL, imm1, tnt, mkT, inOk, argS, giveS, PD.E.asV, PD.EL.one, PD.Sl.of, truth, outOf, bop, cop, ltD, leD, subD, addD, mulD, fdivD, modD, powD, ixop, lenD, biop, put, putTg, putAll, wipeR, PD.E.isOmit, List.map_cons, List.map_nil, List.length_cons, List.length_nil, List.set_cons_zero, List.set_cons_succ, List.set_nil, List.getD_cons_zero, List.getD_cons_succ, List.cons_append, List.nil_append, List.replicate, Option.getD, ownAt, chgS, appD, extD, remD, revD, augI, isTy, killV, killS, n2, e1, e2, pickV]
end PL
set_option maxHeartbeats 4000000
namespace PL
open PySem PD PF
def isKind : PyData → Bool
  | .int n => decide (0 ≤ n) && decide (n ≤ 20)
  | _ => false
def noDict : PyData → Bool
  | .dict _ => false
  | _ => true
theorem within_ok (T : Tab) (d : PyData) (h : noDict d = true) : outOf (exSL T sl_is_within_28da31 (startR 3 [d, .int 0, .int 20])) = .ret (.bool (isKind d)) .none := by
  unfold sl_is_within_28da31
  cases d with
  | dict _ => cases h
  | int n =>
    by_cases h1 : 0 ≤ n
    · by_cases h2 : n ≤ 20
      · simp [xl_nil, xl_cons, x_set, x_aug, x_app, x_rem, x_ext, x_setT, x_ex, x_ret, x_ret0, x_pass, x_brk, x_cnt, x_if, x_raise, x_try, ev_def, evT_def, ev_v, ev_c, ev_g, ev_bin, ev_neg, ev_cmp, ev_chain, ev_and, ev_or, ev_one, ev_not, ev_ife, ev_ix, ev_sl, ev_rev, ev_tup, ev_lst, ev_call, ev_bi, ev_me, ev_isi, evL_nil, evL_cons, wR, PD.R.bind, PD.RL.bindR, PD.RL.bindN, PD.RI.bindR, PD.R.bindI, PD.RT.bindR, PD.RT.bind, optR, optB, PD.okR, optT, okI, negR, outR, callR, slR, lcR, itD, ofR, PD.R.toS, PD.RT.toS, PD.RI.toS, PD.RA.toS, startR, rd, PD.Rho.at, imm, immL, imm1, tnt, mkT, inOk, argS, giveS, PD.E.asV, PD.EL.one, PD.Sl.of, truth, outOf, bop, cop, ltD, leD, subD, addD, mulD, fdivD, modD, powD, ixop, lenD, biop, put, putTg, putAll, wipeR, PD.E.isOmit, List.map_cons, List.map_nil, List.length_cons, List.length_nil, List.set_cons_zero, List.set_cons_succ, List.set_nil, List.getD_cons_zero, List.getD_cons_succ, List.cons_append, List.nil_append, List.replicate, Option.getD, ownAt, chgS, appD, extD, remD, revD, augI, isTy, killV, killS, isKind, h1, h2, leD]
      · simp [xl_nil, xl_cons, x_set, x_aug, x_app, x_rem, x_ext, x_setT, x_ex, x_ret, x_ret0, x_pass, x_brk, x_cnt, x_if, x_raise, x_try, ev_def, evT_def, ev_v, ev_c, ev_g, ev_bin, ev_neg, ev_cmp, ev_chain, ev_and, ev_or, ev_one, ev_not, ev_ife, ev_ix, ev_sl, ev_rev, ev_tup, ev_lst, ev_call, ev_bi, ev_me, ev_isi, evL_nil, evL_cons, wR, PD.R.bind, PD.RL.bindR, PD.RL.bindN, PD.RI.bindR, PD.R.bindI, PD.RT.bindR, PD.RT.bind, optR, optB, PD.okR, optT, okI, negR, outR, callR, slR, lcR, itD, ofR, PD.R.toS, PD.RT.toS, PD.RI.toS, PD.RA.toS, startR, rd, PD.Rho.at, imm, immL, imm1, tnt, mkT, inOk, argS, giveS, PD.E.asV, PD.EL.one, PD.Sl.of, truth, outOf, bop, cop, ltD, leD, subD, addD, mulD, fdivD, modD, powD, ixop, lenD, biop, put, putTg, putAll, wipeR, PD.E.isOmit, List.map_cons, List.map_nil, List.length_cons, List.length_nil, List.set_cons_zero, List.set_cons_succ, List.set_nil, List.getD_cons_zero, List.getD_cons_succ, List.cons_append, List.nil_append, List.replicate, Option.getD, ownAt, chgS, appD, extD, remD, revD, augI, isTy, killV, killS, isKind, h1, h2, leD]
    · simp [xl_nil, xl_cons, x_set, x_aug, x_app, x_rem, x_ext, x_setT, x_ex, x_ret, x_ret0, x_pass, x_brk, x_cnt, x_if, x_raise, x_try, ev_def, evT_def, ev_v, ev_c, ev_g, ev_bin, ev_neg, ev_cmp, ev_chain, ev_and, ev_or, ev_one, ev_not, ev_ife, ev_ix, ev_sl, ev_rev, ev_tup, ev_lst, ev_call, ev_bi, ev_me, ev_isi, evL_nil, evL_cons, wR, PD.R.bind, PD.RL.bindR, PD.RL.bindN, PD.RI.bindR, PD.R.bindI, PD.RT.bindR, PD.RT.bind, optR, optB, PD.okR, optT, okI, negR, outR, callR, slR, lcR, itD, ofR, PD.R.toS, PD.RT.toS, PD.RI.toS, PD.RA.toS, startR, rd, PD.Rho.at, imm, immL, imm1, tnt, mkT, inOk, argS, giveS, PD.E.asV, PD.EL.one, PD.Sl.of, truth, outOf, bop, cop, ltD, leD, subD, addD, mulD, fdivD, modD, powD, ixop, lenD, biop, put, putTg, putAll, wipeR, PD.E.isOmit, List.map_cons, List.map_nil, List.length_cons, List.length_nil, List.set_cons_zero, List.set_cons_succ, List.set_nil, List.getD_cons_zero, List.getD_cons_succ, List.cons_append, List.nil_append, List.replicate, Option.getD, ownAt, chgS, appD, extD, remD, revD, augI, isTy, killV, killS, isKind, h1, leD]
  | bool b => simp [xl_nil, xl_cons, x_set, x_aug, x_app, x_rem, x_ext, x_setT, x_ex, x_ret, x_ret0, x_pass, x_brk, x_cnt, x_if, x_raise, x_try, ev_def, evT_def, ev_v, ev_c, ev_g, ev_bin, ev_neg, ev_cmp, ev_chain, ev_and, ev_or, ev_one, ev_not, ev_ife, ev_ix, ev_sl, ev_rev, ev_tup, ev_lst, ev_call, ev_bi, ev_me, ev_isi, evL_nil, evL_cons, wR, PD.R.bind, PD.RL.bindR, PD.RL.bindN, PD.RI.bindR, PD.R.bindI, PD.RT.bindR, PD.RT.bind, optR, optB, PD.okR, optT, okI, negR, outR, callR, slR, lcR, itD, ofR, PD.R.toS, PD.RT.toS, PD.RI.toS, PD.RA.toS, startR, rd, PD.Rho.at, imm, immL, imm1, tnt, mkT, inOk, argS, giveS, PD.E.asV, PD.EL.one, PD.Sl.of, truth, outOf, bop, cop, ltD, leD, subD, addD, mulD, fdivD, modD, powD, ixop, lenD, biop, put, putTg, putAll, wipeR, PD.E.isOmit, List.map_cons, List.map_nil, List.length_cons, List.length_nil, List.set_cons_zero, List.set_cons_succ, List.set_nil, List.getD_cons_zero, List.getD_cons_succ, List.cons_append, List.nil_append, List.replicate, Option.getD, ownAt, chgS, appD, extD, remD, revD, augI, isTy, killV, killS, isKind]
  | none => simp [xl_nil, xl_cons, x_set, x_aug, x_app, x_rem, x_ext, x_setT, x_ex, x_ret, x_ret0, x_pass, x_brk, x_cnt, x_if, x_raise, x_try, ev_def, evT_def, ev_v, ev_c, ev_g, ev_bin, ev_neg, ev_cmp, ev_chain, ev_and, ev_or, ev_one, ev_not, ev_ife, ev_ix, ev_sl, ev_rev, ev_tup, ev_lst, ev_call, ev_bi, ev_me, ev_isi, evL_nil, evL_cons, wR, PD.R.bind, PD.RL.bindR, PD.RL.bindN, PD.RI.bindR, PD.R.bindI, PD.RT.bindR, PD.RT.bind, optR, optB, PD.okR, optT, okI, negR, outR, callR, slR, lcR, itD, ofR, PD.R.toS, PD.RT.toS, PD.RI.toS, PD.RA.toS, startR, rd, PD.Rho.at, imm, immL, imm1, tnt, mkT, inOk, argS, giveS, PD.E.asV, PD.EL.one, PD.Sl.of, truth, outOf, bop, cop, ltD, leD, subD, addD, mulD, fdivD, modD, powD, ixop, lenD, biop, put, putTg, putAll, wipeR, PD.E.isOmit, List.map_cons, List.map_nil, List.length_cons, List.length_nil, List.set_cons_zero, List.set_cons_succ, List.set_nil, List.getD_cons_zero, List.getD_cons_succ, List.cons_append, List.nil_append, List.replicate, Option.getD, ownAt, chgS, appD, extD, remD, revD, augI, isTy, killV, killS, isKind]
  | str x => simp [xl_nil, xl_cons, x_set, x_aug, x_app, x_rem, x_ext, x_setT, x_ex, x_ret, x_ret0, x_pass, x_brk, x_cnt, x_if, x_raise, x_try, ev_def, evT_def, ev_v, ev_c, ev_g, ev_bin, ev_neg, ev_cmp, ev_chain, ev_and, ev_or, ev_one, ev_not, ev_ife, ev_ix, ev_sl, ev_rev, ev_tup, ev_lst, ev_call, ev_bi, ev_me, ev_isi, evL_nil, evL_cons, wR, PD.R.bind, PD.RL.bindR, PD.RL.bindN, PD.RI.bindR, PD.R.bindI, PD.RT.bindR, PD.RT.bind, optR, optB, PD.okR, optT, okI, negR, outR, callR, slR, lcR, itD, ofR, PD.R.toS, PD.RT.toS, PD.RI.toS, PD.RA.toS, startR, rd, PD.Rho.at, imm, immL, imm1, tnt, mkT, inOk, argS, giveS, PD.E.asV, PD.EL.one, PD.Sl.of, truth, outOf, bop, cop, ltD, leD, subD, addD, mulD, fdivD, modD, powD, ixop, lenD, biop, put, putTg, putAll, wipeR, PD.E.isOmit, List.map_cons, List.map_nil, List.length_cons, List.length_nil, List.set_cons_zero, List.set_cons_succ, List.set_nil, List.getD_cons_zero, List.getD_cons_succ, List.cons_append, List.nil_append, List.replicate, Option.getD, ownAt, chgS, appD, extD, remD, revD, augI, isTy, killV, killS, isKind]
  | list xs => simp [xl_nil, xl_cons, x_set, x_aug, x_app, x_rem, x_ext, x_setT, x_ex, x_ret, x_ret0, x_pass, x_brk, x_cnt, x_if, x_raise, x_try, ev_def, evT_def, ev_v, ev_c, ev_g, ev_bin, ev_neg, ev_cmp, ev_chain, ev_and, ev_or, ev_one, ev_not, ev_ife, ev_ix, ev_sl, ev_rev, ev_tup, ev_lst, ev_call, ev_bi, ev_me, ev_isi, evL_nil, evL_cons, wR, PD.R.bind, PD.RL.bindR, PD.RL.bindN, PD.RI.bindR, PD.R.bindI, PD.RT.bindR, PD.RT.bind, optR, optB, PD.okR, optT, okI, negR, outR, callR, slR, lcR, itD, ofR, PD.R.toS, PD.RT.toS, PD.RI.toS, PD.RA.toS, startR, rd, PD.Rho.at, imm, immL, imm1, tnt, mkT, inOk, argS, giveS, PD.E.asV, PD.EL.one, PD.Sl.of, truth, outOf, bop, cop, ltD, leD, subD, addD, mulD, fdivD, modD, powD, ixop, lenD, biop, put, putTg, putAll, wipeR, PD.E.isOmit, List.map_cons, List.map_nil, List.length_cons, List.length_nil, List.set_cons_zero, List.set_cons_succ, List.set_nil, List.getD_cons_zero, List.getD_cons_succ, List.cons_append, List.nil_append, List.replicate, Option.getD, ownAt, chgS, appD, extD, remD, revD, augI, isTy, killV, killS, isKind]
  | tuple xs =>
    by_cases im : immL xs = true
    · simp [xl_nil, xl_cons, x_set, x_aug, x_app, x_rem, x_ext, x_setT, x_ex, x_ret, x_ret0, x_pass, x_brk, x_cnt, x_if, x_raise, x_try, ev_def, evT_def, ev_v, ev_c, ev_g, ev_bin, ev_neg, ev_cmp, ev_chain, ev_and, ev_or, ev_one, ev_not, ev_ife, ev_ix, ev_sl, ev_rev, ev_tup, ev_lst, ev_call, ev_bi, ev_me, ev_isi, evL_nil, evL_cons, wR, PD.R.bind, PD.RL.bindR, PD.RL.bindN, PD.RI.bindR, PD.R.bindI, PD.RT.bindR, PD.RT.bind, optR, optB, PD.okR, optT, okI, negR, outR, callR, slR, lcR, itD, ofR, PD.R.toS, PD.RT.toS, PD.RI.toS, PD.RA.toS, startR, rd, PD.Rho.at, imm, immL, imm1, tnt, mkT, inOk, argS, giveS, PD.E.asV, PD.EL.one, PD.Sl.of, truth, outOf, bop, cop, ltD, leD, subD, addD, mulD, fdivD, modD, powD, ixop, lenD, biop, put, putTg, putAll, wipeR, PD.E.isOmit, List.map_cons, List.map_nil, List.length_cons, List.length_nil, List.set_cons_zero, List.set_cons_succ, List.set_nil, List.getD_cons_zero, List.getD_cons_succ, List.cons_append, List.nil_append, List.replicate, Option.getD, ownAt, chgS, appD, extD, remD, revD, augI, isTy, killV, killS, isKind, im]
    · simp [xl_nil, xl_cons, x_set, x_aug, x_app, x_rem, x_ext, x_setT, x_ex, x_ret, x_ret0, x_pass, x_brk, x_cnt, x_if, x_raise, x_try, ev_def, evT_def, ev_v, ev_c, ev_g, ev_bin, ev_neg, ev_cmp, ev_chain, ev_and, ev_or, ev_one, ev_not, ev_ife, ev_ix, ev_sl, ev_rev, ev_tup, ev_lst, ev_call, ev_bi, ev_me, ev_isi, evL_nil, evL_cons, wR, PD.R.bind, PD.RL.bindR, PD.RL.bindN, PD.RI.bindR, PD.R.bindI, PD.RT.bindR, PD.RT.bind, optR, optB, PD.okR, optT, okI, negR, outR, callR, slR, lcR, itD, ofR, PD.R.toS, PD.RT.toS, PD.RI.toS, PD.RA.toS, startR, rd, PD.Rho.at, imm, immL, imm1, tnt, mkT, inOk, argS, giveS, PD.E.asV, PD.EL.one, PD.Sl.of, truth, outOf, bop, cop, ltD, leD, subD, addD, mulD, fdivD, modD, powD, ixop, lenD, biop, put, putTg, putAll, wipeR, PD.E.isOmit, List.map_cons, List.map_nil, List.length_cons, List.length_nil, List.set_cons_zero, List.set_cons_succ, List.set_nil, List.getD_cons_zero, List.getD_cons_succ, List.cons_append, List.nil_append, List.replicate, Option.getD, ownAt, chgS, appD, extD, remD, revD, augI, isTy, killV, killS, isKind, im]
/-- what the lemmas want of a table -/
structure Has1 (T : Tab) (cw gk : Nat) : Prop where
  io : ∀ f, T.io f = false
  w : ∀ d, noDict d = true → T.fn cw [d, .int 0, .int 20] = .ret (.bool (isKind d)) .none
  k : T.consts gk = some (.int 21)
theorem kind_ok (T : Tab) (cw gk : Nat) (hT : Has1 T cw gk) (d : PyData) (h : noDict d = true) : outOf (exSL T (sl_is_kind_527e9e cw gk) (startR 1 [d])) = .ret (.bool (isKind d)) .none := by
  unfold sl_is_kind_527e9e
  have w := hT.w d h
  by_cases im : imm d = true
  · simp [xl_nil, xl_cons, x_set, x_aug, x_app, x_rem, x_ext, x_setT, x_ex, x_ret, x_ret0, x_pass, x_brk, x_cnt, x_if, x_raise, x_try, ev_def, evT_def, ev_v, ev_c, ev_g, ev_bin, ev_neg, ev_cmp, ev_chain, ev_and, ev_or, ev_one, ev_not, ev_ife, ev_ix, ev_sl, ev_rev, ev_tup, ev_lst, ev_call, ev_bi, ev_me, ev_isi, evL_nil, evL_cons, wR, PD.R.bind, PD.RL.bindR, PD.RL.bindN, PD.RI.bindR, PD.R.bindI, PD.RT.bindR, PD.RT.bind, optR, optB, PD.okR, optT, okI, negR, outR, callR, slR, lcR, itD, ofR, PD.R.toS, PD.RT.toS, PD.RI.toS, PD.RA.toS, startR, rd, PD.Rho.at, imm, immL, imm1, tnt, mkT, inOk, argS, giveS, PD.E.asV, PD.EL.one, PD.Sl.of, truth, outOf, bop, cop, ltD, leD, subD, addD, mulD, fdivD, modD, powD, ixop, lenD, biop, put, putTg, putAll, wipeR, PD.E.isOmit, List.map_cons, List.map_nil, List.length_cons, List.length_nil, List.set_cons_zero, List.set_cons_succ, List.set_nil, List.getD_cons_zero, List.getD_cons_succ, List.cons_append, List.nil_append, List.replicate, Option.getD, ownAt, chgS, appD, extD, remD, revD, augI, isTy, killV, killS, hT.io, hT.k, w, im]
  · have e : imm d = false := by simpa using im
    simp [xl_nil, xl_cons, x_set, x_aug, x_app, x_rem, x_ext, x_setT, x_ex, x_ret, x_ret0, x_pass, x_brk, x_cnt, x_if, x_raise, x_try, ev_def, evT_def, ev_v, ev_c, ev_g, ev_bin, ev_neg, ev_cmp, ev_chain, ev_and, ev_or, ev_one, ev_not, ev_ife, ev_ix, ev_sl, ev_rev, ev_tup, ev_lst, ev_call, ev_bi, ev_me, ev_isi, evL_nil, evL_cons, wR, PD.R.bind, PD.RL.bindR, PD.RL.bindN, PD.RI.bindR, PD.R.bindI, PD.RT.bindR, PD.RT.bind, optR, optB, PD.okR, optT, okI, negR, outR, callR, slR, lcR, itD, ofR, PD.R.toS, PD.RT.toS, PD.RI.toS, PD.RA.toS, startR, rd, PD.Rho.at, imm, immL, imm1, tnt, mkT, inOk, argS, giveS, PD.E.asV, PD.EL.one, PD.Sl.of, truth, outOf, bop, cop, ltD, leD, subD, addD, mulD, fdivD, modD, powD, ixop, lenD, biop, put, putTg, putAll, wipeR, PD.E.isOmit, List.map_cons, List.map_nil, List.length_cons, List.length_nil, List.set_cons_zero, List.set_cons_succ, List.set_nil, List.getD_cons_zero, List.getD_cons_succ, List.cons_append, List.nil_append, List.replicate, Option.getD, ownAt, chgS, appD, extD, remD, revD, augI, isTy, killV, killS, hT.io, hT.k, w, e]
def sortedB : List Int → Bool
  | a :: b :: r => decide (a ≤ b) && sortedB (b :: r)
  | _ => true
def areT (ns : List Int) : Bool := ns.all (fun n => decide (0 ≤ n) && decide (n ≤ 20)) && sortedB ns && ns.all fun n => decide (ns.count n ≤ 4)
def bodyZ : SL := (.cons (.ife (.cmp .gt (.v 1) (.v 2)) (.cons (.ret (.c (.bool false))) .nil) .nil) .nil)
theorem zip_loop (T : Tab) (d0 : PyData) (t : Tn) : ∀ (ns : List Int) (a : Int) (s1 s2 : Sl),
    (sortedB (a :: ns) = true → ∃ s1' s2', forL (exSL T bodyZ) (.many [1, 2]) t (zipL ((a :: ns).map .int) (ns.map .int)) [.own d0, s1, s2] = .nx [.own d0, s1', s2']) ∧
    (sortedB (a :: ns) = false → ∃ ρ', forL (exSL T bodyZ) (.many [1, 2]) t (zipL ((a :: ns).map .int) (ns.map .int)) [.own d0, s1, s2] = .rt (.bool false) ρ')
  | [], a, s1, s2 => ⟨fun _ => ⟨s1, s2, rfl⟩, fun h => by cases h⟩
  | b :: ns, a, s1, s2 => by
    obtain ⟨i1, i2⟩ := zip_loop T d0 t ns b (.own (.int a)) (.own (.int b))
    have step : forL (exSL T bodyZ) (.many [1, 2]) t (zipL ((a :: b :: ns).map .int) ((b :: ns).map .int)) [.own d0, s1, s2] =
        if a ≤ b then forL (exSL T bodyZ) (.many [1, 2]) t (zipL ((b :: ns).map .int) (ns.map .int)) [.own d0, .own (.int a), .own (.int b)] else .rt (.bool false) [.own d0, .own (.int a), .own (.int b)] := by
      by_cases h : a ≤ b
      · have h2 : ¬ b < a := by omega
        simp only [zipL, List.map_cons, forL]
        simp [xl_nil, xl_cons, x_set, x_aug, x_app, x_rem, x_ext, x_setT, x_ex, x_ret, x_ret0, x_pass, x_brk, x_cnt, x_if, x_raise, x_try, ev_def, evT_def, ev_v, ev_c, ev_g, ev_bin, ev_neg, ev_cmp, ev_chain, ev_and, ev_or, ev_one, ev_not, ev_ife, ev_ix, ev_sl, ev_rev, ev_tup, ev_lst, ev_call, ev_bi, ev_me, ev_isi, evL_nil, evL_cons, wR, PD.R.bind, PD.RL.bindR, PD.RL.bindN, PD.RI.bindR, PD.R.bindI, PD.RT.bindR, PD.RT.bind, optR, optB, PD.okR, optT, okI, negR, outR, callR, slR, lcR, itD, ofR, PD.R.toS, PD.RT.toS, PD.RI.toS, PD.RA.toS, startR, rd, PD.Rho.at, imm, immL, imm1, tnt, mkT, inOk, argS, giveS, PD.E.asV, PD.EL.one, PD.Sl.of, truth, outOf, bop, cop, ltD, leD, subD, addD, mulD, fdivD, modD, powD, ixop, lenD, biop, put, putTg, putAll, wipeR, PD.E.isOmit, List.map_cons, List.map_nil, List.length_cons, List.length_nil, List.set_cons_zero, List.set_cons_succ, List.set_nil, List.getD_cons_zero, List.getD_cons_succ, List.cons_append, List.nil_append, List.replicate, Option.getD, ownAt, chgS, appD, extD, remD, revD, augI, isTy, killV, killS, bodyZ, h, h2]
      · have h2 : b < a := by omega
        simp only [zipL, List.map_cons, forL]
        simp [xl_nil, xl_cons, x_set, x_aug, x_app, x_rem, x_ext, x_setT, x_ex, x_ret, x_ret0, x_pass, x_brk, x_cnt, x_if, x_raise, x_try, ev_def, evT_def, ev_v, ev_c, ev_g, ev_bin, ev_neg, ev_cmp, ev_chain, ev_and, ev_or, ev_one, ev_not, ev_ife, ev_ix, ev_sl, ev_rev, ev_tup, ev_lst, ev_call, ev_bi, ev_me, ev_isi, evL_nil, evL_cons, wR, PD.R.bind, PD.RL.bindR, PD.RL.bindN, PD.RI.bindR, PD.R.bindI, PD.RT.bindR, PD.RT.bind, optR, optB, PD.okR, optT, okI, negR, outR, callR, slR, lcR, itD, ofR, PD.R.toS, PD.RT.toS, PD.RI.toS, PD.RA.toS, startR, rd, PD.Rho.at, imm, immL, imm1, tnt, mkT, inOk, argS, giveS, PD.E.asV, PD.EL.one, PD.Sl.of, truth, outOf, bop, cop, ltD, leD, subD, addD, mulD, fdivD, modD, powD, ixop, lenD, biop, put, putTg, putAll, wipeR, PD.E.isOmit, List.map_cons, List.map_nil, List.length_cons, List.length_nil, List.set_cons_zero, List.set_cons_succ, List.set_nil, List.getD_cons_zero, List.getD_cons_succ, List.cons_append, List.nil_append, List.replicate, Option.getD, ownAt, chgS, appD, extD, remD, revD, augI, isTy, killV, killS, bodyZ, h, h2]
    rw [step]
    by_cases h : a ≤ b
    · rw [if_pos h]
      simp only [sortedB, h, decide_true, Bool.true_and]
      exact ⟨i1, i2⟩
    · rw [if_neg h]
      simp only [sortedB, h, decide_false, Bool.false_and]
      exact ⟨(fun z => by cases z), fun _ => ⟨_, rfl⟩⟩
structure Has2 (T : Tab) (ck gm : Nat) : Prop where
  io : ∀ f, T.io f = false
  kd : ∀ d, noDict d = true → T.fn ck [d] = .ret (.bool (isKind d)) .none
  m : T.consts gm = some (.int 4)
theorem are_no (T : Tab) (ck gm : Nat) (d : PyData) (h : noDict d = true) (h2 : ∀ xs, d ≠ .tuple xs) : outOf (exSL T (sl_are_tiles_abae20 ck gm) (startR 3 [d])) = .ret (.bool false) .none := by
  unfold sl_are_tiles_abae20
  cases d with
  | dict _ => cases h
  | tuple xs => exact absurd rfl (h2 xs)
  | int n => simp [xl_nil, xl_cons, x_set, x_aug, x_app, x_rem, x_ext, x_setT, x_ex, x_ret, x_ret0, x_pass, x_brk, x_cnt, x_if, x_raise, x_try, ev_def, evT_def, ev_v, ev_c, ev_g, ev_bin, ev_neg, ev_cmp, ev_chain, ev_and, ev_or, ev_one, ev_not, ev_ife, ev_ix, ev_sl, ev_rev, ev_tup, ev_lst, ev_call, ev_bi, ev_me, ev_isi, evL_nil, evL_cons, wR, PD.R.bind, PD.RL.bindR, PD.RL.bindN, PD.RI.bindR, PD.R.bindI, PD.RT.bindR, PD.RT.bind, optR, optB, PD.okR, optT, okI, negR, outR, callR, slR, lcR, itD, ofR, PD.R.toS, PD.RT.toS, PD.RI.toS, PD.RA.toS, startR, rd, PD.Rho.at, imm, immL, imm1, tnt, mkT, inOk, argS, giveS, PD.E.asV, PD.EL.one, PD.Sl.of, truth, outOf, bop, cop, ltD, leD, subD, addD, mulD, fdivD, modD, powD, ixop, lenD, biop, put, putTg, putAll, wipeR, PD.E.isOmit, List.map_cons, List.map_nil, List.length_cons, List.length_nil, List.set_cons_zero, List.set_cons_succ, List.set_nil, List.getD_cons_zero, List.getD_cons_succ, List.cons_append, List.nil_append, List.replicate, Option.getD, ownAt, chgS, appD, extD, remD, revD, augI, isTy, killV, killS]
  | bool b => simp [xl_nil, xl_cons, x_set, x_aug, x_app, x_rem, x_ext, x_setT, x_ex, x_ret, x_ret0, x_pass, x_brk, x_cnt, x_if, x_raise, x_try, ev_def, evT_def, ev_v, ev_c, ev_g, ev_bin, ev_neg, ev_cmp, ev_chain, ev_and, ev_or, ev_one, ev_not, ev_ife, ev_ix, ev_sl, ev_rev, ev_tup, ev_lst, ev_call, ev_bi, ev_me, ev_isi, evL_nil, evL_cons, wR, PD.R.bind, PD.RL.bindR, PD.RL.bindN, PD.RI.bindR, PD.R.bindI, PD.RT.bindR, PD.RT.bind, optR, optB, PD.okR, optT, okI, negR, outR, callR, slR, lcR, itD, ofR, PD.R.toS, PD.RT.toS, PD.RI.toS, PD.RA.toS, startR, rd, PD.Rho.at, imm, immL, imm1, tnt, mkT, inOk, argS, giveS, PD.E.asV, PD.EL.one, PD.Sl.of, truth, outOf, bop, cop, ltD, leD, subD, addD, mulD, fdivD, modD, powD, ixop, lenD, biop, put, putTg, putAll, wipeR, PD.E.isOmit, List.map_cons, List.map_nil, List.length_cons, List.length_nil, List.set_cons_zero, List.set_cons_succ, List.set_nil, List.getD_cons_zero, List.getD_cons_succ, List.cons_append, List.nil_append, List.replicate, Option.getD, ownAt, chgS, appD, extD, remD, revD, augI, isTy, killV, killS]
  | none => simp [xl_nil, xl_cons, x_set, x_aug, x_app, x_rem, x_ext, x_setT, x_ex, x_ret, x_ret0, x_pass, x_brk, x_cnt, x_if, x_raise, x_try, ev_def, evT_def, ev_v, ev_c, ev_g, ev_bin, ev_neg, ev_cmp, ev_chain, ev_and, ev_or, ev_one, ev_not, ev_ife, ev_ix, ev_sl, ev_rev, ev_tup, ev_lst, ev_call, ev_bi, ev_me, ev_isi, evL_nil, evL_cons, wR, PD.R.bind, PD.RL.bindR, PD.RL.bindN, PD.RI.bindR, PD.R.bindI, PD.RT.bindR, PD.RT.bind, optR, optB, PD.okR, optT, okI, negR, outR, callR, slR, lcR, itD, ofR, PD.R.toS, PD.RT.toS, PD.RI.toS, PD.RA.toS, startR, rd, PD.Rho.at, imm, immL, imm1, tnt, mkT, inOk, argS, giveS, PD.E.asV, PD.EL.one, PD.Sl.of, truth, outOf, bop, cop, ltD, leD, subD, addD, mulD, fdivD, modD, powD, ixop, lenD, biop, put, putTg, putAll, wipeR, PD.E.isOmit, List.map_cons, List.map_nil, List.length_cons, List.length_nil, List.set_cons_zero, List.set_cons_succ, List.set_nil, List.getD_cons_zero, List.getD_cons_succ, List.cons_append, List.nil_append, List.replicate, Option.getD, ownAt, chgS, appD, extD, remD, revD, augI, isTy, killV, killS]
  | str x => simp [xl_nil, xl_cons, x_set, x_aug, x_app, x_rem, x_ext, x_setT, x_ex, x_ret, x_ret0, x_pass, x_brk, x_cnt, x_if, x_raise, x_try, ev_def, evT_def, ev_v, ev_c, ev_g, ev_bin, ev_neg, ev_cmp, ev_chain, ev_and, ev_or, ev_one, ev_not, ev_ife, ev_ix, ev_sl, ev_rev, ev_tup, ev_lst, ev_call, ev_bi, ev_me, ev_isi, evL_nil, evL_cons, wR, PD.R.bind, PD.RL.bindR, PD.RL.bindN, PD.RI.bindR, PD.R.bindI, PD.RT.bindR, PD.RT.bind, optR, optB, PD.okR, optT, okI, negR, outR, callR, slR, lcR, itD, ofR, PD.R.toS, PD.RT.toS, PD.RI.toS, PD.RA.toS, startR, rd, PD.Rho.at, imm, immL, imm1, tnt, mkT, inOk, argS, giveS, PD.E.asV, PD.EL.one, PD.Sl.of, truth, outOf, bop, cop, ltD, leD, subD, addD, mulD, fdivD, modD, powD, ixop, lenD, biop, put, putTg, putAll, wipeR, PD.E.isOmit, List.map_cons, List.map_nil, List.length_cons, List.length_nil, List.set_cons_zero, List.set_cons_succ, List.set_nil, List.getD_cons_zero, List.getD_cons_succ, List.cons_append, List.nil_append, List.replicate, Option.getD, ownAt, chgS, appD, extD, remD, revD, augI, isTy, killV, killS]
  | list xs => simp [xl_nil, xl_cons, x_set, x_aug, x_app, x_rem, x_ext, x_setT, x_ex, x_ret, x_ret0, x_pass, x_brk, x_cnt, x_if, x_raise, x_try, ev_def, evT_def, ev_v, ev_c, ev_g, ev_bin, ev_neg, ev_cmp, ev_chain, ev_and, ev_or, ev_one, ev_not, ev_ife, ev_ix, ev_sl, ev_rev, ev_tup, ev_lst, ev_call, ev_bi, ev_me, ev_isi, evL_nil, evL_cons, wR, PD.R.bind, PD.RL.bindR, PD.RL.bindN, PD.RI.bindR, PD.R.bindI, PD.RT.bindR, PD.RT.bind, optR, optB, PD.okR, optT, okI, negR, outR, callR, slR, lcR, itD, ofR, PD.R.toS, PD.RT.toS, PD.RI.toS, PD.RA.toS, startR, rd, PD.Rho.at, imm, immL, imm1, tnt, mkT, inOk, argS, giveS, PD.E.asV, PD.EL.one, PD.Sl.of, truth, outOf, bop, cop, ltD, leD, subD, addD, mulD, fdivD, modD, powD, ixop, lenD, biop, put, putTg, putAll, wipeR, PD.E.isOmit, List.map_cons, List.map_nil, List.length_cons, List.length_nil, List.set_cons_zero, List.set_cons_succ, List.set_nil, List.getD_cons_zero, List.getD_cons_succ, List.cons_append, List.nil_append, List.replicate, Option.getD, ownAt, chgS, appD, extD, remD, revD, augI, isTy, killV, killS]
def lc1 (ck : Nat) : E := .lc (.v 1) (.one 1) (.ex (.v 0)) (.not1 (.call ck (.cons (.v 1) .nil))) [("one", 1)]
theorem lc1_ok (T : Tab) (ck gm : Nat) (hT : Has2 T ck gm) (ds : List PyData) (s1 s2 : Sl) (hd : ∀ d ∈ ds, noDict d = true) (im : immL ds = true) (hl : ds.length ≤ lineN) :
    evB T (lc1 ck) [.own (.tuple ds), s1, s2] = wR (.ok (.list (ds.filter fun d => !isKind d)) none) := by
  have q := lc_ev (T := T) (elt := .v 1) (tg := .one 1) (it := .ex (.v 0)) (cond := .not1 (.call ck (.cons (.v 1) .nil))) (own := [("one", 1)]) (ρ := [.own (.tuple ds), s1, s2]) (ds := ds) (t := none) (fun d => !isKind d) id (by simp [xl_nil, xl_cons, x_set, x_aug, x_app, x_rem, x_ext, x_setT, x_ex, x_ret, x_ret0, x_pass, x_brk, x_cnt, x_if, x_raise, x_try, ev_def, evT_def, ev_v, ev_c, ev_g, ev_bin, ev_neg, ev_cmp, ev_chain, ev_and, ev_or, ev_one, ev_not, ev_ife, ev_ix, ev_sl, ev_rev, ev_tup, ev_lst, ev_call, ev_bi, ev_me, ev_isi, evL_nil, evL_cons, wR, PD.R.bind, PD.RL.bindR, PD.RL.bindN, PD.RI.bindR, PD.R.bindI, PD.RT.bindR, PD.RT.bind, optR, optB, PD.okR, optT, okI, negR, outR, callR, slR, lcR, itD, ofR, PD.R.toS, PD.RT.toS, PD.RI.toS, PD.RA.toS, startR, rd, PD.Rho.at, imm, immL, imm1, tnt, mkT, inOk, argS, giveS, PD.E.asV, PD.EL.one, PD.Sl.of, truth, outOf, bop, cop, ltD, leD, subD, addD, mulD, fdivD, modD, powD, ixop, lenD, biop, put, putTg, putAll, wipeR, PD.E.isOmit, List.map_cons, List.map_nil, List.length_cons, List.length_nil, List.set_cons_zero, List.set_cons_succ, List.set_nil, List.getD_cons_zero, List.getD_cons_succ, List.cons_append, List.nil_append, List.replicate, Option.getD, ownAt, chgS, appD, extD, remD, revD, augI, isTy, killV, killS, evI, im]) (fun d hm => by
    have i : imm d = true := immL_mem im hm
    refine ⟨[.own (.tuple ds), .own d, s2], by simp [putTg, put, wipeR, i], ?_, ?_⟩
    · simp only [xl_nil, xl_cons, x_set, x_aug, x_app, x_rem, x_ext, x_setT, x_ex, x_ret, x_ret0, x_pass, x_brk, x_cnt, x_if, x_raise, x_try, ev_def, evT_def, ev_v, ev_c, ev_g, ev_bin, ev_neg, ev_cmp, ev_chain, ev_and, ev_or, ev_one, ev_not, ev_ife, ev_ix, ev_sl, ev_rev, ev_tup, ev_lst, ev_call, ev_bi, ev_me, ev_isi, evL_nil, evL_cons, wR, PD.R.bind, PD.RL.bindR, PD.RL.bindN, PD.RI.bindR, PD.R.bindI, PD.RT.bindR, PD.RT.bind, optR, optB, PD.okR, optT, okI, negR, outR, callR, slR, lcR, itD, ofR, PD.R.toS, PD.RT.toS, PD.RI.toS, PD.RA.toS, startR, rd, PD.Rho.at, imm, immL, imm1, tnt, mkT, inOk, argS, giveS, PD.E.asV, PD.EL.one, PD.Sl.of, truth, outOf, bop, cop, ltD, leD, subD, addD, mulD, fdivD, modD, powD, ixop, lenD, biop, put, putTg, putAll, wipeR, PD.E.isOmit, List.map_cons, List.map_nil, List.length_cons, List.length_nil, List.set_cons_zero, List.set_cons_succ, List.set_nil, List.getD_cons_zero, List.getD_cons_succ, List.cons_append, List.nil_append, List.replicate, Option.getD, ownAt, chgS, appD, extD, remD, revD, augI, isTy, killV, killS, i, if_true]
      simp [xl_nil, xl_cons, x_set, x_aug, x_app, x_rem, x_ext, x_setT, x_ex, x_ret, x_ret0, x_pass, x_brk, x_cnt, x_if, x_raise, x_try, ev_def, evT_def, ev_v, ev_c, ev_g, ev_bin, ev_neg, ev_cmp, ev_chain, ev_and, ev_or, ev_one, ev_not, ev_ife, ev_ix, ev_sl, ev_rev, ev_tup, ev_lst, ev_call, ev_bi, ev_me, ev_isi, evL_nil, evL_cons, wR, PD.R.bind, PD.RL.bindR, PD.RL.bindN, PD.RI.bindR, PD.R.bindI, PD.RT.bindR, PD.RT.bind, optR, optB, PD.okR, optT, okI, negR, outR, callR, slR, lcR, itD, ofR, PD.R.toS, PD.RT.toS, PD.RI.toS, PD.RA.toS, startR, rd, PD.Rho.at, imm, immL, imm1, tnt, mkT, inOk, argS, giveS, PD.E.asV, PD.EL.one, PD.Sl.of, truth, outOf, bop, cop, ltD, leD, subD, addD, mulD, fdivD, modD, powD, ixop, lenD, biop, put, putTg, putAll, wipeR, PD.E.isOmit, List.map_cons, List.map_nil, List.length_cons, List.length_nil, List.set_cons_zero, List.set_cons_succ, List.set_nil, List.getD_cons_zero, List.getD_cons_succ, List.cons_append, List.nil_append, List.replicate, Option.getD, ownAt, chgS, appD, extD, remD, revD, augI, isTy, killV, killS, i, hT.kd d (hd d hm), hT.io]
    · intro _
      simp [ev_v, rd, Rho.at, i, wR]) hl
  rw [List.map_id] at q
  exact q
theorem are_bad (T : Tab) (ck gm : Nat) (hT : Has2 T ck gm) (ds : List PyData) (hd : ∀ d ∈ ds, noDict d = true) (im : immL ds = true) (hl : ds.length ≤ lineN) (hb : ∃ d ∈ ds, isKind d = false) : outOf (exSL T (sl_are_tiles_abae20 ck gm) (startR 3 [.tuple ds])) = .ret (.bool false) .none := by
  have e := lc1_ok T ck gm hT ds .un .un hd im hl
  unfold lc1 at e
  have e2 : (ds.filter fun d => !isKind d).isEmpty = false := by
    obtain ⟨d, hm, hk⟩ := hb
    cases q : ds.filter fun d => !isKind d with
    | nil =>
      have := List.filter_eq_nil_iff.mp q d hm
      simp [hk] at this
    | cons _ _ => rfl
  unfold sl_are_tiles_abae20
  simp [xl_nil, xl_cons, x_set, x_aug, x_app, x_rem, x_ext, x_setT, x_ex, x_ret, x_ret0, x_pass, x_brk, x_cnt, x_if, x_raise, x_try, ev_def, evT_def, ev_v, ev_c, ev_g, ev_bin, ev_neg, ev_cmp, ev_chain, ev_and, ev_or, ev_one, ev_not, ev_ife, ev_ix, ev_sl, ev_rev, ev_tup, ev_lst, ev_call, ev_bi, ev_me, ev_isi, evL_nil, evL_cons, wR, PD.R.bind, PD.RL.bindR, PD.RL.bindN, PD.RI.bindR, PD.R.bindI, PD.RT.bindR, PD.RT.bind, optR, optB, PD.okR, optT, okI, negR, outR, callR, slR, lcR, itD, ofR, PD.R.toS, PD.RT.toS, PD.RI.toS, PD.RA.toS, startR, rd, PD.Rho.at, imm, immL, imm1, tnt, mkT, inOk, argS, giveS, PD.E.asV, PD.EL.one, PD.Sl.of, truth, outOf, bop, cop, ltD, leD, subD, addD, mulD, fdivD, modD, powD, ixop, lenD, biop, put, putTg, putAll, wipeR, PD.E.isOmit, List.map_cons, List.map_nil, List.length_cons, List.length_nil, List.set_cons_zero, List.set_cons_succ, List.set_nil, List.getD_cons_zero, List.getD_cons_succ, List.cons_append, List.nil_append, List.replicate, Option.getD, ownAt, chgS, appD, extD, remD, revD, augI, isTy, killV, killS, im, e, e2]
theorem isKind_all (ns : List Int) (h : ns.all (fun n => decide (0 ≤ n) && decide (n ≤ 20)) = true) : (ns.map PyData.int).filter (fun d => !isKind d) = [] := by
  rw [List.filter_eq_nil_iff]
  intro d hd
  obtain ⟨n, hn, rfl⟩ := List.mem_map.mp hd
  have := List.all_eq_true.mp h n hn
  simp [isKind, this]
def lc2 (gm : Nat) : E := .lc (.v 1) (.one 1) (.ex (.v 0)) (.cmp .gt (.me .count (.v 0) (.cons (.v 1) .nil)) (.g gm)) [("one", 1)]
theorem lc2_ok (T : Tab) (ck gm : Nat) (hT : Has2 T ck gm) (ns : List Int) (s1 s2 : Sl) (hl : ns.length ≤ lineN) :
    evB T (lc2 gm) [.own (.tuple (ns.map .int)), s1, s2] = wR (.ok (.list ((ns.map PyData.int).filter fun d => match d with
      | .int n => decide (4 < ns.count n)
      | _ => false)) none) := by
  have q := lc_ev (T := T) (elt := .v 1) (tg := .one 1) (it := .ex (.v 0)) (cond := .cmp .gt (.me .count (.v 0) (.cons (.v 1) .nil)) (.g gm)) (own := [("one", 1)]) (ρ := [.own (.tuple (ns.map .int)), s1, s2]) (ds := ns.map .int) (t := none) (fun d => match d with
      | .int n => decide (4 < ns.count n)
      | _ => false) id (by simp [xl_nil, xl_cons, x_set, x_aug, x_app, x_rem, x_ext, x_setT, x_ex, x_ret, x_ret0, x_pass, x_brk, x_cnt, x_if, x_raise, x_try, ev_def, evT_def, ev_v, ev_c, ev_g, ev_bin, ev_neg, ev_cmp, ev_chain, ev_and, ev_or, ev_one, ev_not, ev_ife, ev_ix, ev_sl, ev_rev, ev_tup, ev_lst, ev_call, ev_bi, ev_me, ev_isi, evL_nil, evL_cons, wR, PD.R.bind, PD.RL.bindR, PD.RL.bindN, PD.RI.bindR, PD.R.bindI, PD.RT.bindR, PD.RT.bind, optR, optB, PD.okR, optT, okI, negR, outR, callR, slR, lcR, itD, ofR, PD.R.toS, PD.RT.toS, PD.RI.toS, PD.RA.toS, startR, rd, PD.Rho.at, imm, immL, imm1, tnt, mkT, inOk, argS, giveS, PD.E.asV, PD.EL.one, PD.Sl.of, truth, outOf, bop, cop, ltD, leD, subD, addD, mulD, fdivD, modD, powD, ixop, lenD, biop, put, putTg, putAll, wipeR, PD.E.isOmit, List.map_cons, List.map_nil, List.length_cons, List.length_nil, List.set_cons_zero, List.set_cons_succ, List.set_nil, List.getD_cons_zero, List.getD_cons_succ, List.cons_append, List.nil_append, List.replicate, Option.getD, ownAt, chgS, appD, extD, remD, revD, augI, isTy, killV, killS, evI, immL_int]) (fun d hm => by
    obtain ⟨n, hn, rfl⟩ := List.mem_map.mp hm
    refine ⟨[.own (.tuple (ns.map .int)), .own (.int n), s2], by simp [putTg, put, wipeR, imm], ?_, ?_⟩
    · simp [xl_nil, xl_cons, x_set, x_aug, x_app, x_rem, x_ext, x_setT, x_ex, x_ret, x_ret0, x_pass, x_brk, x_cnt, x_if, x_raise, x_try, ev_def, evT_def, ev_v, ev_c, ev_g, ev_bin, ev_neg, ev_cmp, ev_chain, ev_and, ev_or, ev_one, ev_not, ev_ife, ev_ix, ev_sl, ev_rev, ev_tup, ev_lst, ev_call, ev_bi, ev_me, ev_isi, evL_nil, evL_cons, wR, PD.R.bind, PD.RL.bindR, PD.RL.bindN, PD.RI.bindR, PD.R.bindI, PD.RT.bindR, PD.RT.bind, optR, optB, PD.okR, optT, okI, negR, outR, callR, slR, lcR, itD, ofR, PD.R.toS, PD.RT.toS, PD.RI.toS, PD.RA.toS, startR, rd, PD.Rho.at, imm, immL, imm1, tnt, mkT, inOk, argS, giveS, PD.E.asV, PD.EL.one, PD.Sl.of, truth, outOf, bop, cop, ltD, leD, subD, addD, mulD, fdivD, modD, powD, ixop, lenD, biop, put, putTg, putAll, wipeR, PD.E.isOmit, List.map_cons, List.map_nil, List.length_cons, List.length_nil, List.set_cons_zero, List.set_cons_succ, List.set_nil, List.getD_cons_zero, List.getD_cons_succ, List.cons_append, List.nil_append, List.replicate, Option.getD, ownAt, chgS, appD, extD, remD, revD, augI, isTy, killV, killS, immL_int, meop, countD, sh_int, shT_int, count_int, hT.m]
      omega
    · intro _
      simp [ev_v, rd, Rho.at, imm, wR]) (by simpa using hl)
  rw [List.map_id] at q
  exact q
theorem are_ints (T : Tab) (ck gm : Nat) (hT : Has2 T ck gm) (ns : List Int) (hl : ns.length ≤ lineN) : outOf (exSL T (sl_are_tiles_abae20 ck gm) (startR 3 [.tuple (ns.map .int)])) = .ret (.bool (areT ns)) .none := by
  by_cases h1 : ns.all (fun n => decide (0 ≤ n) && decide (n ≤ 20)) = true
  · have e := lc1_ok T ck gm hT (ns.map .int) .un .un (fun d hd => by obtain ⟨n, _, rfl⟩ := List.mem_map.mp hd; rfl) (immL_int ns) (by simpa using hl)
    rw [isKind_all ns h1] at e
    unfold lc1 at e
    have zi : evI T (.zip (.v 0) (.sl (.v 0) (.c (.int 1)) .omit)) [.own (.tuple (ns.map .int)), .un, .un] = .ok (zipL (ns.map .int) ((ns.drop 1).map .int)) (some []) := by
      have : cutL (ns.map PyData.int) (some 1) none = (ns.drop 1).map .int := by
        unfold cutL slIx
        cases ns with
        | nil => simp
        | cons a r =>
          simp
          rw [List.take_of_length_le (by simp)]
      have im2 : immL (ns.map PyData.int).tail = true := by rw [← List.map_tail]; exact immL_int _
      simp [xl_nil, xl_cons, x_set, x_aug, x_app, x_rem, x_ext, x_setT, x_ex, x_ret, x_ret0, x_pass, x_brk, x_cnt, x_if, x_raise, x_try, ev_def, evT_def, ev_v, ev_c, ev_g, ev_bin, ev_neg, ev_cmp, ev_chain, ev_and, ev_or, ev_one, ev_not, ev_ife, ev_ix, ev_sl, ev_rev, ev_tup, ev_lst, ev_call, ev_bi, ev_me, ev_isi, evL_nil, evL_cons, wR, PD.R.bind, PD.RL.bindR, PD.RL.bindN, PD.RI.bindR, PD.R.bindI, PD.RT.bindR, PD.RT.bind, optR, optB, PD.okR, optT, okI, negR, outR, callR, slR, lcR, itD, ofR, PD.R.toS, PD.RT.toS, PD.RI.toS, PD.RA.toS, startR, rd, PD.Rho.at, imm, immL, imm1, tnt, mkT, inOk, argS, giveS, PD.E.asV, PD.EL.one, PD.Sl.of, truth, outOf, bop, cop, ltD, leD, subD, addD, mulD, fdivD, modD, powD, ixop, lenD, biop, put, putTg, putAll, wipeR, PD.E.isOmit, List.map_cons, List.map_nil, List.length_cons, List.length_nil, List.set_cons_zero, List.set_cons_succ, List.set_nil, List.getD_cons_zero, List.getD_cons_succ, List.cons_append, List.nil_append, List.replicate, Option.getD, ownAt, chgS, appD, extD, remD, revD, augI, isTy, killV, killS, evI, immL_int, slop, partOf, this, zipD, im2]
    have fo : ∃ r, forL (exSL T bodyZ) (.many [1, 2]) (some []) (zipL (ns.map .int) ((ns.drop 1).map .int)) [.own (.tuple (ns.map .int)), .un, .un] = r ∧ ((sortedB ns = true ∧ ∃ s1 s2, r = .nx [.own (.tuple (ns.map .int)), s1, s2]) ∨ (sortedB ns = false ∧ ∃ ρ', r = .rt (.bool false) ρ')) := by
      refine ⟨_, rfl, ?_⟩
      cases ns with
      | nil => exact .inl ⟨rfl, .un, .un, rfl⟩
      | cons a r =>
        obtain ⟨i1, i2⟩ := zip_loop T (.tuple ((a :: r).map .int)) (some []) r a .un .un
        cases hs : sortedB (a :: r) with
        | true => exact .inl ⟨rfl, i1 hs⟩
        | false => exact .inr ⟨rfl, i2 hs⟩
    obtain ⟨r, fo, hr⟩ := fo
    generalize zipL (ns.map PyData.int) ((ns.drop 1).map .int) = zl at zi fo
    unfold sl_are_tiles_abae20
    unfold bodyZ at fo
    rcases hr with ⟨hs, s1, s2, rfl⟩ | ⟨hs, ρ', rfl⟩
    · have e2 := lc2_ok T ck gm hT ns s1 s2 hl
      unfold lc2 at e2
      have e3 : (((ns.map PyData.int).filter fun d => match d with
          | .int n => decide (4 < ns.count n)
          | _ => false).isEmpty) = ns.all fun n => decide (ns.count n ≤ 4) := by
        rw [Bool.eq_iff_iff, List.isEmpty_iff, List.filter_eq_nil_iff, List.all_eq_true]
        constructor
        · intro q n hn
          have := q (.int n) (List.mem_map.mpr ⟨n, hn, rfl⟩)
          simp at this ⊢
          omega
        · intro q d hd
          obtain ⟨n, hn, rfl⟩ := List.mem_map.mp hd
          have := q n hn
          simp at this ⊢
          omega
      have e4 : areT ns = ns.all fun n => decide (ns.count n ≤ 4) := by unfold areT; rw [h1, hs]; rfl
      rw [e4, ← e3]
      simp [xl_nil, xl_cons, x_set, x_aug, x_app, x_rem, x_ext, x_setT, x_ex, x_ret, x_ret0, x_pass, x_brk, x_cnt, x_if, x_raise, x_try, ev_def, evT_def, ev_v, ev_c, ev_g, ev_bin, ev_neg, ev_cmp, ev_chain, ev_and, ev_or, ev_one, ev_not, ev_ife, ev_ix, ev_sl, ev_rev, ev_tup, ev_lst, ev_call, ev_bi, ev_me, ev_isi, evL_nil, evL_cons, wR, PD.R.bind, PD.RL.bindR, PD.RL.bindN, PD.RI.bindR, PD.R.bindI, PD.RT.bindR, PD.RT.bind, optR, optB, PD.okR, optT, okI, negR, outR, callR, slR, lcR, itD, ofR, PD.R.toS, PD.RT.toS, PD.RI.toS, PD.RA.toS, startR, rd, PD.Rho.at, imm, immL, imm1, tnt, mkT, inOk, argS, giveS, PD.E.asV, PD.EL.one, PD.Sl.of, truth, outOf, bop, cop, ltD, leD, subD, addD, mulD, fdivD, modD, powD, ixop, lenD, biop, put, putTg, putAll, wipeR, PD.E.isOmit, List.map_cons, List.map_nil, List.length_cons, List.length_nil, List.set_cons_zero, List.set_cons_succ, List.set_nil, List.getD_cons_zero, List.getD_cons_succ, List.cons_append, List.nil_append, List.replicate, Option.getD, ownAt, chgS, appD, extD, remD, revD, augI, isTy, killV, killS, immL_int, e, x_for, zi, lockR, fo, e2]
    · have e4 : areT ns = false := by unfold areT; rw [h1, hs]; rfl
      rw [e4]
      simp [xl_nil, xl_cons, x_set, x_aug, x_app, x_rem, x_ext, x_setT, x_ex, x_ret, x_ret0, x_pass, x_brk, x_cnt, x_if, x_raise, x_try, ev_def, evT_def, ev_v, ev_c, ev_g, ev_bin, ev_neg, ev_cmp, ev_chain, ev_and, ev_or, ev_one, ev_not, ev_ife, ev_ix, ev_sl, ev_rev, ev_tup, ev_lst, ev_call, ev_bi, ev_me, ev_isi, evL_nil, evL_cons, wR, PD.R.bind, PD.RL.bindR, PD.RL.bindN, PD.RI.bindR, PD.R.bindI, PD.RT.bindR, PD.RT.bind, optR, optB, PD.okR, optT, okI, negR, outR, callR, slR, lcR, itD, ofR, PD.R.toS, PD.RT.toS, PD.RI.toS, PD.RA.toS, startR, rd, PD.Rho.at, imm, immL, imm1, tnt, mkT, inOk, argS, giveS, PD.E.asV, PD.EL.one, PD.Sl.of, truth, outOf, bop, cop, ltD, leD, subD, addD, mulD, fdivD, modD, powD, ixop, lenD, biop, put, putTg, putAll, wipeR, PD.E.isOmit, List.map_cons, List.map_nil, List.length_cons, List.length_nil, List.set_cons_zero, List.set_cons_succ, List.set_nil, List.getD_cons_zero, List.getD_cons_succ, List.cons_append, List.nil_append, List.replicate, Option.getD, ownAt, chgS, appD, extD, remD, revD, augI, isTy, killV, killS, immL_int, e, x_for, zi, lockR, fo]
  · have e4 : areT ns = false := by
      unfold areT
      rw [Bool.eq_false_iff.mpr h1]
      rfl
    rw [e4]
    refine are_bad T ck gm hT (ns.map .int) (fun d hd => by obtain ⟨n, _, rfl⟩ := List.mem_map.mp hd; rfl) (immL_int ns) (by simpa using hl) ?_
    obtain ⟨n, hn, hk⟩ := List.all_eq_false.mp (Bool.eq_false_iff.mpr h1)
    exact ⟨.int n, List.mem_map.mpr ⟨n, hn, rfl⟩, by simpa [isKind] using hk⟩
end PL
set_option maxHeartbeats 4000000
namespace PL
open PySem PD PF
/-- are_tiles, of data -/
def okT (d : PyData) : Prop := noDict d = true ∧ imm d = true
structure Has3 (T : Tab) (ca gt : Nat) : Prop where
  io : ∀ f, T.io f = false
  ar : ∀ ns : List Int, ns.length ≤ lineN → T.fn ca [.tuple (ns.map .int)] = .ret (.bool (areT ns)) .none
  m : T.consts gt = some (.int 11)
def isHand (ns : List Int) : Bool := areT ns && decide (1 ≤ ns.length) && decide (ns.length ≤ 11)
theorem checked_ok (T : Tab) (ca gt : Nat) (hT : Has3 T ca gt) (ns : List Int) (hl : ns.length ≤ lineN) : outOf (exSL T (sl_checked_eba4db ca gt) (startR 1 [.tuple (ns.map .int)])) = if isHand ns = true then .ret (.tuple (ns.map .int)) .none else .ex "BadHand" .none := by
  unfold sl_checked_eba4db
  have a := hT.ar ns hl
  cases ha : areT ns with
  | false =>
    have e : isHand ns = false := by unfold isHand; rw [ha]; rfl
    rw [e]
    simp [xl_nil, xl_cons, x_set, x_aug, x_app, x_rem, x_ext, x_setT, x_ex, x_ret, x_ret0, x_pass, x_brk, x_cnt, x_if, x_raise, x_try, ev_def, evT_def, ev_v, ev_c, ev_g, ev_bin, ev_neg, ev_cmp, ev_chain, ev_and, ev_or, ev_one, ev_not, ev_ife, ev_ix, ev_sl, ev_rev, ev_tup, ev_lst, ev_call, ev_bi, ev_me, ev_isi, evL_nil, evL_cons, wR, PD.R.bind, PD.RL.bindR, PD.RL.bindN, PD.RI.bindR, PD.R.bindI, PD.RT.bindR, PD.RT.bind, optR, optB, PD.okR, optT, okI, negR, outR, callR, slR, lcR, itD, ofR, PD.R.toS, PD.RT.toS, PD.RI.toS, PD.RA.toS, startR, rd, PD.Rho.at, imm, immL, imm1, tnt, mkT, inOk, argS, giveS, PD.E.asV, PD.EL.one, PD.Sl.of, truth, outOf, bop, cop, ltD, leD, subD, addD, mulD, fdivD, modD, powD, ixop, lenD, biop, put, putTg, putAll, wipeR, PD.E.isOmit, List.map_cons, List.map_nil, List.length_cons, List.length_nil, List.set_cons_zero, List.set_cons_succ, List.set_nil, List.getD_cons_zero, List.getD_cons_succ, List.cons_append, List.nil_append, List.replicate, Option.getD, ownAt, chgS, appD, extD, remD, revD, augI, isTy, killV, killS, immL_int, hT.io, a, ha]
  | true =>
    by_cases h1 : 1 ≤ ns.length
    · by_cases h2 : ns.length ≤ 11
      · have e : isHand ns = true := by unfold isHand; rw [ha]; simp [h1, h2]
        rw [e]
        have h1' : (1 : Int) ≤ (ns.length : Int) := by omega
        have h2' : (ns.length : Int) ≤ 11 := by omega
        simp [xl_nil, xl_cons, x_set, x_aug, x_app, x_rem, x_ext, x_setT, x_ex, x_ret, x_ret0, x_pass, x_brk, x_cnt, x_if, x_raise, x_try, ev_def, evT_def, ev_v, ev_c, ev_g, ev_bin, ev_neg, ev_cmp, ev_chain, ev_and, ev_or, ev_one, ev_not, ev_ife, ev_ix, ev_sl, ev_rev, ev_tup, ev_lst, ev_call, ev_bi, ev_me, ev_isi, evL_nil, evL_cons, wR, PD.R.bind, PD.RL.bindR, PD.RL.bindN, PD.RI.bindR, PD.R.bindI, PD.RT.bindR, PD.RT.bind, optR, optB, PD.okR, optT, okI, negR, outR, callR, slR, lcR, itD, ofR, PD.R.toS, PD.RT.toS, PD.RI.toS, PD.RA.toS, startR, rd, PD.Rho.at, imm, immL, imm1, tnt, mkT, inOk, argS, giveS, PD.E.asV, PD.EL.one, PD.Sl.of, truth, outOf, bop, cop, ltD, leD, subD, addD, mulD, fdivD, modD, powD, ixop, lenD, biop, put, putTg, putAll, wipeR, PD.E.isOmit, List.map_cons, List.map_nil, List.length_cons, List.length_nil, List.set_cons_zero, List.set_cons_succ, List.set_nil, List.getD_cons_zero, List.getD_cons_succ, List.cons_append, List.nil_append, List.replicate, Option.getD, ownAt, chgS, appD, extD, remD, revD, augI, isTy, killV, killS, immL_int, hT.io, a, ha, hT.m, leD, h1', h2']
      · have e : isHand ns = false := by unfold isHand; rw [ha]; simp [h1, h2]
        rw [e]
        have h1' : (1 : Int) ≤ (ns.length : Int) := by omega
        have h2' : ¬ (ns.length : Int) ≤ 11 := by omega
        simp [xl_nil, xl_cons, x_set, x_aug, x_app, x_rem, x_ext, x_setT, x_ex, x_ret, x_ret0, x_pass, x_brk, x_cnt, x_if, x_raise, x_try, ev_def, evT_def, ev_v, ev_c, ev_g, ev_bin, ev_neg, ev_cmp, ev_chain, ev_and, ev_or, ev_one, ev_not, ev_ife, ev_ix, ev_sl, ev_rev, ev_tup, ev_lst, ev_call, ev_bi, ev_me, ev_isi, evL_nil, evL_cons, wR, PD.R.bind, PD.RL.bindR, PD.RL.bindN, PD.RI.bindR, PD.R.bindI, PD.RT.bindR, PD.RT.bind, optR, optB, PD.okR, optT, okI, negR, outR, callR, slR, lcR, itD, ofR, PD.R.toS, PD.RT.toS, PD.RI.toS, PD.RA.toS, startR, rd, PD.Rho.at, imm, immL, imm1, tnt, mkT, inOk, argS, giveS, PD.E.asV, PD.EL.one, PD.Sl.of, truth, outOf, bop, cop, ltD, leD, subD, addD, mulD, fdivD, modD, powD, ixop, lenD, biop, put, putTg, putAll, wipeR, PD.E.isOmit, List.map_cons, List.map_nil, List.length_cons, List.length_nil, List.set_cons_zero, List.set_cons_succ, List.set_nil, List.getD_cons_zero, List.getD_cons_succ, List.cons_append, List.nil_append, List.replicate, Option.getD, ownAt, chgS, appD, extD, remD, revD, augI, isTy, killV, killS, immL_int, hT.io, a, ha, hT.m, leD, h1', h2']
    · have e : isHand ns = false := by unfold isHand; rw [ha]; simp [h1]
      rw [e]
      have h1' : ¬ (1 : Int) ≤ (ns.length : Int) := by omega
      simp [xl_nil, xl_cons, x_set, x_aug, x_app, x_rem, x_ext, x_setT, x_ex, x_ret, x_ret0, x_pass, x_brk, x_cnt, x_if, x_raise, x_try, ev_def, evT_def, ev_v, ev_c, ev_g, ev_bin, ev_neg, ev_cmp, ev_chain, ev_and, ev_or, ev_one, ev_not, ev_ife, ev_ix, ev_sl, ev_rev, ev_tup, ev_lst, ev_call, ev_bi, ev_me, ev_isi, evL_nil, evL_cons, wR, PD.R.bind, PD.RL.bindR, PD.RL.bindN, PD.RI.bindR, PD.R.bindI, PD.RT.bindR, PD.RT.bind, optR, optB, PD.okR, optT, okI, negR, outR, callR, slR, lcR, itD, ofR, PD.R.toS, PD.RT.toS, PD.RI.toS, PD.RA.toS, startR, rd, PD.Rho.at, imm, immL, imm1, tnt, mkT, inOk, argS, giveS, PD.E.asV, PD.EL.one, PD.Sl.of, truth, outOf, bop, cop, ltD, leD, subD, addD, mulD, fdivD, modD, powD, ixop, lenD, biop, put, putTg, putAll, wipeR, PD.E.isOmit, List.map_cons, List.map_nil, List.length_cons, List.length_nil, List.set_cons_zero, List.set_cons_succ, List.set_nil, List.getD_cons_zero, List.getD_cons_succ, List.cons_append, List.nil_append, List.replicate, Option.getD, ownAt, chgS, appD, extD, remD, revD, augI, isTy, killV, killS, immL_int, hT.io, a, ha, hT.m, leD, h1']
/-- what are_tiles refuses -/
theorem checked_no (T : Tab) (ca gt : Nat) (io : ∀ f, T.io f = false) (d : PyData) (h : T.fn ca [d] = .ret (.bool false) .none) : outOf (exSL T (sl_checked_eba4db ca gt) (startR 1 [d])) = .ex "BadHand" .none := by
  unfold sl_checked_eba4db
  by_cases im : imm d = true
  · cases d <;> simp [imm] at im <;> simp [xl_nil, xl_cons, x_set, x_aug, x_app, x_rem, x_ext, x_setT, x_ex, x_ret, x_ret0, x_pass, x_brk, x_cnt, x_if, x_raise, x_try, ev_def, evT_def, ev_v, ev_c, ev_g, ev_bin, ev_neg, ev_cmp, ev_chain, ev_and, ev_or, ev_one, ev_not, ev_ife, ev_ix, ev_sl, ev_rev, ev_tup, ev_lst, ev_call, ev_bi, ev_me, ev_isi, evL_nil, evL_cons, wR, PD.R.bind, PD.RL.bindR, PD.RL.bindN, PD.RI.bindR, PD.R.bindI, PD.RT.bindR, PD.RT.bind, optR, optB, PD.okR, optT, okI, negR, outR, callR, slR, lcR, itD, ofR, PD.R.toS, PD.RT.toS, PD.RI.toS, PD.RA.toS, startR, rd, PD.Rho.at, imm, immL, imm1, tnt, mkT, inOk, argS, giveS, PD.E.asV, PD.EL.one, PD.Sl.of, truth, outOf, bop, cop, ltD, leD, subD, addD, mulD, fdivD, modD, powD, ixop, lenD, biop, put, putTg, putAll, wipeR, PD.E.isOmit, List.map_cons, List.map_nil, List.length_cons, List.length_nil, List.set_cons_zero, List.set_cons_succ, List.set_nil, List.getD_cons_zero, List.getD_cons_succ, List.cons_append, List.nil_append, List.replicate, Option.getD, ownAt, chgS, appD, extD, remD, revD, augI, isTy, killV, killS, io, h, im]
  · have e : imm d = false := by simpa using im
    cases d <;> simp [imm] at e <;> simp [xl_nil, xl_cons, x_set, x_aug, x_app, x_rem, x_ext, x_setT, x_ex, x_ret, x_ret0, x_pass, x_brk, x_cnt, x_if, x_raise, x_try, ev_def, evT_def, ev_v, ev_c, ev_g, ev_bin, ev_neg, ev_cmp, ev_chain, ev_and, ev_or, ev_one, ev_not, ev_ife, ev_ix, ev_sl, ev_rev, ev_tup, ev_lst, ev_call, ev_bi, ev_me, ev_isi, evL_nil, evL_cons, wR, PD.R.bind, PD.RL.bindR, PD.RL.bindN, PD.RI.bindR, PD.R.bindI, PD.RT.bindR, PD.RT.bind, optR, optB, PD.okR, optT, okI, negR, outR, callR, slR, lcR, itD, ofR, PD.R.toS, PD.RT.toS, PD.RI.toS, PD.RA.toS, startR, rd, PD.Rho.at, imm, immL, imm1, tnt, mkT, inOk, argS, giveS, PD.E.asV, PD.EL.one, PD.Sl.of, truth, outOf, bop, cop, ltD, leD, subD, addD, mulD, fdivD, modD, powD, ixop, lenD, biop, put, putTg, putAll, wipeR, PD.E.isOmit, List.map_cons, List.map_nil, List.length_cons, List.length_nil, List.set_cons_zero, List.set_cons_succ, List.set_nil, List.getD_cons_zero, List.getD_cons_succ, List.cons_append, List.nil_append, List.replicate, Option.getD, ownAt, chgS, appD, extD, remD, revD, augI, isTy, killV, killS, io, h, e]
theorem with_ok (T : Tab) (ns : List Int) (k : Int) (hl : ns.length < 1000) : outOf (exSL T sl_with_tile_0ad879 (startR 2 [.tuple (ns.map .int), .int k])) = .ret (.tuple ((srt (ns ++ [k])).map .int)) .none := by
  unfold sl_with_tile_0ad879
  have e : List.map PyData.int ns ++ [PyData.int k] = (ns ++ [k]).map .int := by simp
  generalize ns ++ [k] = A at e ⊢
  have l : ns.length + 1 ≤ lineN := by unfold lineN; omega
  have l0 : 1 ≤ lineN := by decide
  simp [xl_nil, xl_cons, x_set, x_aug, x_app, x_rem, x_ext, x_setT, x_ex, x_ret, x_ret0, x_pass, x_brk, x_cnt, x_if, x_raise, x_try, ev_def, evT_def, ev_v, ev_c, ev_g, ev_bin, ev_neg, ev_cmp, ev_chain, ev_and, ev_or, ev_one, ev_not, ev_ife, ev_ix, ev_sl, ev_rev, ev_tup, ev_lst, ev_call, ev_bi, ev_me, ev_isi, evL_nil, evL_cons, wR, PD.R.bind, PD.RL.bindR, PD.RL.bindN, PD.RI.bindR, PD.R.bindI, PD.RT.bindR, PD.RT.bind, optR, optB, PD.okR, optT, okI, negR, outR, callR, slR, lcR, itD, ofR, PD.R.toS, PD.RT.toS, PD.RI.toS, PD.RA.toS, startR, rd, PD.Rho.at, imm, immL, imm1, tnt, mkT, inOk, argS, giveS, PD.E.asV, PD.EL.one, PD.Sl.of, truth, outOf, bop, cop, ltD, leD, subD, addD, mulD, fdivD, modD, powD, ixop, lenD, biop, put, putTg, putAll, wipeR, PD.E.isOmit, List.map_cons, List.map_nil, List.length_cons, List.length_nil, List.set_cons_zero, List.set_cons_succ, List.set_nil, List.getD_cons_zero, List.getD_cons_succ, List.cons_append, List.nil_append, List.replicate, Option.getD, ownAt, chgS, appD, extD, remD, revD, augI, isTy, killV, killS, immL_int, l, l0, e, sorted_tupI, listD, tupleD]
theorem slIx_nat (n d j : Nat) : slIx n d (some (j : Int)) = min j n := by
  unfold slIx
  dsimp only
  rw [if_neg (by omega)]
  simp
theorem cut_to {α : Type} (xs : List α) (j : Nat) : cutL xs none (some (j : Int)) = xs.take j := by
  unfold cutL
  rw [slIx_nat]
  show (xs.drop 0).take (min j xs.length - 0) = _
  rw [List.drop_zero, Nat.sub_zero]
  by_cases h : j ≤ xs.length
  · rw [Nat.min_eq_left h]
  · rw [Nat.min_eq_right (by omega), List.take_of_length_le (Nat.le_refl _), List.take_of_length_le (by omega)]
theorem cut_from {α : Type} (xs : List α) (j : Nat) : cutL xs (some (j : Int)) none = xs.drop j := by
  unfold cutL
  rw [slIx_nat]
  show (xs.drop (min j xs.length)).take (xs.length - min j xs.length) = _
  by_cases h : j ≤ xs.length
  · rw [Nat.min_eq_left h, List.take_of_length_le (by simp)]
  · rw [Nat.min_eq_right (by omega), List.drop_of_length_le (Nat.le_refl _), List.drop_of_length_le (by omega)]; simp
theorem take_drop_erase (ns : List Int) (k : Int) (j : Nat) (h : ns.findIdx? (fun z => z == k) = some j) : ns.take j ++ ns.drop (j + 1) = ns.erase k := by
  rw [← List.eraseIdx_eq_take_drop_succ]
  rw [List.erase_eq_eraseIdx]
  have : ns.idxOf? k = some j := h
  rw [this]
theorem without_ok (T : Tab) (ns : List Int) (k : Int) (hk : k ∈ ns) (hl : ns.length < 1000) : outOf (exSL T sl_without_tile_f7f35a (startR 3 [.tuple (ns.map .int), .int k])) = .ret (.tuple ((ns.erase k).map .int)) .none := by
  unfold sl_without_tile_f7f35a
  cases hj : ns.findIdx? (fun z => z == k) with
  | none =>
    have := List.findIdx?_eq_none_iff.mp hj k hk
    simp at this
  | some j =>
    have e := take_drop_erase ns k j hj
    have hjl : j < ns.length := by
      have := List.findIdx?_eq_some_iff_getElem.mp hj
      exact this.1
    have c1 : cutL (ns.map PyData.int) none (some (j : Int)) = (ns.take j).map .int := by rw [cut_to, List.map_take]
    have c2 : cutL (ns.map PyData.int) (some ((j : Int) + 1)) none = (ns.drop (j + 1)).map .int := by
      rw [show ((j : Int) + 1) = ((j + 1 : Nat) : Int) by omega, cut_from, List.map_drop]
    have l : (ns.take j).length + (ns.drop (j + 1)).length ≤ lineN := by
      simp only [List.length_take, List.length_drop]
      unfold lineN; omega
    have e5 : (ns.take j).map PyData.int ++ (ns.drop (j + 1)).map PyData.int = (ns.erase k).map .int := by rw [← List.map_append, e]
    have i1 := immL_int (ns.take j)
    have i2 := immL_int (ns.drop (j + 1))
    have l' : ((ns.take j).map PyData.int).length + ((ns.drop (j + 1)).map PyData.int).length ≤ lineN := by simpa using l
    generalize (ns.take j).map PyData.int = A at *
    generalize (ns.drop (j + 1)).map PyData.int = B at *
    simp [xl_nil, xl_cons, x_set, x_aug, x_app, x_rem, x_ext, x_setT, x_ex, x_ret, x_ret0, x_pass, x_brk, x_cnt, x_if, x_raise, x_try, ev_def, evT_def, ev_v, ev_c, ev_g, ev_bin, ev_neg, ev_cmp, ev_chain, ev_and, ev_or, ev_one, ev_not, ev_ife, ev_ix, ev_sl, ev_rev, ev_tup, ev_lst, ev_call, ev_bi, ev_me, ev_isi, evL_nil, evL_cons, wR, PD.R.bind, PD.RL.bindR, PD.RL.bindN, PD.RI.bindR, PD.R.bindI, PD.RT.bindR, PD.RT.bind, optR, optB, PD.okR, optT, okI, negR, outR, callR, slR, lcR, itD, ofR, PD.R.toS, PD.RT.toS, PD.RI.toS, PD.RA.toS, startR, rd, PD.Rho.at, imm, immL, imm1, tnt, mkT, inOk, argS, giveS, PD.E.asV, PD.EL.one, PD.Sl.of, truth, outOf, bop, cop, ltD, leD, subD, addD, mulD, fdivD, modD, powD, ixop, lenD, biop, put, putTg, putAll, wipeR, PD.E.isOmit, List.map_cons, List.map_nil, List.length_cons, List.length_nil, List.set_cons_zero, List.set_cons_succ, List.set_nil, List.getD_cons_zero, List.getD_cons_succ, List.cons_append, List.nil_append, List.replicate, Option.getD, ownAt, chgS, appD, extD, remD, revD, augI, isTy, killV, killS, immL_int, meop, indexD, sh_int, shT_int, index_int, hj, slop, partOf, c1, c2, i1, i2, l', e5]
structure Has4 (T : Tab) (cc ck cw : Nat) : Prop where
  io : ∀ f, T.io f = false
  ch : ∀ ns : List Int, ns.length ≤ lineN → T.fn cc [.tuple (ns.map .int)] = if isHand ns = true then .ret (.tuple (ns.map .int)) .none else .ex "BadHand" .none
  kd : ∀ d, noDict d = true → T.fn ck [d] = .ret (.bool (isKind d)) .none
structure Has5 (T : Tab) (cc ck cw : Nat) : Prop extends Has4 T cc ck cw where
  wi : ∀ (ns : List Int) (k : Int), ns.length < 1000 → T.fn cw [.tuple (ns.map .int), .int k] = .ret (.tuple ((srt (ns ++ [k])).map .int)) .none
theorem isHand_len {ns : List Int} (h : isHand ns = true) : 1 ≤ ns.length ∧ ns.length ≤ 11 := by
  unfold isHand at h
  simp only [Bool.and_eq_true, decide_eq_true_eq] at h
  exact ⟨h.1.2, h.2⟩
theorem put_ok (T : Tab) (cc ck cw : Nat) (hT : Has5 T cc ck cw) (ns : List Int) (hn : isHand ns = true) (k : Int) (hk : 0 ≤ k ∧ k ≤ 20) :
    outOf (exSL T (sl_put_in_94a850 cc ck cw) (startR 2 [.tuple (ns.map .int), .int k])) = if isHand (srt (ns ++ [k])) = true then .ret (.tuple ((srt (ns ++ [k])).map .int)) .none else .ex "BadHand" .none := by
  unfold sl_put_in_94a850
  obtain ⟨l1, l2⟩ := isHand_len hn
  have a := hT.ch ns (by unfold lineN; omega)
  rw [if_pos hn] at a
  have hkd := hT.kd (.int k) rfl
  have e : isKind (.int k) = true := by simp [isKind, hk.1, hk.2]
  rw [e] at hkd
  have w := hT.wi ns k (by omega)
  have b := hT.ch (srt (ns ++ [k])) (by
    rw [(srt_perm _).length_eq]
    simp
    unfold lineN; omega)
  cases q : isHand (srt (ns ++ [k])) with
  | true =>
    rw [q] at b
    simp [xl_nil, xl_cons, x_set, x_aug, x_app, x_rem, x_ext, x_setT, x_ex, x_ret, x_ret0, x_pass, x_brk, x_cnt, x_if, x_raise, x_try, ev_def, evT_def, ev_v, ev_c, ev_g, ev_bin, ev_neg, ev_cmp, ev_chain, ev_and, ev_or, ev_one, ev_not, ev_ife, ev_ix, ev_sl, ev_rev, ev_tup, ev_lst, ev_call, ev_bi, ev_me, ev_isi, evL_nil, evL_cons, wR, PD.R.bind, PD.RL.bindR, PD.RL.bindN, PD.RI.bindR, PD.R.bindI, PD.RT.bindR, PD.RT.bind, optR, optB, PD.okR, optT, okI, negR, outR, callR, slR, lcR, itD, ofR, PD.R.toS, PD.RT.toS, PD.RI.toS, PD.RA.toS, startR, rd, PD.Rho.at, imm, immL, imm1, tnt, mkT, inOk, argS, giveS, PD.E.asV, PD.EL.one, PD.Sl.of, truth, outOf, bop, cop, ltD, leD, subD, addD, mulD, fdivD, modD, powD, ixop, lenD, biop, put, putTg, putAll, wipeR, PD.E.isOmit, List.map_cons, List.map_nil, List.length_cons, List.length_nil, List.set_cons_zero, List.set_cons_succ, List.set_nil, List.getD_cons_zero, List.getD_cons_succ, List.cons_append, List.nil_append, List.replicate, Option.getD, ownAt, chgS, appD, extD, remD, revD, augI, isTy, killV, killS, immL_int, hT.io, a, hkd, w, b]
  | false =>
    rw [q] at b
    simp [xl_nil, xl_cons, x_set, x_aug, x_app, x_rem, x_ext, x_setT, x_ex, x_ret, x_ret0, x_pass, x_brk, x_cnt, x_if, x_raise, x_try, ev_def, evT_def, ev_v, ev_c, ev_g, ev_bin, ev_neg, ev_cmp, ev_chain, ev_and, ev_or, ev_one, ev_not, ev_ife, ev_ix, ev_sl, ev_rev, ev_tup, ev_lst, ev_call, ev_bi, ev_me, ev_isi, evL_nil, evL_cons, wR, PD.R.bind, PD.RL.bindR, PD.RL.bindN, PD.RI.bindR, PD.R.bindI, PD.RT.bindR, PD.RT.bind, optR, optB, PD.okR, optT, okI, negR, outR, callR, slR, lcR, itD, ofR, PD.R.toS, PD.RT.toS, PD.RI.toS, PD.RA.toS, startR, rd, PD.Rho.at, imm, immL, imm1, tnt, mkT, inOk, argS, giveS, PD.E.asV, PD.EL.one, PD.Sl.of, truth, outOf, bop, cop, ltD, leD, subD, addD, mulD, fdivD, modD, powD, ixop, lenD, biop, put, putTg, putAll, wipeR, PD.E.isOmit, List.map_cons, List.map_nil, List.length_cons, List.length_nil, List.set_cons_zero, List.set_cons_succ, List.set_nil, List.getD_cons_zero, List.getD_cons_succ, List.cons_append, List.nil_append, List.replicate, Option.getD, ownAt, chgS, appD, extD, remD, revD, augI, isTy, killV, killS, immL_int, hT.io, a, hkd, w, b]
theorem put_bad (T : Tab) (cc ck cw : Nat) (io : ∀ f, T.io f = false) (d e : PyData) (h : T.fn cc [d] = .ex "BadHand" .none) : outOf (exSL T (sl_put_in_94a850 cc ck cw) (startR 2 [d, e])) = .ex "BadHand" .none := by
  unfold sl_put_in_94a850
  by_cases im : imm d = true
  · cases d <;> simp [imm] at im <;> simp [xl_nil, xl_cons, x_set, x_aug, x_app, x_rem, x_ext, x_setT, x_ex, x_ret, x_ret0, x_pass, x_brk, x_cnt, x_if, x_raise, x_try, ev_def, evT_def, ev_v, ev_c, ev_g, ev_bin, ev_neg, ev_cmp, ev_chain, ev_and, ev_or, ev_one, ev_not, ev_ife, ev_ix, ev_sl, ev_rev, ev_tup, ev_lst, ev_call, ev_bi, ev_me, ev_isi, evL_nil, evL_cons, wR, PD.R.bind, PD.RL.bindR, PD.RL.bindN, PD.RI.bindR, PD.R.bindI, PD.RT.bindR, PD.RT.bind, optR, optB, PD.okR, optT, okI, negR, outR, callR, slR, lcR, itD, ofR, PD.R.toS, PD.RT.toS, PD.RI.toS, PD.RA.toS, startR, rd, PD.Rho.at, imm, immL, imm1, tnt, mkT, inOk, argS, giveS, PD.E.asV, PD.EL.one, PD.Sl.of, truth, outOf, bop, cop, ltD, leD, subD, addD, mulD, fdivD, modD, powD, ixop, lenD, biop, put, putTg, putAll, wipeR, PD.E.isOmit, List.map_cons, List.map_nil, List.length_cons, List.length_nil, List.set_cons_zero, List.set_cons_succ, List.set_nil, List.getD_cons_zero, List.getD_cons_succ, List.cons_append, List.nil_append, List.replicate, Option.getD, ownAt, chgS, appD, extD, remD, revD, augI, isTy, killV, killS, io, h, im]
  · have e : imm d = false := by simpa using im
    cases d <;> simp [imm] at e <;> simp [xl_nil, xl_cons, x_set, x_aug, x_app, x_rem, x_ext, x_setT, x_ex, x_ret, x_ret0, x_pass, x_brk, x_cnt, x_if, x_raise, x_try, ev_def, evT_def, ev_v, ev_c, ev_g, ev_bin, ev_neg, ev_cmp, ev_chain, ev_and, ev_or, ev_one, ev_not, ev_ife, ev_ix, ev_sl, ev_rev, ev_tup, ev_lst, ev_call, ev_bi, ev_me, ev_isi, evL_nil, evL_cons, wR, PD.R.bind, PD.RL.bindR, PD.RL.bindN, PD.RI.bindR, PD.R.bindI, PD.RT.bindR, PD.RT.bind, optR, optB, PD.okR, optT, okI, negR, outR, callR, slR, lcR, itD, ofR, PD.R.toS, PD.RT.toS, PD.RI.toS, PD.RA.toS, startR, rd, PD.Rho.at, imm, immL, imm1, tnt, mkT, inOk, argS, giveS, PD.E.asV, PD.EL.one, PD.Sl.of, truth, outOf, bop, cop, ltD, leD, subD, addD, mulD, fdivD, modD, powD, ixop, lenD, biop, put, putTg, putAll, wipeR, PD.E.isOmit, List.map_cons, List.map_nil, List.length_cons, List.length_nil, List.set_cons_zero, List.set_cons_succ, List.set_nil, List.getD_cons_zero, List.getD_cons_succ, List.cons_append, List.nil_append, List.replicate, Option.getD, ownAt, chgS, appD, extD, remD, revD, augI, isTy, killV, killS, io, h, e]
theorem put_odd (T : Tab) (cc ck cw : Nat) (hT : Has4 T cc ck cw) (ns : List Int) (hn : isHand ns = true) (d : PyData) (hd : noDict d = true) (im : imm d = true) (hk : isKind d = false) : outOf (exSL T (sl_put_in_94a850 cc ck cw) (startR 2 [.tuple (ns.map .int), d])) = .ex "BadHand" .none := by
  unfold sl_put_in_94a850
  obtain ⟨l1, l2⟩ := isHand_len hn
  have a := hT.ch ns (by unfold lineN; omega)
  rw [if_pos hn] at a
  have hkd := hT.kd d hd
  rw [hk] at hkd
  cases d <;> simp [imm] at im <;> simp [xl_nil, xl_cons, x_set, x_aug, x_app, x_rem, x_ext, x_setT, x_ex, x_ret, x_ret0, x_pass, x_brk, x_cnt, x_if, x_raise, x_try, ev_def, evT_def, ev_v, ev_c, ev_g, ev_bin, ev_neg, ev_cmp, ev_chain, ev_and, ev_or, ev_one, ev_not, ev_ife, ev_ix, ev_sl, ev_rev, ev_tup, ev_lst, ev_call, ev_bi, ev_me, ev_isi, evL_nil, evL_cons, wR, PD.R.bind, PD.RL.bindR, PD.RL.bindN, PD.RI.bindR, PD.R.bindI, PD.RT.bindR, PD.RT.bind, optR, optB, PD.okR, optT, okI, negR, outR, callR, slR, lcR, itD, ofR, PD.R.toS, PD.RT.toS, PD.RI.toS, PD.RA.toS, startR, rd, PD.Rho.at, imm, immL, imm1, tnt, mkT, inOk, argS, giveS, PD.E.asV, PD.EL.one, PD.Sl.of, truth, outOf, bop, cop, ltD, leD, subD, addD, mulD, fdivD, modD, powD, ixop, lenD, biop, put, putTg, putAll, wipeR, PD.E.isOmit, List.map_cons, List.map_nil, List.length_cons, List.length_nil, List.set_cons_zero, List.set_cons_succ, List.set_nil, List.getD_cons_zero, List.getD_cons_succ, List.cons_append, List.nil_append, List.replicate, Option.getD, ownAt, chgS, appD, extD, remD, revD, augI, isTy, killV, killS, immL_int, hT.io, a, hkd, im]
structure Has6 (T : Tab) (cc ck cw : Nat) : Prop extends Has4 T cc ck cw where
  wo : ∀ (ns : List Int) (k : Int), k ∈ ns → ns.length < 1000 → T.fn cw [.tuple (ns.map .int), .int k] = .ret (.tuple ((ns.erase k).map .int)) .none
theorem out_ok (T : Tab) (cc ck cw : Nat) (hT : Has6 T cc ck cw) (ns : List Int) (hn : isHand ns = true) (k : Int) (hk : 0 ≤ k ∧ k ≤ 20) :
    outOf (exSL T (sl_taken_out_87a023 cc ck cw) (startR 2 [.tuple (ns.map .int), .int k])) = if k ∈ ns ∧ ns.length ≠ 1 then .ret (.tuple ((ns.erase k).map .int)) .none else .ex "BadHand" .none := by
  unfold sl_taken_out_87a023
  obtain ⟨l1, l2⟩ := isHand_len hn
  have a := hT.ch ns (by unfold lineN; omega)
  rw [if_pos hn] at a
  have hkd := hT.kd (.int k) rfl
  have e : isKind (.int k) = true := by simp [isKind, hk.1, hk.2]
  rw [e] at hkd
  have ai := any_int ns k
  by_cases m : k ∈ ns
  · by_cases l : ns.length = 1
    · rw [if_neg (by simp [l])]
      have l' : ((ns.length : Int)) = 1 := by omega
      simp [xl_nil, xl_cons, x_set, x_aug, x_app, x_rem, x_ext, x_setT, x_ex, x_ret, x_ret0, x_pass, x_brk, x_cnt, x_if, x_raise, x_try, ev_def, evT_def, ev_v, ev_c, ev_g, ev_bin, ev_neg, ev_cmp, ev_chain, ev_and, ev_or, ev_one, ev_not, ev_ife, ev_ix, ev_sl, ev_rev, ev_tup, ev_lst, ev_call, ev_bi, ev_me, ev_isi, evL_nil, evL_cons, wR, PD.R.bind, PD.RL.bindR, PD.RL.bindN, PD.RI.bindR, PD.R.bindI, PD.RT.bindR, PD.RT.bind, optR, optB, PD.okR, optT, okI, negR, outR, callR, slR, lcR, itD, ofR, PD.R.toS, PD.RT.toS, PD.RI.toS, PD.RA.toS, startR, rd, PD.Rho.at, imm, immL, imm1, tnt, mkT, inOk, argS, giveS, PD.E.asV, PD.EL.one, PD.Sl.of, truth, outOf, bop, cop, ltD, leD, subD, addD, mulD, fdivD, modD, powD, ixop, lenD, biop, put, putTg, putAll, wipeR, PD.E.isOmit, List.map_cons, List.map_nil, List.length_cons, List.length_nil, List.set_cons_zero, List.set_cons_succ, List.set_nil, List.getD_cons_zero, List.getD_cons_succ, List.cons_append, List.nil_append, List.replicate, Option.getD, ownAt, chgS, appD, extD, remD, revD, augI, isTy, killV, killS, immL_int, hT.io, a, hkd, inD, sh_int, shT_int, ai, m, eqD, PyData.eqv, l]
    · rw [if_pos ⟨m, l⟩]
      have w := hT.wo ns k m (by omega)
      have l' : ¬ ((ns.length : Int)) = 1 := by omega
      have l3 : ((ns.length : Int) == 1) = false := by simpa using l'
      simp [xl_nil, xl_cons, x_set, x_aug, x_app, x_rem, x_ext, x_setT, x_ex, x_ret, x_ret0, x_pass, x_brk, x_cnt, x_if, x_raise, x_try, ev_def, evT_def, ev_v, ev_c, ev_g, ev_bin, ev_neg, ev_cmp, ev_chain, ev_and, ev_or, ev_one, ev_not, ev_ife, ev_ix, ev_sl, ev_rev, ev_tup, ev_lst, ev_call, ev_bi, ev_me, ev_isi, evL_nil, evL_cons, wR, PD.R.bind, PD.RL.bindR, PD.RL.bindN, PD.RI.bindR, PD.R.bindI, PD.RT.bindR, PD.RT.bind, optR, optB, PD.okR, optT, okI, negR, outR, callR, slR, lcR, itD, ofR, PD.R.toS, PD.RT.toS, PD.RI.toS, PD.RA.toS, startR, rd, PD.Rho.at, imm, immL, imm1, tnt, mkT, inOk, argS, giveS, PD.E.asV, PD.EL.one, PD.Sl.of, truth, outOf, bop, cop, ltD, leD, subD, addD, mulD, fdivD, modD, powD, ixop, lenD, biop, put, putTg, putAll, wipeR, PD.E.isOmit, List.map_cons, List.map_nil, List.length_cons, List.length_nil, List.set_cons_zero, List.set_cons_succ, List.set_nil, List.getD_cons_zero, List.getD_cons_succ, List.cons_append, List.nil_append, List.replicate, Option.getD, ownAt, chgS, appD, extD, remD, revD, augI, isTy, killV, killS, immL_int, hT.io, a, hkd, inD, sh_int, shT_int, ai, m, eqD, PyData.eqv, l', l3, w]
  · rw [if_neg (by simp [m])]
    simp [xl_nil, xl_cons, x_set, x_aug, x_app, x_rem, x_ext, x_setT, x_ex, x_ret, x_ret0, x_pass, x_brk, x_cnt, x_if, x_raise, x_try, ev_def, evT_def, ev_v, ev_c, ev_g, ev_bin, ev_neg, ev_cmp, ev_chain, ev_and, ev_or, ev_one, ev_not, ev_ife, ev_ix, ev_sl, ev_rev, ev_tup, ev_lst, ev_call, ev_bi, ev_me, ev_isi, evL_nil, evL_cons, wR, PD.R.bind, PD.RL.bindR, PD.RL.bindN, PD.RI.bindR, PD.R.bindI, PD.RT.bindR, PD.RT.bind, optR, optB, PD.okR, optT, okI, negR, outR, callR, slR, lcR, itD, ofR, PD.R.toS, PD.RT.toS, PD.RI.toS, PD.RA.toS, startR, rd, PD.Rho.at, imm, immL, imm1, tnt, mkT, inOk, argS, giveS, PD.E.asV, PD.EL.one, PD.Sl.of, truth, outOf, bop, cop, ltD, leD, subD, addD, mulD, fdivD, modD, powD, ixop, lenD, biop, put, putTg, putAll, wipeR, PD.E.isOmit, List.map_cons, List.map_nil, List.length_cons, List.length_nil, List.set_cons_zero, List.set_cons_succ, List.set_nil, List.getD_cons_zero, List.getD_cons_succ, List.cons_append, List.nil_append, List.replicate, Option.getD, ownAt, chgS, appD, extD, remD, revD, augI, isTy, killV, killS, immL_int, hT.io, a, hkd, inD, sh_int, shT_int, ai, m, eqD, PyData.eqv]
theorem out_bad (T : Tab) (cc ck cw : Nat) (io : ∀ f, T.io f = false) (d e : PyData) (h : T.fn cc [d] = .ex "BadHand" .none) : outOf (exSL T (sl_taken_out_87a023 cc ck cw) (startR 2 [d, e])) = .ex "BadHand" .none := by
  unfold sl_taken_out_87a023
  by_cases im : imm d = true
  · cases d <;> simp [imm] at im <;> simp [xl_nil, xl_cons, x_set, x_aug, x_app, x_rem, x_ext, x_setT, x_ex, x_ret, x_ret0, x_pass, x_brk, x_cnt, x_if, x_raise, x_try, ev_def, evT_def, ev_v, ev_c, ev_g, ev_bin, ev_neg, ev_cmp, ev_chain, ev_and, ev_or, ev_one, ev_not, ev_ife, ev_ix, ev_sl, ev_rev, ev_tup, ev_lst, ev_call, ev_bi, ev_me, ev_isi, evL_nil, evL_cons, wR, PD.R.bind, PD.RL.bindR, PD.RL.bindN, PD.RI.bindR, PD.R.bindI, PD.RT.bindR, PD.RT.bind, optR, optB, PD.okR, optT, okI, negR, outR, callR, slR, lcR, itD, ofR, PD.R.toS, PD.RT.toS, PD.RI.toS, PD.RA.toS, startR, rd, PD.Rho.at, imm, immL, imm1, tnt, mkT, inOk, argS, giveS, PD.E.asV, PD.EL.one, PD.Sl.of, truth, outOf, bop, cop, ltD, leD, subD, addD, mulD, fdivD, modD, powD, ixop, lenD, biop, put, putTg, putAll, wipeR, PD.E.isOmit, List.map_cons, List.map_nil, List.length_cons, List.length_nil, List.set_cons_zero, List.set_cons_succ, List.set_nil, List.getD_cons_zero, List.getD_cons_succ, List.cons_append, List.nil_append, List.replicate, Option.getD, ownAt, chgS, appD, extD, remD, revD, augI, isTy, killV, killS, io, h, im]
  · have e : imm d = false := by simpa using im
    cases d <;> simp [imm] at e <;> simp [xl_nil, xl_cons, x_set, x_aug, x_app, x_rem, x_ext, x_setT, x_ex, x_ret, x_ret0, x_pass, x_brk, x_cnt, x_if, x_raise, x_try, ev_def, evT_def, ev_v, ev_c, ev_g, ev_bin, ev_neg, ev_cmp, ev_chain, ev_and, ev_or, ev_one, ev_not, ev_ife, ev_ix, ev_sl, ev_rev, ev_tup, ev_lst, ev_call, ev_bi, ev_me, ev_isi, evL_nil, evL_cons, wR, PD.R.bind, PD.RL.bindR, PD.RL.bindN, PD.RI.bindR, PD.R.bindI, PD.RT.bindR, PD.RT.bind, optR, optB, PD.okR, optT, okI, negR, outR, callR, slR, lcR, itD, ofR, PD.R.toS, PD.RT.toS, PD.RI.toS, PD.RA.toS, startR, rd, PD.Rho.at, imm, immL, imm1, tnt, mkT, inOk, argS, giveS, PD.E.asV, PD.EL.one, PD.Sl.of, truth, outOf, bop, cop, ltD, leD, subD, addD, mulD, fdivD, modD, powD, ixop, lenD, biop, put, putTg, putAll, wipeR, PD.E.isOmit, List.map_cons, List.map_nil, List.length_cons, List.length_nil, List.set_cons_zero, List.set_cons_succ, List.set_nil, List.getD_cons_zero, List.getD_cons_succ, List.cons_append, List.nil_append, List.replicate, Option.getD, ownAt, chgS, appD, extD, remD, revD, augI, isTy, killV, killS, io, h, e]
end PL
set_option maxHeartbeats 4000000
namespace PL
open PySem PD PF
theorem fm (a b : Int) (h : 0 ≤ b) : a.fmod b = a % b := Int.fmod_eq_emod_of_nonneg _ h
theorem fd (a b : Int) (h : 0 ≤ b) : a.fdiv b = a / b := Int.fdiv_eq_ediv_of_nonneg _ h
def isRun : PyData → Bool
  | .int n => decide (n % 6 < 4)
  | _ => false
def runsV : List PyData := ((rangeL 0 18).filter isRun).map fun d => .tuple [.str "run", d]
def threesV : List PyData := (rangeL 0 21).map fun d => .tuple [.str "three", d]
def setsV : List PyData := runsV ++ threesV
theorem setsV_len : setsV.length = 33 := by decide +kernel
theorem setsV_imm : immL setsV = true := by decide +kernel
theorem range_mem {a b : Int} {d : PyData} (h : d ∈ rangeL a b) : ∃ n : Int, d = .int n ∧ a ≤ n ∧ n < b := by
  unfold rangeL at h
  obtain ⟨i, hi, rfl⟩ := List.mem_map.mp h
  have := List.mem_range.mp hi
  exact ⟨a + (i : Nat), rfl, by omega, by omega⟩
theorem sets_ok (T : Tab) : outOf (exSL T sl__law_sets_97e411 (startR 2 [])) = .ret (.list setsV) .none := by
  have e1 : evB T (.lc (.tup (.cons (.c (.str "run")) (.cons (.v 1) .nil))) (.one 1) (.rng (.c (.int 18))) (.cmp .lt (.bin .mod (.v 1) (.c (.int 6))) (.c (.int 4))) [("_law_kind", 1)]) [.un, .un] = wR (.ok (.list runsV) none) := by
    refine lc_ev (ds := rangeL 0 18) (t := none) isRun (fun d => .tuple [.str "run", d]) ?_ (fun d hd => ?_) (by decide +kernel)
    · have : rangeOk 0 18 = true := by decide
      simp [xl_nil, xl_cons, x_set, x_aug, x_app, x_rem, x_ext, x_setT, x_ex, x_ret, x_ret0, x_pass, x_brk, x_cnt, x_if, x_raise, x_try, ev_def, evT_def, ev_v, ev_c, ev_g, ev_bin, ev_neg, ev_cmp, ev_chain, ev_and, ev_or, ev_one, ev_not, ev_ife, ev_ix, ev_sl, ev_rev, ev_tup, ev_lst, ev_call, ev_bi, ev_me, ev_isi, evL_nil, evL_cons, wR, PD.R.bind, PD.RL.bindR, PD.RL.bindN, PD.RI.bindR, PD.R.bindI, PD.RT.bindR, PD.RT.bind, optR, optB, PD.okR, optT, okI, negR, outR, callR, slR, lcR, itD, ofR, PD.R.toS, PD.RT.toS, PD.RI.toS, PD.RA.toS, startR, rd, PD.Rho.at, imm, immL, imm1, tnt, mkT, inOk, argS, giveS, PD.E.asV, PD.EL.one, PD.Sl.of, truth, outOf, bop, cop, ltD, leD, subD, addD, mulD, fdivD, modD, powD, ixop, lenD, biop, put, putTg, putAll, wipeR, PD.E.isOmit, List.map_cons, List.map_nil, List.length_cons, List.length_nil, List.set_cons_zero, List.set_cons_succ, List.set_nil, List.getD_cons_zero, List.getD_cons_succ, List.cons_append, List.nil_append, List.replicate, Option.getD, ownAt, chgS, appD, extD, remD, revD, augI, isTy, killV, killS, evI, rng1D, rngI, this]
    · obtain ⟨n, rfl, h1, h2⟩ := range_mem hd
      refine ⟨[.un, .own (.int n)], by simp [putTg, put, wipeR, imm], ?_, fun _ => ?_⟩
      · simp [xl_nil, xl_cons, x_set, x_aug, x_app, x_rem, x_ext, x_setT, x_ex, x_ret, x_ret0, x_pass, x_brk, x_cnt, x_if, x_raise, x_try, ev_def, evT_def, ev_v, ev_c, ev_g, ev_bin, ev_neg, ev_cmp, ev_chain, ev_and, ev_or, ev_one, ev_not, ev_ife, ev_ix, ev_sl, ev_rev, ev_tup, ev_lst, ev_call, ev_bi, ev_me, ev_isi, evL_nil, evL_cons, wR, PD.R.bind, PD.RL.bindR, PD.RL.bindN, PD.RI.bindR, PD.R.bindI, PD.RT.bindR, PD.RT.bind, optR, optB, PD.okR, optT, okI, negR, outR, callR, slR, lcR, itD, ofR, PD.R.toS, PD.RT.toS, PD.RI.toS, PD.RA.toS, startR, rd, PD.Rho.at, imm, immL, imm1, tnt, mkT, inOk, argS, giveS, PD.E.asV, PD.EL.one, PD.Sl.of, truth, outOf, bop, cop, ltD, leD, subD, addD, mulD, fdivD, modD, powD, ixop, lenD, biop, put, putTg, putAll, wipeR, PD.E.isOmit, List.map_cons, List.map_nil, List.length_cons, List.length_nil, List.set_cons_zero, List.set_cons_succ, List.set_nil, List.getD_cons_zero, List.getD_cons_succ, List.cons_append, List.nil_append, List.replicate, Option.getD, ownAt, chgS, appD, extD, remD, revD, augI, isTy, killV, killS, isRun, fm]
      · have l : 2 ≤ lineN := by decide
        simp [xl_nil, xl_cons, x_set, x_aug, x_app, x_rem, x_ext, x_setT, x_ex, x_ret, x_ret0, x_pass, x_brk, x_cnt, x_if, x_raise, x_try, ev_def, evT_def, ev_v, ev_c, ev_g, ev_bin, ev_neg, ev_cmp, ev_chain, ev_and, ev_or, ev_one, ev_not, ev_ife, ev_ix, ev_sl, ev_rev, ev_tup, ev_lst, ev_call, ev_bi, ev_me, ev_isi, evL_nil, evL_cons, wR, PD.R.bind, PD.RL.bindR, PD.RL.bindN, PD.RI.bindR, PD.R.bindI, PD.RT.bindR, PD.RT.bind, optR, optB, PD.okR, optT, okI, negR, outR, callR, slR, lcR, itD, ofR, PD.R.toS, PD.RT.toS, PD.RI.toS, PD.RA.toS, startR, rd, PD.Rho.at, imm, immL, imm1, tnt, mkT, inOk, argS, giveS, PD.E.asV, PD.EL.one, PD.Sl.of, truth, outOf, bop, cop, ltD, leD, subD, addD, mulD, fdivD, modD, powD, ixop, lenD, biop, put, putTg, putAll, wipeR, PD.E.isOmit, List.map_cons, List.map_nil, List.length_cons, List.length_nil, List.set_cons_zero, List.set_cons_succ, List.set_nil, List.getD_cons_zero, List.getD_cons_succ, List.cons_append, List.nil_append, List.replicate, Option.getD, ownAt, chgS, appD, extD, remD, revD, augI, isTy, killV, killS, l]
  have e2 : ∀ d0 : PyData, evB T (.lc (.tup (.cons (.c (.str "three")) (.cons (.v 1) .nil))) (.one 1) (.rng (.c (.int 21))) .omit [("_law_kind", 1)]) [.own d0, .un] = wR (.ok (.list threesV) none) := fun d0 => by
    have q := lc_ev (T := T) (elt := (.tup (.cons (.c (.str "three")) (.cons (.v 1) .nil)))) (tg := .one 1) (it := .rng (.c (.int 21))) (cond := .omit) (own := [("_law_kind", 1)]) (ρ := [.own d0, .un]) (ds := rangeL 0 21) (t := none) (fun _ => true) (fun d => .tuple [.str "three", d]) (by
      have : rangeOk 0 21 = true := by decide
      simp [xl_nil, xl_cons, x_set, x_aug, x_app, x_rem, x_ext, x_setT, x_ex, x_ret, x_ret0, x_pass, x_brk, x_cnt, x_if, x_raise, x_try, ev_def, evT_def, ev_v, ev_c, ev_g, ev_bin, ev_neg, ev_cmp, ev_chain, ev_and, ev_or, ev_one, ev_not, ev_ife, ev_ix, ev_sl, ev_rev, ev_tup, ev_lst, ev_call, ev_bi, ev_me, ev_isi, evL_nil, evL_cons, wR, PD.R.bind, PD.RL.bindR, PD.RL.bindN, PD.RI.bindR, PD.R.bindI, PD.RT.bindR, PD.RT.bind, optR, optB, PD.okR, optT, okI, negR, outR, callR, slR, lcR, itD, ofR, PD.R.toS, PD.RT.toS, PD.RI.toS, PD.RA.toS, startR, rd, PD.Rho.at, imm, immL, imm1, tnt, mkT, inOk, argS, giveS, PD.E.asV, PD.EL.one, PD.Sl.of, truth, outOf, bop, cop, ltD, leD, subD, addD, mulD, fdivD, modD, powD, ixop, lenD, biop, put, putTg, putAll, wipeR, PD.E.isOmit, List.map_cons, List.map_nil, List.length_cons, List.length_nil, List.set_cons_zero, List.set_cons_succ, List.set_nil, List.getD_cons_zero, List.getD_cons_succ, List.cons_append, List.nil_append, List.replicate, Option.getD, ownAt, chgS, appD, extD, remD, revD, augI, isTy, killV, killS, evI, rng1D, rngI, this]) (fun d hd => by
      obtain ⟨n, rfl, h1, h2⟩ := range_mem hd
      refine ⟨[.own d0, .own (.int n)], by simp [putTg, put, wipeR, imm], by simp [E.isOmit], fun _ => ?_⟩
      have l : 2 ≤ lineN := by decide
      simp [xl_nil, xl_cons, x_set, x_aug, x_app, x_rem, x_ext, x_setT, x_ex, x_ret, x_ret0, x_pass, x_brk, x_cnt, x_if, x_raise, x_try, ev_def, evT_def, ev_v, ev_c, ev_g, ev_bin, ev_neg, ev_cmp, ev_chain, ev_and, ev_or, ev_one, ev_not, ev_ife, ev_ix, ev_sl, ev_rev, ev_tup, ev_lst, ev_call, ev_bi, ev_me, ev_isi, evL_nil, evL_cons, wR, PD.R.bind, PD.RL.bindR, PD.RL.bindN, PD.RI.bindR, PD.R.bindI, PD.RT.bindR, PD.RT.bind, optR, optB, PD.okR, optT, okI, negR, outR, callR, slR, lcR, itD, ofR, PD.R.toS, PD.RT.toS, PD.RI.toS, PD.RA.toS, startR, rd, PD.Rho.at, imm, immL, imm1, tnt, mkT, inOk, argS, giveS, PD.E.asV, PD.EL.one, PD.Sl.of, truth, outOf, bop, cop, ltD, leD, subD, addD, mulD, fdivD, modD, powD, ixop, lenD, biop, put, putTg, putAll, wipeR, PD.E.isOmit, List.map_cons, List.map_nil, List.length_cons, List.length_nil, List.set_cons_zero, List.set_cons_succ, List.set_nil, List.getD_cons_zero, List.getD_cons_succ, List.cons_append, List.nil_append, List.replicate, Option.getD, ownAt, chgS, appD, extD, remD, revD, augI, isTy, killV, killS, l]) (by decide +kernel)
    rw [List.filter_eq_self.mpr (fun _ _ => rfl)] at q
    exact q
  unfold sl__law_sets_97e411
  have l : runsV.length + threesV.length ≤ lineN := by decide +kernel
  have im : immL (runsV ++ threesV) = true := setsV_imm
  simp [xl_nil, xl_cons, x_set, x_aug, x_app, x_rem, x_ext, x_setT, x_ex, x_ret, x_ret0, x_pass, x_brk, x_cnt, x_if, x_raise, x_try, ev_def, evT_def, ev_v, ev_c, ev_g, ev_bin, ev_neg, ev_cmp, ev_chain, ev_and, ev_or, ev_one, ev_not, ev_ife, ev_ix, ev_sl, ev_rev, ev_tup, ev_lst, ev_call, ev_bi, ev_me, ev_isi, evL_nil, evL_cons, wR, PD.R.bind, PD.RL.bindR, PD.RL.bindN, PD.RI.bindR, PD.R.bindI, PD.RT.bindR, PD.RT.bind, optR, optB, PD.okR, optT, okI, negR, outR, callR, slR, lcR, itD, ofR, PD.R.toS, PD.RT.toS, PD.RI.toS, PD.RA.toS, startR, rd, PD.Rho.at, imm, immL, imm1, tnt, mkT, inOk, argS, giveS, PD.E.asV, PD.EL.one, PD.Sl.of, truth, outOf, bop, cop, ltD, leD, subD, addD, mulD, fdivD, modD, powD, ixop, lenD, biop, put, putTg, putAll, wipeR, PD.E.isOmit, List.map_cons, List.map_nil, List.length_cons, List.length_nil, List.set_cons_zero, List.set_cons_succ, List.set_nil, List.getD_cons_zero, List.getD_cons_succ, List.cons_append, List.nil_append, List.replicate, Option.getD, ownAt, chgS, appD, extD, remD, revD, augI, isTy, killV, killS, e1, e2, l, im, setsV]
theorem sets_mem {d : PyData} (h : d ∈ setsV) : ∃ k : Int, (d = .tuple [.str "run", .int k] ∧ 0 ≤ k ∧ k ≤ 18) ∨ (d = .tuple [.str "three", .int k] ∧ 0 ≤ k ∧ k ≤ 20) := by
  unfold setsV at h
  rcases List.mem_append.mp h with h | h
  · unfold runsV at h
    obtain ⟨d', hd, rfl⟩ := List.mem_map.mp h
    obtain ⟨n, rfl, h1, h2⟩ := range_mem (List.mem_filter.mp hd).1
    exact ⟨n, .inl ⟨rfl, h1, by omega⟩⟩
  · unfold threesV at h
    obtain ⟨d', hd, rfl⟩ := List.mem_map.mp h
    obtain ⟨n, rfl, h1, h2⟩ := range_mem hd
    exact ⟨n, .inr ⟨rfl, h1, by omega⟩⟩
theorem tiles_ok {d : PyData} (h : d ∈ setsV) : ∃ ts : List Int, ts.length = 3 ∧ (∀ t ∈ ts, 0 ≤ t ∧ t ≤ 20) ∧ ∀ T : Tab, outOf (exSL T sl__law_tiles_639140 (startR 1 [d])) = .ret (.list (ts.map .int)) .none := by
  have l3 : 3 ≤ lineN := by decide
  have l1 : 1 ≤ lineN := by decide
  have s1 : SeqAt.shaped (.str "run") = true := by decide +kernel
  have s2 : SeqAt.shaped (.str "three") = true := by decide +kernel
  have q1 : PyData.eqv (.str "run") (.str "run") = true := by decide +kernel
  have q2 : PyData.eqv (.str "three") (.str "run") = false := by decide +kernel
  obtain ⟨k, ⟨rfl, h1, h2⟩ | ⟨rfl, h1, h2⟩⟩ := sets_mem h
  · refine ⟨[k, k + 1, k + 2], rfl, fun t ht => ?_, fun T => ?_⟩
    · simp at ht
      omega
    · unfold sl__law_tiles_639140
      simp [xl_nil, xl_cons, x_set, x_aug, x_app, x_rem, x_ext, x_setT, x_ex, x_ret, x_ret0, x_pass, x_brk, x_cnt, x_if, x_raise, x_try, ev_def, evT_def, ev_v, ev_c, ev_g, ev_bin, ev_neg, ev_cmp, ev_chain, ev_and, ev_or, ev_one, ev_not, ev_ife, ev_ix, ev_sl, ev_rev, ev_tup, ev_lst, ev_call, ev_bi, ev_me, ev_isi, evL_nil, evL_cons, wR, PD.R.bind, PD.RL.bindR, PD.RL.bindN, PD.RI.bindR, PD.R.bindI, PD.RT.bindR, PD.RT.bind, optR, optB, PD.okR, optT, okI, negR, outR, callR, slR, lcR, itD, ofR, PD.R.toS, PD.RT.toS, PD.RI.toS, PD.RA.toS, startR, rd, PD.Rho.at, imm, immL, imm1, tnt, mkT, inOk, argS, giveS, PD.E.asV, PD.EL.one, PD.Sl.of, truth, outOf, bop, cop, ltD, leD, subD, addD, mulD, fdivD, modD, powD, ixop, lenD, biop, put, putTg, putAll, wipeR, PD.E.isOmit, List.map_cons, List.map_nil, List.length_cons, List.length_nil, List.set_cons_zero, List.set_cons_succ, List.set_nil, List.getD_cons_zero, List.getD_cons_succ, List.cons_append, List.nil_append, List.replicate, Option.getD, ownAt, chgS, appD, extD, remD, revD, augI, isTy, killV, killS, atN, l3, s1, q1, eqD]
  · refine ⟨[k, k, k], rfl, fun t ht => ?_, fun T => ?_⟩
    · simp at ht
      omega
    · unfold sl__law_tiles_639140
      have r : rep 3 [PyData.int k] = [.int k, .int k, .int k] := rfl
      simp [xl_nil, xl_cons, x_set, x_aug, x_app, x_rem, x_ext, x_setT, x_ex, x_ret, x_ret0, x_pass, x_brk, x_cnt, x_if, x_raise, x_try, ev_def, evT_def, ev_v, ev_c, ev_g, ev_bin, ev_neg, ev_cmp, ev_chain, ev_and, ev_or, ev_one, ev_not, ev_ife, ev_ix, ev_sl, ev_rev, ev_tup, ev_lst, ev_call, ev_bi, ev_me, ev_isi, evL_nil, evL_cons, wR, PD.R.bind, PD.RL.bindR, PD.RL.bindN, PD.RI.bindR, PD.R.bindI, PD.RT.bindR, PD.RT.bind, optR, optB, PD.okR, optT, okI, negR, outR, callR, slR, lcR, itD, ofR, PD.R.toS, PD.RT.toS, PD.RI.toS, PD.RA.toS, startR, rd, PD.Rho.at, imm, immL, imm1, tnt, mkT, inOk, argS, giveS, PD.E.asV, PD.EL.one, PD.Sl.of, truth, outOf, bop, cop, ltD, leD, subD, addD, mulD, fdivD, modD, powD, ixop, lenD, biop, put, putTg, putAll, wipeR, PD.E.isOmit, List.map_cons, List.map_nil, List.length_cons, List.length_nil, List.set_cons_zero, List.set_cons_succ, List.set_nil, List.getD_cons_zero, List.getD_cons_succ, List.cons_append, List.nil_append, List.replicate, Option.getD, ownAt, chgS, appD, extD, remD, revD, augI, isTy, killV, killS, atN, l3, l1, s1, s2, q2, eqD, r]
end PL
set_option maxHeartbeats 4000000
namespace PL
open PySem PD PF
/-! ## the loop that fills a hand: it ends -/
def idxV (s k n : Int) : Int := (pickV (seedV s (40 + k)) n + k / 60) % n
theorem seedV_shift (s k j : Int) : seedV s (k + 2147483647 * j) = seedV s k := by
  unfold seedV
  have : s * 1103515245 + 7919 * (k + 2147483647 * j) + 12345 = s * 1103515245 + 7919 * k + 12345 + 2147483647 * (7919 * j) := by
    rw [Int.mul_add]
    have : 7919 * (2147483647 * j) = 2147483647 * (7919 * j) := by rw [← Int.mul_assoc, ← Int.mul_assoc]; rfl
    omega
  rw [this, Int.add_mul_emod_self_left]
theorem hit (s k0 n r : Int) (hn : n = 21 ∨ n = 7) (h0 : 0 ≤ k0) (hr : 0 ≤ r ∧ r < n) : ∃ e : Nat, idxV s (k0 + e) n = r := by
  -- the place that k0 has; j steps of a whole period lead to r
  have hn0 : 0 < n := by omega
  have j0 := Int.emod_nonneg (r - (pickV (seedV s (40 + k0)) n + k0 / 60)) (show n ≠ 0 by omega)
  have jd : n * ((r - (pickV (seedV s (40 + k0)) n + k0 / 60)) / n) + (r - (pickV (seedV s (40 + k0)) n + k0 / 60)) % n = r - (pickV (seedV s (40 + k0)) n + k0 / 60) := Int.mul_ediv_add_emod ..
  generalize hP : pickV (seedV s (40 + k0)) n = P at *
  generalize (r - (P + k0 / 60)) / n = q at *
  generalize (r - (P + k0 / 60)) % n = j at *
  refine ⟨(2147483647 * (60 * j)).toNat, ?_⟩
  have e0 : ((2147483647 * (60 * j)).toNat : Int) = 2147483647 * (60 * j) := by omega
  rw [e0]
  unfold idxV
  have e1 : 40 + (k0 + 2147483647 * (60 * j)) = 40 + k0 + 2147483647 * (60 * j) := by omega
  rw [e1, seedV_shift, hP]
  have e2 : (k0 + 2147483647 * (60 * j)) / 60 = k0 / 60 + 2147483647 * j := by omega
  rw [e2]
  have e3 : P + (k0 / 60 + 2147483647 * j) = r + n * ((if n = 21 then 102261126 else 306783378) * j - q) := by
    rcases hn with rfl | rfl
    · simp only [if_true]
      omega
    · rw [if_neg (by decide)]
      omega
  rw [e3, Int.add_mul_emod_self_left, Int.emod_eq_of_lt hr.1 hr.2]
theorem sum_count (L : List Int) (hL : L.Nodup) : ∀ F : List Int, (L.map fun a => F.count a).sum ≤ F.length
  | [] => by
    have : (L.map fun a => ([] : List Int).count a) = L.map fun _ => 0 := by simp
    rw [this]
    clear this hL
    induction L with
    | nil => simp
    | cons a r ih => simpa using ih
  | x :: F => by
    have ih := sum_count L hL F
    have e : ∀ M : List Int, (M.map fun a => (x :: F).count a).sum = (M.map fun a => F.count a).sum + M.count x := fun M => by
      induction M with
      | nil => rfl
      | cons a r ihr =>
        rw [List.map_cons, List.sum_cons, ihr, List.map_cons, List.sum_cons]
        simp only [List.count_cons]
        by_cases h : a = x
        · subst h
          simp
          omega
        · have h2 : ¬ x = a := fun z => h z.symm
          simp [h, h2]
          omega
    rw [e L]
    have := List.nodup_iff_count.mp hL x
    simp only [List.length_cons]
    omega
theorem some_few (L F : List Int) (hL : L.Nodup) (h7 : 7 ≤ L.length) (hF : F.length < 28) : ∃ (i : Nat) (h : i < L.length), F.count L[i] < 4 := by
  apply Classical.byContradiction
  intro hno
  have all : ∀ a ∈ L, 4 ≤ F.count a := fun a ha => by
    obtain ⟨i, hi, e⟩ := List.mem_iff_getElem.mp ha
    apply Classical.byContradiction
    intro hc
    exact hno ⟨i, hi, by rw [e]; omega⟩
  have h1 := sum_count L hL F
  have h2 : ∀ M : List Int, (∀ a ∈ M, 4 ≤ F.count a) → 4 * M.length ≤ (M.map fun a => F.count a).sum := fun M => by
    induction M with
    | nil => intro _; simp
    | cons a r ih =>
      intro h
      have := ih fun b hb => h b (List.mem_cons_of_mem _ hb)
      have := h a (List.mem_cons_self ..)
      simp only [List.map_cons, List.sum_cons, List.length_cons]
      omega
  have := h2 L all
  omega
/-- a hand so far -/
structure Fit (m : Nat) (F : List Int) : Prop where
  rng : ∀ t ∈ F, 0 ≤ t ∧ t ≤ 20
  cnt : ∀ t, F.count t ≤ 4
  len : F.length ≤ m
structure Kinds (L : List Int) : Prop where
  nd : L.Nodup
  rng : ∀ t ∈ L, 0 ≤ t ∧ t ≤ 20
  len : L.length = 21 ∨ L.length = 7
def condW : E := .cmp .lt (.bi .len (.cons (.v 5) .nil)) (.v 1)
def bodyW (cP cS : Nat) : SL := (.cons (.set 6 (.ix (.v 3) (.bin .mod (.bin .add (.call cP (.cons (.call cS (.cons (.v 0) (.cons (.bin .add (.c (.int 40)) (.v 4)) .nil))) (.cons (.bi .len (.cons (.v 3) .nil)) .nil))) (.bin .fdiv (.v 4) (.c (.int 60)))) (.bi .len (.cons (.v 3) .nil)))))
  (.cons (.aug 4 .add (.c (.int 1)))
  (.cons (.ife (.cmp .lt (.me .count (.v 5) (.cons (.v 6) .nil)) (.c (.int 4)))
   (.cons (.mut .append 5 (.cons (.v 6) .nil))
   .nil)
   .nil)
  .nil)))
structure HasH (T : Tab) (cP cS : Nat) : Prop where
  io : ∀ f, T.io f = false
  seed : ∀ s k : Int, T.fn cS [.int s, .int k] = .ret (.int (seedV s k)) .none
  pick : ∀ s m : Int, 0 < m → T.fn cP [.int s, .int m] = .ret (.int (pickV s m)) .none
def rhoW (s m w : Int) (L F : List Int) (k : Int) (o : Sl) : Rho := [.own (.int s), .own (.int m), .own (.int w), .own (.list (L.map .int)), .own (.int k), .own (.list (F.map .int)), o]
theorem cond_ok (T : Tab) (s w : Int) (m : Nat) (L F : List Int) (k : Int) (o : Sl) : evT T condW (rhoW s m w L F k o) = .ok (decide (F.length < m)) := by
  unfold condW rhoW
  simp [xl_nil, xl_cons, x_set, x_aug, x_app, x_rem, x_ext, x_setT, x_ex, x_ret, x_ret0, x_pass, x_brk, x_cnt, x_if, x_raise, x_try, ev_def, evT_def, ev_v, ev_c, ev_g, ev_bin, ev_neg, ev_cmp, ev_chain, ev_and, ev_or, ev_one, ev_not, ev_ife, ev_ix, ev_sl, ev_rev, ev_tup, ev_lst, ev_call, ev_bi, ev_me, ev_isi, evL_nil, evL_cons, wR, PD.R.bind, PD.RL.bindR, PD.RL.bindN, PD.RI.bindR, PD.R.bindI, PD.RT.bindR, PD.RT.bind, optR, optB, PD.okR, optT, okI, negR, outR, callR, slR, lcR, itD, ofR, PD.R.toS, PD.RT.toS, PD.RI.toS, PD.RA.toS, startR, rd, PD.Rho.at, imm, immL, imm1, tnt, mkT, inOk, argS, giveS, PD.E.asV, PD.EL.one, PD.Sl.of, truth, outOf, bop, cop, ltD, leD, subD, addD, mulD, fdivD, modD, powD, ixop, lenD, biop, put, putTg, putAll, wipeR, PD.E.isOmit, List.map_cons, List.map_nil, List.length_cons, List.length_nil, List.set_cons_zero, List.set_cons_succ, List.set_nil, List.getD_cons_zero, List.getD_cons_succ, List.cons_append, List.nil_append, List.replicate, Option.getD, ownAt, chgS, appD, extD, remD, revD, augI, isTy, killV, killS]
theorem body_ok (T : Tab) (cP cS : Nat) (hT : HasH T cP cS) (s w : Int) (m : Nat) (L F : List Int) (k : Int) (o : Sl) (hL : Kinds L) (hF : F.length < 1000) (hk : 0 ≤ k) : ∃ one : Int, (∃ h : (idxV s k L.length).toNat < L.length, one = L[(idxV s k L.length).toNat]) ∧
    exSL T (bodyW cP cS) (rhoW s m w L F k o) = .nx (rhoW s m w L (if F.count one < 4 then F ++ [one] else F) (k + 1) (.own (.int one))) := by
  have hl : (0 : Int) < L.length := by rcases hL.len with h | h <;> omega
  have b1 : 0 ≤ idxV s k L.length := Int.emod_nonneg _ (by omega)
  have b2 : idxV s k L.length < L.length := Int.emod_lt_of_pos _ hl
  have hi : (idxV s k L.length).toNat < L.length := by omega
  refine ⟨L[(idxV s k L.length).toNat], ⟨hi, rfl⟩, ?_⟩
  have p := hT.pick (seedV s (40 + k)) L.length hl
  have a : atN (L.map PyData.int) (idxV s k L.length) = some (.int L[(idxV s k L.length).toNat]) := by
    unfold atN
    rw [if_pos b1]
    simp [hi]
  have n0 : ¬ (L.length : Int) = 0 := by omega
  have n0' : L ≠ [] := fun z => by rw [z] at hl; simp at hl
  have fm1 : (pickV (seedV s (40 + k)) L.length + k / 60).fmod L.length = idxV s k L.length := fm _ _ (by omega)
  have fd1 : k.fdiv 60 = k / 60 := fd _ _ (by decide)
  generalize idxV s k L.length = ix at *
  generalize hone : L[ix.toNat] = one at *
  unfold bodyW rhoW
  have hF2 : F.length < lineN := by unfold lineN; omega
  by_cases hc : F.count one < 4
  · have hc' : ((F.count one : Nat) : Int) < 4 := by omega
    rw [if_pos hc]
    simp [xl_nil, xl_cons, x_set, x_aug, x_app, x_rem, x_ext, x_setT, x_ex, x_ret, x_ret0, x_pass, x_brk, x_cnt, x_if, x_raise, x_try, ev_def, evT_def, ev_v, ev_c, ev_g, ev_bin, ev_neg, ev_cmp, ev_chain, ev_and, ev_or, ev_one, ev_not, ev_ife, ev_ix, ev_sl, ev_rev, ev_tup, ev_lst, ev_call, ev_bi, ev_me, ev_isi, evL_nil, evL_cons, wR, PD.R.bind, PD.RL.bindR, PD.RL.bindN, PD.RI.bindR, PD.R.bindI, PD.RT.bindR, PD.RT.bind, optR, optB, PD.okR, optT, okI, negR, outR, callR, slR, lcR, itD, ofR, PD.R.toS, PD.RT.toS, PD.RI.toS, PD.RA.toS, startR, rd, PD.Rho.at, imm, immL, imm1, tnt, mkT, inOk, argS, giveS, PD.E.asV, PD.EL.one, PD.Sl.of, truth, outOf, bop, cop, ltD, leD, subD, addD, mulD, fdivD, modD, powD, ixop, lenD, biop, put, putTg, putAll, wipeR, PD.E.isOmit, List.map_cons, List.map_nil, List.length_cons, List.length_nil, List.set_cons_zero, List.set_cons_succ, List.set_nil, List.getD_cons_zero, List.getD_cons_succ, List.cons_append, List.nil_append, List.replicate, Option.getD, ownAt, chgS, appD, extD, remD, revD, augI, isTy, killV, killS, hT.io, hT.seed, p, n0, n0', fd1, fm1, a, meop, countD, sh_int, shL_int, count_int, hc, hc', hF2]
  · have hc' : ¬ ((F.count one : Nat) : Int) < 4 := by omega
    rw [if_neg hc]
    simp [xl_nil, xl_cons, x_set, x_aug, x_app, x_rem, x_ext, x_setT, x_ex, x_ret, x_ret0, x_pass, x_brk, x_cnt, x_if, x_raise, x_try, ev_def, evT_def, ev_v, ev_c, ev_g, ev_bin, ev_neg, ev_cmp, ev_chain, ev_and, ev_or, ev_one, ev_not, ev_ife, ev_ix, ev_sl, ev_rev, ev_tup, ev_lst, ev_call, ev_bi, ev_me, ev_isi, evL_nil, evL_cons, wR, PD.R.bind, PD.RL.bindR, PD.RL.bindN, PD.RI.bindR, PD.R.bindI, PD.RT.bindR, PD.RT.bind, optR, optB, PD.okR, optT, okI, negR, outR, callR, slR, lcR, itD, ofR, PD.R.toS, PD.RT.toS, PD.RI.toS, PD.RA.toS, startR, rd, PD.Rho.at, imm, immL, imm1, tnt, mkT, inOk, argS, giveS, PD.E.asV, PD.EL.one, PD.Sl.of, truth, outOf, bop, cop, ltD, leD, subD, addD, mulD, fdivD, modD, powD, ixop, lenD, biop, put, putTg, putAll, wipeR, PD.E.isOmit, List.map_cons, List.map_nil, List.length_cons, List.length_nil, List.set_cons_zero, List.set_cons_succ, List.set_nil, List.getD_cons_zero, List.getD_cons_succ, List.cons_append, List.nil_append, List.replicate, Option.getD, ownAt, chgS, appD, extD, remD, revD, augI, isTy, killV, killS, hT.io, hT.seed, p, n0, n0', fd1, fm1, a, meop, countD, sh_int, shL_int, count_int, hc, hc', hF2]
theorem fit_app {m : Nat} {F : List Int} {one : Int} (h : Fit m F) (hl : F.length < m) (h1 : 0 ≤ one ∧ one ≤ 20) (hc : F.count one < 4) : Fit m (F ++ [one]) := by
  refine ⟨fun t ht => ?_, fun t => ?_, by simp; omega⟩
  · rcases List.mem_append.mp ht with z | z
    · exact h.rng t z
    · rw [List.mem_singleton.mp z]; exact h1
  · rw [List.count_append]
    by_cases e : t = one
    · subst e
      simp
      omega
    · have : [one].count t = 0 := List.count_eq_zero.mpr (by simpa using e)
      have := h.cnt t
      omega
theorem loop_ends (T : Tab) (cP cS : Nat) (hT : HasH T cP cS) (s w : Int) (m : Nat) (hm : m ≤ 11) (L : List Int) (hL : Kinds L) : ∀ (d : Nat) (F : List Int), m - F.length = d → Fit m F → ∀ (k : Int) (o : Sl), 0 ≤ k →
    ∃ (n : Nat) (F' : List Int) (k' : Int) (o' : Sl), Fit m F' ∧ F'.length = m ∧ whN (evT T condW) (exSL T (bodyW cP cS)) n (rhoW s m w L F k o) = some (.nx (rhoW s m w L F' k' o'))
  | 0, F, hd, hF, k, o, hk => by
    have hl := hF.len
    have e : F.length = m := by omega
    refine ⟨1, F, k, o, hF, e, ?_⟩
    unfold whN
    rw [cond_ok]
    simp [e]
  | d + 1, F, hd, hF, k, o, hk => by
    have hlt : F.length < m := by omega
    obtain ⟨i, hi, hc⟩ := some_few L F hL.nd (by rcases hL.len with h | h <;> omega) (by omega)
    have hn : ((L.length : Int)) = 21 ∨ (L.length : Int) = 7 := by rcases hL.len with h | h <;> omega
    obtain ⟨e0, he⟩ := hit s k L.length i hn hk ⟨by omega, by omega⟩
    -- e0 turns lead to a kind of which there are few
    have go : ∀ (e : Nat) (k : Int) (o : Sl), 0 ≤ k → idxV s (k + e) L.length = i → ∃ (n : Nat) (F' : List Int) (k' : Int) (o' : Sl), Fit m F' ∧ F'.length = m ∧ whN (evT T condW) (exSL T (bodyW cP cS)) n (rhoW s m w L F k o) = some (.nx (rhoW s m w L F' k' o')) := by
      intro e
      induction e with
      | zero =>
        intro k o hk he
        obtain ⟨one, ⟨h1, h2⟩, hb⟩ := body_ok T cP cS hT s w m L F k o hL (by omega) hk
        have e1 : (idxV s k L.length).toNat = i := by
          have : idxV s k L.length = i := by simpa using he
          omega
        have h3 : one = L[i] := by rw [h2]; simp only [e1]
        rw [h3] at hb
        rw [if_pos hc] at hb
        obtain ⟨n, F', k', o', q1, q2, q3⟩ := loop_ends T cP cS hT s w m hm L hL d (F ++ [L[i]]) (by simp; omega) (fit_app hF hlt (hL.rng _ (List.getElem_mem hi)) hc) (k + 1) (.own (.int L[i])) (by omega)
        refine ⟨n + 1, F', k', o', q1, q2, ?_⟩
        unfold whN
        rw [cond_ok, hb]
        simp only [hlt, decide_true]
        exact q3
      | succ e ih =>
        intro k o hk he
        obtain ⟨one, ⟨h1, h2⟩, hb⟩ := body_ok T cP cS hT s w m L F k o hL (by omega) hk
        by_cases hc1 : F.count one < 4
        · rw [if_pos hc1] at hb
          have h3 : one ∈ L := by rw [h2]; exact List.getElem_mem h1
          obtain ⟨n, F', k', o', q1, q2, q3⟩ := loop_ends T cP cS hT s w m hm L hL d (F ++ [one]) (by simp; omega) (fit_app hF hlt (hL.rng _ h3) hc1) (k + 1) (.own (.int one)) (by omega)
          refine ⟨n + 1, F', k', o', q1, q2, ?_⟩
          unfold whN
          rw [cond_ok, hb]
          simp only [hlt, decide_true]
          exact q3
        · rw [if_neg hc1] at hb
          obtain ⟨n, F', k', o', q1, q2, q3⟩ := ih (k + 1) (.own (.int one)) (by omega) (by rw [← he]; congr 1; omega)
          refine ⟨n + 1, F', k', o', q1, q2, ?_⟩
          unfold whN
          rw [cond_ok, hb]
          simp only [hlt, decide_true]
          exact q3
    exact go e0 k o hk he
theorem while_ok (T : Tab) (cP cS : Nat) (hT : HasH T cP cS) (s w : Int) (m : Nat) (hm : m ≤ 11) (L : List Int) (hL : Kinds L) (F : List Int) (hF : Fit m F) (o : Sl) :
    ∃ (F' : List Int) (k' : Int) (o' : Sl), Fit m F' ∧ F'.length = m ∧ exS T (.while_ condW (bodyW cP cS)) (rhoW s m w L F 0 o) = .nx (rhoW s m w L F' k' o') := by
  obtain ⟨n, F', k', o', q1, q2, q3⟩ := loop_ends T cP cS hT s w m hm L hL _ F rfl hF 0 o (by omega)
  exact ⟨F', k', o', q1, q2, by rw [x_while]; exact whR_eq q3⟩
end PL
set_option maxHeartbeats 4000000
namespace PL
open PySem PD PF
/-! ## the drawn hand -/
def K21 : List Int := (List.range 21).map fun (i : Nat) => (i : Int)
theorem range21 : rangeL 0 21 = K21.map .int := by unfold rangeL K21; simp [Function.comp_def]
theorem K21_kinds : Kinds K21 := ⟨by decide +kernel, by decide +kernel, .inl (by decide +kernel)⟩
def K7 (s : Int) : List Int := [s / 11 % 3 * 6 + 0, s / 11 % 3 * 6 + 1, s / 11 % 3 * 6 + 2, s / 11 % 3 * 6 + 3, s / 11 % 3 * 6 + 4, s / 11 % 3 * 6 + 5, 18 + s / 7 % 3]
theorem K7_kinds (s : Int) : Kinds (K7 s) := by
  unfold K7
  refine ⟨?_, ?_, .inr rfl⟩
  · simp
    omega
  · intro t ht
    simp at ht
    omega
def hs1 : S := .set 3 (.bi .listRange1 (.cons (.c (.int 21)) .nil))
def hs2 : S := .ife (.cmp .gt (.bin .mod (.v 2) (.c (.int 3))) (.c (.int 0)))
  (.cons (.set 3 (.bin .add (.lc (.bin .add (.bin .mul (.bin .mod (.bin .fdiv (.v 0) (.c (.int 11))) (.c (.int 3))) (.c (.int 6))) (.v 4)) (.one 4) (.rng (.c (.int 6))) .omit [("_law_k", 4)]) (.lst (.cons (.bin .add (.c (.int 18)) (.bin .mod (.bin .fdiv (.v 0) (.c (.int 7))) (.c (.int 3)))) .nil))))
  .nil)
  .nil
def hs4 (cT cSets cP cS : Nat) : S := .ife (.cmp .eq (.bin .mod (.v 2) (.c (.int 3))) (.c (.int 2)))
  (.cons (.for_ (.one 4) (.rng (.bin .fdiv (.v 1) (.c (.int 3))))
   (.cons (.set 5 (.bin .add (.v 5) (.call cT (.cons (.ix (.call cSets .nil) (.call cP (.cons (.call cS (.cons (.v 0) (.cons (.v 4) .nil))) (.cons (.c (.int 33)) .nil)))) .nil))))
   .nil))
  (.cons (.set 5 (.bin .add (.v 5) (.bin .mul (.lst (.cons (.call cP (.cons (.call cS (.cons (.v 0) (.cons (.c (.int 9)) .nil))) (.cons (.c (.int 21)) .nil))) .nil)) (.ife (.cmp .eq (.bin .mod (.v 1) (.c (.int 3))) (.c (.int 2))) (.c (.int 2)) (.c (.int 0))))))
  (.cons (.set 5 (.sl (.v 5) (.bin .mod (.bin .fdiv (.v 0) (.c (.int 13))) (.c (.int 3))) .omit))
  .nil)))
  .nil
def hs5 : S := .set 5 (.lc (.v 6) (.many [4, 6]) (.enu (.v 5)) (.cmp .lt (.me .count (.sl (.v 5) .omit (.v 4)) (.cons (.v 6) .nil)) (.c (.int 4))) [("_law_k", 4), ("_law_one", 6)])
theorem hand_eq (cT cSets cP cS : Nat) : sl__law_hand_31719a cT cSets cP cS = .cons hs1 (.cons hs2 (.cons (.set 5 (.lst .nil)) (.cons (hs4 cT cSets cP cS) (.cons hs5 (.cons (.set 4 (.c (.int 0))) (.cons (.while_ condW (bodyW cP cS)) (.cons (.ret (.bi .tuple (.cons (.bi .sorted (.cons (.v 5) .nil)) .nil))) .nil))))))) := rfl
def rhoH (s m w : Int) (a b c d : Sl) : Rho := [.own (.int s), .own (.int m), .own (.int w), a, b, c, d]
theorem hs1_ok (T : Tab) (s m w : Int) : exS T hs1 (rhoH s m w .un .un .un .un) = .nx (rhoH s m w (.own (.list (K21.map .int))) .un .un .un) := by
  unfold hs1 rhoH
  have r : rangeOk 0 21 = true := by decide
  have l : (21 : Nat) ≤ lineN := by decide
  simp [xl_nil, xl_cons, x_set, x_aug, x_app, x_rem, x_ext, x_setT, x_ex, x_ret, x_ret0, x_pass, x_brk, x_cnt, x_if, x_raise, x_try, ev_def, evT_def, ev_v, ev_c, ev_g, ev_bin, ev_neg, ev_cmp, ev_chain, ev_and, ev_or, ev_one, ev_not, ev_ife, ev_ix, ev_sl, ev_rev, ev_tup, ev_lst, ev_call, ev_bi, ev_me, ev_isi, evL_nil, evL_cons, wR, PD.R.bind, PD.RL.bindR, PD.RL.bindN, PD.RI.bindR, PD.R.bindI, PD.RT.bindR, PD.RT.bind, optR, optB, PD.okR, optT, okI, negR, outR, callR, slR, lcR, itD, ofR, PD.R.toS, PD.RT.toS, PD.RI.toS, PD.RA.toS, startR, rd, PD.Rho.at, imm, immL, imm1, tnt, mkT, inOk, argS, giveS, PD.E.asV, PD.EL.one, PD.Sl.of, truth, outOf, bop, cop, ltD, leD, subD, addD, mulD, fdivD, modD, powD, ixop, lenD, biop, put, putTg, putAll, wipeR, PD.E.isOmit, List.map_cons, List.map_nil, List.length_cons, List.length_nil, List.set_cons_zero, List.set_cons_succ, List.set_nil, List.getD_cons_zero, List.getD_cons_succ, List.cons_append, List.nil_append, List.replicate, Option.getD, ownAt, chgS, appD, extD, remD, revD, augI, isTy, killV, killS, listRangeD, r, l, range21, immL_int]
theorem hs2_ok (T : Tab) (s m w : Int) : ∃ L, Kinds L ∧ exS T hs2 (rhoH s m w (.own (.list (K21.map .int))) .un .un .un) = .nx (rhoH s m w (.own (.list (L.map .int))) .un .un .un) := by
  by_cases h : 0 < w % 3
  · refine ⟨K7 s, K7_kinds s, ?_⟩
    have e : evB T (.lc (.bin .add (.bin .mul (.bin .mod (.bin .fdiv (.v 0) (.c (.int 11))) (.c (.int 3))) (.c (.int 6))) (.v 4)) (.one 4) (.rng (.c (.int 6))) .omit [("_law_k", 4)]) (rhoH s m w (.own (.list (K21.map .int))) .un .un .un) = wR (.ok (.list [.int (s / 11 % 3 * 6 + 0), .int (s / 11 % 3 * 6 + 1), .int (s / 11 % 3 * 6 + 2), .int (s / 11 % 3 * 6 + 3), .int (s / 11 % 3 * 6 + 4), .int (s / 11 % 3 * 6 + 5)]) none) := by
      refine lc_ev (ds := rangeL 0 6) (t := none) (fun _ => true) (fun d => match d with
        | .int k => .int (s / 11 % 3 * 6 + k)
        | _ => .none) ?_ (fun d hd => ?_) (by decide)
      · have : rangeOk 0 6 = true := by decide
        simp [xl_nil, xl_cons, x_set, x_aug, x_app, x_rem, x_ext, x_setT, x_ex, x_ret, x_ret0, x_pass, x_brk, x_cnt, x_if, x_raise, x_try, ev_def, evT_def, ev_v, ev_c, ev_g, ev_bin, ev_neg, ev_cmp, ev_chain, ev_and, ev_or, ev_one, ev_not, ev_ife, ev_ix, ev_sl, ev_rev, ev_tup, ev_lst, ev_call, ev_bi, ev_me, ev_isi, evL_nil, evL_cons, wR, PD.R.bind, PD.RL.bindR, PD.RL.bindN, PD.RI.bindR, PD.R.bindI, PD.RT.bindR, PD.RT.bind, optR, optB, PD.okR, optT, okI, negR, outR, callR, slR, lcR, itD, ofR, PD.R.toS, PD.RT.toS, PD.RI.toS, PD.RA.toS, startR, rd, PD.Rho.at, imm, immL, imm1, tnt, mkT, inOk, argS, giveS, PD.E.asV, PD.EL.one, PD.Sl.of, truth, outOf, bop, cop, ltD, leD, subD, addD, mulD, fdivD, modD, powD, ixop, lenD, biop, put, putTg, putAll, wipeR, PD.E.isOmit, List.map_cons, List.map_nil, List.length_cons, List.length_nil, List.set_cons_zero, List.set_cons_succ, List.set_nil, List.getD_cons_zero, List.getD_cons_succ, List.cons_append, List.nil_append, List.replicate, Option.getD, ownAt, chgS, appD, extD, remD, revD, augI, isTy, killV, killS, evI, rng1D, rngI, this]
      · obtain ⟨k, rfl, h1, h2⟩ := range_mem hd
        refine ⟨rhoH s m w (.own (.list (K21.map .int))) (.own (.int k)) .un .un, by simp [putTg, put, wipeR, imm, rhoH], by simp [E.isOmit], fun _ => ?_⟩
        have s6 : small64 6 = true := by decide
        simp [xl_nil, xl_cons, x_set, x_aug, x_app, x_rem, x_ext, x_setT, x_ex, x_ret, x_ret0, x_pass, x_brk, x_cnt, x_if, x_raise, x_try, ev_def, evT_def, ev_v, ev_c, ev_g, ev_bin, ev_neg, ev_cmp, ev_chain, ev_and, ev_or, ev_one, ev_not, ev_ife, ev_ix, ev_sl, ev_rev, ev_tup, ev_lst, ev_call, ev_bi, ev_me, ev_isi, evL_nil, evL_cons, wR, PD.R.bind, PD.RL.bindR, PD.RL.bindN, PD.RI.bindR, PD.R.bindI, PD.RT.bindR, PD.RT.bind, optR, optB, PD.okR, optT, okI, negR, outR, callR, slR, lcR, itD, ofR, PD.R.toS, PD.RT.toS, PD.RI.toS, PD.RA.toS, startR, rd, PD.Rho.at, imm, immL, imm1, tnt, mkT, inOk, argS, giveS, PD.E.asV, PD.EL.one, PD.Sl.of, truth, outOf, bop, cop, ltD, leD, subD, addD, mulD, fdivD, modD, powD, ixop, lenD, biop, put, putTg, putAll, wipeR, PD.E.isOmit, List.map_cons, List.map_nil, List.length_cons, List.length_nil, List.set_cons_zero, List.set_cons_succ, List.set_nil, List.getD_cons_zero, List.getD_cons_succ, List.cons_append, List.nil_append, List.replicate, Option.getD, ownAt, chgS, appD, extD, remD, revD, augI, isTy, killV, killS, rhoH, fm, fd, s6]
    unfold hs2
    unfold rhoH at e ⊢
    have l7 : 7 ≤ lineN := by decide
    have l1 : 1 ≤ lineN := by decide
    simp [xl_nil, xl_cons, x_set, x_aug, x_app, x_rem, x_ext, x_setT, x_ex, x_ret, x_ret0, x_pass, x_brk, x_cnt, x_if, x_raise, x_try, ev_def, evT_def, ev_v, ev_c, ev_g, ev_bin, ev_neg, ev_cmp, ev_chain, ev_and, ev_or, ev_one, ev_not, ev_ife, ev_ix, ev_sl, ev_rev, ev_tup, ev_lst, ev_call, ev_bi, ev_me, ev_isi, evL_nil, evL_cons, wR, PD.R.bind, PD.RL.bindR, PD.RL.bindN, PD.RI.bindR, PD.R.bindI, PD.RT.bindR, PD.RT.bind, optR, optB, PD.okR, optT, okI, negR, outR, callR, slR, lcR, itD, ofR, PD.R.toS, PD.RT.toS, PD.RI.toS, PD.RA.toS, startR, rd, PD.Rho.at, imm, immL, imm1, tnt, mkT, inOk, argS, giveS, PD.E.asV, PD.EL.one, PD.Sl.of, truth, outOf, bop, cop, ltD, leD, subD, addD, mulD, fdivD, modD, powD, ixop, lenD, biop, put, putTg, putAll, wipeR, PD.E.isOmit, List.map_cons, List.map_nil, List.length_cons, List.length_nil, List.set_cons_zero, List.set_cons_succ, List.set_nil, List.getD_cons_zero, List.getD_cons_succ, List.cons_append, List.nil_append, List.replicate, Option.getD, ownAt, chgS, appD, extD, remD, revD, augI, isTy, killV, killS, e, fm, fd, h, l7, l1, K7]
  · refine ⟨K21, K21_kinds, ?_⟩
    unfold hs2 rhoH
    simp [xl_nil, xl_cons, x_set, x_aug, x_app, x_rem, x_ext, x_setT, x_ex, x_ret, x_ret0, x_pass, x_brk, x_cnt, x_if, x_raise, x_try, ev_def, evT_def, ev_v, ev_c, ev_g, ev_bin, ev_neg, ev_cmp, ev_chain, ev_and, ev_or, ev_one, ev_not, ev_ife, ev_ix, ev_sl, ev_rev, ev_tup, ev_lst, ev_call, ev_bi, ev_me, ev_isi, evL_nil, evL_cons, wR, PD.R.bind, PD.RL.bindR, PD.RL.bindN, PD.RI.bindR, PD.R.bindI, PD.RT.bindR, PD.RT.bind, optR, optB, PD.okR, optT, okI, negR, outR, callR, slR, lcR, itD, ofR, PD.R.toS, PD.RT.toS, PD.RI.toS, PD.RA.toS, startR, rd, PD.Rho.at, imm, immL, imm1, tnt, mkT, inOk, argS, giveS, PD.E.asV, PD.EL.one, PD.Sl.of, truth, outOf, bop, cop, ltD, leD, subD, addD, mulD, fdivD, modD, powD, ixop, lenD, biop, put, putTg, putAll, wipeR, PD.E.isOmit, List.map_cons, List.map_nil, List.length_cons, List.length_nil, List.set_cons_zero, List.set_cons_succ, List.set_nil, List.getD_cons_zero, List.getD_cons_succ, List.cons_append, List.nil_append, List.replicate, Option.getD, ownAt, chgS, appD, extD, remD, revD, augI, isTy, killV, killS, fm, h]
structure HasD (T : Tab) (cT cSets cP cS : Nat) : Prop extends HasH T cP cS where
  sets : T.fn cSets [] = .ret (.list setsV) .none
  tl : ∀ d ∈ setsV, ∃ ts : List Int, ts.length = 3 ∧ (∀ t ∈ ts, 0 ≤ t ∧ t ≤ 20) ∧ T.fn cT [d] = .ret (.list (ts.map .int)) .none
def body4 (cT cSets cP cS : Nat) : SL := (.cons (.set 5 (.bin .add (.v 5) (.call cT (.cons (.ix (.call cSets .nil) (.call cP (.cons (.call cS (.cons (.v 0) (.cons (.v 4) .nil))) (.cons (.c (.int 33)) .nil)))) .nil)))) .nil)
def Rng (F : List Int) : Prop := ∀ t ∈ F, 0 ≤ t ∧ t ≤ 20
theorem body4_ok (T : Tab) (cT cSets cP cS : Nat) (hT : HasD T cT cSets cP cS) (s m w k : Int) (a d : Sl) (F : List Int) (hF : F.length < 1000) : ∃ ts : List Int, ts.length = 3 ∧ Rng ts ∧
    exSL T (body4 cT cSets cP cS) (rhoH s m w a (.own (.int k)) (.own (.list (F.map .int))) d) = .nx (rhoH s m w a (.own (.int k)) (.own (.list ((F ++ ts).map .int))) d) := by
  have p := hT.pick (seedV s k) 33 (by decide)
  have b1 : 0 ≤ pickV (seedV s k) 33 := Int.emod_nonneg _ (by decide)
  have b2 : pickV (seedV s k) 33 < 33 := Int.emod_lt_of_pos _ (by decide)
  generalize pickV (seedV s k) 33 = x at *
  have hx : x.toNat < setsV.length := by rw [setsV_len]; omega
  have at1 : atN setsV x = some setsV[x.toNat] := by
    unfold atN
    rw [if_pos b1]
    simp [hx]
  have hm : setsV[x.toNat] ∈ setsV := List.getElem_mem hx
  generalize setsV[x.toNat] = dd at *
  obtain ⟨ts, h1, h2, h3⟩ := hT.tl dd hm
  have im : imm dd = true := immL_mem setsV_imm hm
  obtain ⟨xs, rfl⟩ : ∃ xs, dd = .tuple xs := by
    obtain ⟨k, ⟨z, _⟩ | ⟨z, _⟩⟩ := sets_mem hm
    · exact ⟨_, z⟩
    · exact ⟨_, z⟩
  refine ⟨ts, h1, h2, ?_⟩
  have l : F.length + ts.length ≤ lineN := by unfold lineN; omega
  have e : F.map PyData.int ++ ts.map .int = (F ++ ts).map .int := by simp
  have i1 := immL_int (F ++ ts)
  generalize F ++ ts = FF at e i1 ⊢
  unfold body4 rhoH
  have sets := hT.sets
  have ss := setsV_imm
  generalize setsV = SV at *
  simp [imm] at im
  simp [xl_nil, xl_cons, x_set, x_aug, x_app, x_rem, x_ext, x_setT, x_ex, x_ret, x_ret0, x_pass, x_brk, x_cnt, x_if, x_raise, x_try, ev_def, evT_def, ev_v, ev_c, ev_g, ev_bin, ev_neg, ev_cmp, ev_chain, ev_and, ev_or, ev_one, ev_not, ev_ife, ev_ix, ev_sl, ev_rev, ev_tup, ev_lst, ev_call, ev_bi, ev_me, ev_isi, evL_nil, evL_cons, wR, PD.R.bind, PD.RL.bindR, PD.RL.bindN, PD.RI.bindR, PD.R.bindI, PD.RT.bindR, PD.RT.bind, optR, optB, PD.okR, optT, okI, negR, outR, callR, slR, lcR, itD, ofR, PD.R.toS, PD.RT.toS, PD.RI.toS, PD.RA.toS, startR, rd, PD.Rho.at, imm, immL, imm1, tnt, mkT, inOk, argS, giveS, PD.E.asV, PD.EL.one, PD.Sl.of, truth, outOf, bop, cop, ltD, leD, subD, addD, mulD, fdivD, modD, powD, ixop, lenD, biop, put, putTg, putAll, wipeR, PD.E.isOmit, List.map_cons, List.map_nil, List.length_cons, List.length_nil, List.set_cons_zero, List.set_cons_succ, List.set_nil, List.getD_cons_zero, List.getD_cons_succ, List.cons_append, List.nil_append, List.replicate, Option.getD, ownAt, chgS, appD, extD, remD, revD, augI, isTy, killV, killS, hT.io, hT.seed, p, sets, at1, h3, im, l, e, i1, ss]
theorem loop4 (T : Tab) (cT cSets cP cS : Nat) (hT : HasD T cT cSets cP cS) (s m w : Int) (a d : Sl) (t : Tn) : ∀ (is : List Int) (F : List Int) (b : Sl), F.length + 3 * is.length < 1000 → Rng F →
    ∃ F' b', F'.length = F.length + 3 * is.length ∧ Rng F' ∧ forL (exSL T (body4 cT cSets cP cS)) (.one 4) t (is.map .int) (rhoH s m w a b (.own (.list (F.map .int))) d) = .nx (rhoH s m w a b' (.own (.list (F'.map .int))) d)
  | [], F, b, _, hr => ⟨F, b, by simp, hr, rfl⟩
  | i :: is, F, b, hl, hr => by
    simp only [List.length_cons] at hl
    obtain ⟨ts, h1, h2, h3⟩ := body4_ok T cT cSets cP cS hT s m w i a d F (by omega)
    obtain ⟨F', b', k1, k2, k3⟩ := loop4 T cT cSets cP cS hT s m w a d t is (F ++ ts) (.own (.int i)) (by rw [List.length_append]; omega) (fun t ht => (List.mem_append.mp ht).elim (hr t) (h2 t))
    refine ⟨F', b', by rw [k1, List.length_append, List.length_cons]; omega, k2, ?_⟩
    have e : putTg (rhoH s m w a b (.own (.list (F.map .int))) d) (.one 4) (.int i) (some (t.getD [] ++ lks (rhoH s m w a b (.own (.list (F.map .int))) d))) = some (rhoH s m w a (.own (.int i)) (.own (.list (F.map .int))) d) := by
      unfold rhoH
      simp [putTg, put, imm]
    rw [List.map_cons, forL, e]
    dsimp only
    rw [h3]
    exact k3
theorem hs4_ok (T : Tab) (cT cSets cP cS : Nat) (hT : HasD T cT cSets cP cS) (s w : Int) (m : Nat) (hm : m ≤ 11) (a : Sl) : ∃ F b, F.length ≤ m ∧ Rng F ∧ exS T (hs4 cT cSets cP cS) (rhoH s m w a .un (.own (.list [])) .un) = .nx (rhoH s m w a b (.own (.list (F.map .int))) .un) := by
  by_cases h : w % 3 = 2
  · obtain ⟨mm, hmm⟩ : ∃ mm, mm = m / 3 := ⟨_, rfl⟩
    have fd1 : ((m : Int)).fdiv 3 = (mm : Int) := by rw [fd _ _ (by decide)]; omega
    have ro : rangeOk 0 (mm : Int) = true := by
      unfold rangeOk
      simp only [Bool.and_eq_true, decide_eq_true_eq]
      omega
    have rl : rangeL 0 (mm : Int) = ((List.range mm).map fun (i : Nat) => (i : Int)).map .int := by
      unfold rangeL
      simp [Function.comp_def]
    obtain ⟨F1, b1, q1, q2, q3⟩ := loop4 T cT cSets cP cS hT s m w a .un none ((List.range mm).map fun (i : Nat) => (i : Int)) [] .un (by simp; omega) (fun t ht => by simp at ht)
    rw [← rl] at q3
    simp only [List.length_nil, Nat.zero_add, List.length_map, List.length_range] at q1
    have fo : exS T (.for_ (.one 4) (.rng (.bin .fdiv (.v 1) (.c (.int 3)))) (body4 cT cSets cP cS)) (rhoH s m w a .un (.own (.list [])) .un) = .nx (rhoH s m w a b1 (.own (.list (F1.map .int))) .un) := by
      rw [x_for]
      have : evI T (.rng (.bin .fdiv (.v 1) (.c (.int 3)))) (rhoH s m w a .un (.own (.list [])) .un) = .ok (rangeL 0 (mm : Int)) none := by
        unfold rhoH
        simp [xl_nil, xl_cons, x_set, x_aug, x_app, x_rem, x_ext, x_setT, x_ex, x_ret, x_ret0, x_pass, x_brk, x_cnt, x_if, x_raise, x_try, ev_def, evT_def, ev_v, ev_c, ev_g, ev_bin, ev_neg, ev_cmp, ev_chain, ev_and, ev_or, ev_one, ev_not, ev_ife, ev_ix, ev_sl, ev_rev, ev_tup, ev_lst, ev_call, ev_bi, ev_me, ev_isi, evL_nil, evL_cons, wR, PD.R.bind, PD.RL.bindR, PD.RL.bindN, PD.RI.bindR, PD.R.bindI, PD.RT.bindR, PD.RT.bind, optR, optB, PD.okR, optT, okI, negR, outR, callR, slR, lcR, itD, ofR, PD.R.toS, PD.RT.toS, PD.RI.toS, PD.RA.toS, startR, rd, PD.Rho.at, imm, immL, imm1, tnt, mkT, inOk, argS, giveS, PD.E.asV, PD.EL.one, PD.Sl.of, truth, outOf, bop, cop, ltD, leD, subD, addD, mulD, fdivD, modD, powD, ixop, lenD, biop, put, putTg, putAll, wipeR, PD.E.isOmit, List.map_cons, List.map_nil, List.length_cons, List.length_nil, List.set_cons_zero, List.set_cons_succ, List.set_nil, List.getD_cons_zero, List.getD_cons_succ, List.cons_append, List.nil_append, List.replicate, Option.getD, ownAt, chgS, appD, extD, remD, revD, augI, isTy, killV, killS, evI, rng1D, rngI, fd1, ro]
      rw [this]
      exact q3
    -- the pair
    have p := hT.pick (seedV s 9) 21 (by decide)
    have c1 : 0 ≤ pickV (seedV s 9) 21 := Int.emod_nonneg _ (by decide)
    have c2 : pickV (seedV s 9) 21 < 21 := Int.emod_lt_of_pos _ (by decide)
    generalize pickV (seedV s 9) 21 = x at *
    obtain ⟨j, hj⟩ : ∃ j : Nat, (s / 13 % 3) = (j : Int) := ⟨(s / 13 % 3).toNat, by omega⟩
    by_cases hm2 : m % 3 = 2
    · have e2 : ((m : Int) % 3) = 2 := by omega
      have l1 : F1.length + 2 ≤ lineN := by unfold lineN; omega
      have l2 : 1 ≤ lineN := by decide
      have l3 : 1 * 2 ≤ lineN := by decide
      have ee : F1.map PyData.int ++ rep 2 [.int x] = (F1 ++ [x, x]).map .int := by simp [rep, List.replicate]
      have rl2 : (rep 2 [PyData.int x]).length = 2 := rfl
      have ii := immL_int (F1 ++ [x, x])
      have i3 : immL (rep 2 [PyData.int x]) = true := rfl
      refine ⟨(F1 ++ [x, x]).drop j, b1, by simp; omega, fun t ht => ?_, ?_⟩
      · rcases List.mem_append.mp (List.mem_of_mem_drop ht) with z | z
        · exact q2 t z
        · simp at z
          omega
      · rw [List.map_drop]
        have ct : cutL ((F1 ++ [x, x]).map PyData.int) (some (j : Int)) none = ((F1 ++ [x, x]).map PyData.int).drop j := cut_from _ j
        have id1 : immL (((F1 ++ [x, x]).map PyData.int).drop j) = true := by rw [← List.map_drop]; exact immL_int _
        generalize F1 ++ [x, x] = FF at ee ii ct id1 ⊢
        generalize hdd : (FF.map PyData.int).drop j = DD at *
        unfold hs4
        unfold body4 at fo
        unfold rhoH at fo ⊢
        simp [xl_nil, xl_cons, x_set, x_aug, x_app, x_rem, x_ext, x_setT, x_ex, x_ret, x_ret0, x_pass, x_brk, x_cnt, x_if, x_raise, x_try, ev_def, evT_def, ev_v, ev_c, ev_g, ev_bin, ev_neg, ev_cmp, ev_chain, ev_and, ev_or, ev_one, ev_not, ev_ife, ev_ix, ev_sl, ev_rev, ev_tup, ev_lst, ev_call, ev_bi, ev_me, ev_isi, evL_nil, evL_cons, wR, PD.R.bind, PD.RL.bindR, PD.RL.bindN, PD.RI.bindR, PD.R.bindI, PD.RT.bindR, PD.RT.bind, optR, optB, PD.okR, optT, okI, negR, outR, callR, slR, lcR, itD, ofR, PD.R.toS, PD.RT.toS, PD.RI.toS, PD.RA.toS, startR, rd, PD.Rho.at, imm, immL, imm1, tnt, mkT, inOk, argS, giveS, PD.E.asV, PD.EL.one, PD.Sl.of, truth, outOf, bop, cop, ltD, leD, subD, addD, mulD, fdivD, modD, powD, ixop, lenD, biop, put, putTg, putAll, wipeR, PD.E.isOmit, List.map_cons, List.map_nil, List.length_cons, List.length_nil, List.set_cons_zero, List.set_cons_succ, List.set_nil, List.getD_cons_zero, List.getD_cons_succ, List.cons_append, List.nil_append, List.replicate, Option.getD, ownAt, chgS, appD, extD, remD, revD, augI, isTy, killV, killS, fm, fd, h, fo, hT.io, hT.seed, p, eqD, sh_int, PyData.eqv, e2, l1, l2, l3, rl2, ee, ii, i3, slop, partOf, hj, ct, id1]
    · have e2 : ¬ ((m : Int) % 3) = 2 := by omega
      have e2' : (((m : Int) % 3) == 2) = false := by simpa using e2
      have l1 : F1.length ≤ lineN := by unfold lineN; omega
      have l2 : 1 ≤ lineN := by decide
      have i3 : rep 0 [PyData.int x] = [] := rfl
      have ii := immL_int F1
      refine ⟨F1.drop j, b1, by simp; omega, fun t ht => q2 t (List.mem_of_mem_drop ht), ?_⟩
      rw [List.map_drop]
      have ct : cutL (F1.map PyData.int) (some (j : Int)) none = (F1.map PyData.int).drop j := cut_from _ j
      have id1 : immL ((F1.map PyData.int).drop j) = true := by rw [← List.map_drop]; exact immL_int _
      generalize hdd : (F1.map PyData.int).drop j = DD at *
      unfold hs4
      unfold body4 at fo
      unfold rhoH at fo ⊢
      simp [xl_nil, xl_cons, x_set, x_aug, x_app, x_rem, x_ext, x_setT, x_ex, x_ret, x_ret0, x_pass, x_brk, x_cnt, x_if, x_raise, x_try, ev_def, evT_def, ev_v, ev_c, ev_g, ev_bin, ev_neg, ev_cmp, ev_chain, ev_and, ev_or, ev_one, ev_not, ev_ife, ev_ix, ev_sl, ev_rev, ev_tup, ev_lst, ev_call, ev_bi, ev_me, ev_isi, evL_nil, evL_cons, wR, PD.R.bind, PD.RL.bindR, PD.RL.bindN, PD.RI.bindR, PD.R.bindI, PD.RT.bindR, PD.RT.bind, optR, optB, PD.okR, optT, okI, negR, outR, callR, slR, lcR, itD, ofR, PD.R.toS, PD.RT.toS, PD.RI.toS, PD.RA.toS, startR, rd, PD.Rho.at, imm, immL, imm1, tnt, mkT, inOk, argS, giveS, PD.E.asV, PD.EL.one, PD.Sl.of, truth, outOf, bop, cop, ltD, leD, subD, addD, mulD, fdivD, modD, powD, ixop, lenD, biop, put, putTg, putAll, wipeR, PD.E.isOmit, List.map_cons, List.map_nil, List.length_cons, List.length_nil, List.set_cons_zero, List.set_cons_succ, List.set_nil, List.getD_cons_zero, List.getD_cons_succ, List.cons_append, List.nil_append, List.replicate, Option.getD, ownAt, chgS, appD, extD, remD, revD, augI, isTy, killV, killS, fm, fd, h, fo, hT.io, hT.seed, p, eqD, sh_int, PyData.eqv, e2, e2', l1, l2, i3, ii, slop, partOf, hj, ct, id1]
  · refine ⟨[], .un, by simp, fun t ht => by simp at ht, ?_⟩
    have e2' : ((w % 3) == 2) = false := by simpa using h
    unfold hs4 rhoH
    simp [xl_nil, xl_cons, x_set, x_aug, x_app, x_rem, x_ext, x_setT, x_ex, x_ret, x_ret0, x_pass, x_brk, x_cnt, x_if, x_raise, x_try, ev_def, evT_def, ev_v, ev_c, ev_g, ev_bin, ev_neg, ev_cmp, ev_chain, ev_and, ev_or, ev_one, ev_not, ev_ife, ev_ix, ev_sl, ev_rev, ev_tup, ev_lst, ev_call, ev_bi, ev_me, ev_isi, evL_nil, evL_cons, wR, PD.R.bind, PD.RL.bindR, PD.RL.bindN, PD.RI.bindR, PD.R.bindI, PD.RT.bindR, PD.RT.bind, optR, optB, PD.okR, optT, okI, negR, outR, callR, slR, lcR, itD, ofR, PD.R.toS, PD.RT.toS, PD.RI.toS, PD.RA.toS, startR, rd, PD.Rho.at, imm, immL, imm1, tnt, mkT, inOk, argS, giveS, PD.E.asV, PD.EL.one, PD.Sl.of, truth, outOf, bop, cop, ltD, leD, subD, addD, mulD, fdivD, modD, powD, ixop, lenD, biop, put, putTg, putAll, wipeR, PD.E.isOmit, List.map_cons, List.map_nil, List.length_cons, List.length_nil, List.set_cons_zero, List.set_cons_succ, List.set_nil, List.getD_cons_zero, List.getD_cons_succ, List.cons_append, List.nil_append, List.replicate, Option.getD, ownAt, chgS, appD, extD, remD, revD, augI, isTy, killV, killS, fm, h, e2', eqD, sh_int, PyData.eqv]
end PL
set_option maxHeartbeats 4000000
namespace PL
open PySem PD PF
def p5 (W : List Int) : PyData → Bool
  | .tuple [.int i, .int x] => decide ((W.take i.toNat).count x < 4)
  | _ => false
def f5 : PyData → PyData
  | .tuple [_, d] => d
  | d => d
theorem enu_mem : ∀ {ds : List PyData} {k : Nat} {d : PyData}, d ∈ enuL k ds → ∃ (i : Nat) (e : PyData), e ∈ ds ∧ d = .tuple [.int (i : Nat), e]
  | [], _, _, h => by simp [enuL] at h
  | e :: ds, k, d, h => by
    unfold enuL at h
    rcases List.mem_cons.mp h with z | z
    · exact ⟨k, e, by simp, z⟩
    · obtain ⟨i, e', h1, h2⟩ := enu_mem z
      exact ⟨i, e', List.mem_cons_of_mem _ h1, h2⟩
theorem flt5 : ∀ (F pre : List Int), ∃ G : List Int, ((enuL pre.length (F.map .int)).filter (p5 (pre ++ F))).map f5 = G.map PyData.int ∧ G.Sublist F ∧ ∀ t, G.count t + min 4 (pre.count t) ≤ 4
  | [], pre => ⟨[], rfl, List.Sublist.refl _, fun t => by simp; omega⟩
  | x :: F, pre => by
    obtain ⟨G, h1, h2, h3⟩ := flt5 F (pre ++ [x])
    have e : pre ++ [x] ++ F = pre ++ x :: F := by simp
    rw [e, List.length_append, List.length_singleton] at h1
    have tk : (pre ++ x :: F).take pre.length = pre := by simp
    have px : p5 (pre ++ x :: F) (.tuple [.int (pre.length : Nat), .int x]) = decide (pre.count x < 4) := by
      show decide (((pre ++ x :: F).take ((pre.length : Int)).toNat).count x < 4) = _
      rw [Int.toNat_natCast, tk]
    rw [List.map_cons, enuL, List.filter_cons, px]
    have cnt : ∀ t, (pre ++ [x]).count t = pre.count t + [x].count t := fun t => List.count_append
    by_cases hc : pre.count x < 4
    · refine ⟨x :: G, by simp [hc, h1, f5], List.Sublist.cons₂ x h2, fun t => ?_⟩
      have := h3 t
      rw [cnt] at this
      by_cases e : t = x
      · subst e
        simp at this ⊢
        omega
      · have e0 : [x].count t = 0 := List.count_eq_zero.mpr (by simpa using e)
        rw [List.count_cons_of_ne (fun z => e z.symm)]
        omega
    · refine ⟨G, by simp [hc, h1], List.Sublist.cons x h2, fun t => ?_⟩
      have := h3 t
      rw [cnt] at this
      omega
theorem hs5_ok (T : Tab) (s m w : Int) (a b : Sl) (F : List Int) (hl : F.length < 1000) : ∃ G : List Int, G.Sublist F ∧ (∀ t, G.count t ≤ 4) ∧ exS T hs5 (rhoH s m w a b (.own (.list (F.map .int))) .un) = .nx (rhoH s m w a b (.own (.list (G.map .int))) .un) := by
  obtain ⟨G, h1, h2, h3⟩ := flt5 F []
  refine ⟨G, h2, fun t => by have := h3 t; omega, ?_⟩
  have q := lc_ev (T := T) (elt := .v 6) (tg := .many [4, 6]) (it := .enu (.v 5)) (cond := .cmp .lt (.me .count (.sl (.v 5) .omit (.v 4)) (.cons (.v 6) .nil)) (.c (.int 4))) (own := [("_law_k", 4), ("_law_one", 6)]) (ρ := rhoH s m w a b (.own (.list (F.map .int))) .un)
    (ds := enuL 0 (F.map .int)) (t := some [5]) (p5 F) f5 (by unfold rhoH; simp [xl_nil, xl_cons, x_set, x_aug, x_app, x_rem, x_ext, x_setT, x_ex, x_ret, x_ret0, x_pass, x_brk, x_cnt, x_if, x_raise, x_try, ev_def, evT_def, ev_v, ev_c, ev_g, ev_bin, ev_neg, ev_cmp, ev_chain, ev_and, ev_or, ev_one, ev_not, ev_ife, ev_ix, ev_sl, ev_rev, ev_tup, ev_lst, ev_call, ev_bi, ev_me, ev_isi, evL_nil, evL_cons, wR, PD.R.bind, PD.RL.bindR, PD.RL.bindN, PD.RI.bindR, PD.R.bindI, PD.RT.bindR, PD.RT.bind, optR, optB, PD.okR, optT, okI, negR, outR, callR, slR, lcR, itD, ofR, PD.R.toS, PD.RT.toS, PD.RI.toS, PD.RA.toS, startR, rd, PD.Rho.at, imm, immL, imm1, tnt, mkT, inOk, argS, giveS, PD.E.asV, PD.EL.one, PD.Sl.of, truth, outOf, bop, cop, ltD, leD, subD, addD, mulD, fdivD, modD, powD, ixop, lenD, biop, put, putTg, putAll, wipeR, PD.E.isOmit, List.map_cons, List.map_nil, List.length_cons, List.length_nil, List.set_cons_zero, List.set_cons_succ, List.set_nil, List.getD_cons_zero, List.getD_cons_succ, List.cons_append, List.nil_append, List.replicate, Option.getD, ownAt, chgS, appD, extD, remD, revD, augI, isTy, killV, killS, evI, enuD]) (fun d hd => by
      obtain ⟨i, e, he, rfl⟩ := enu_mem hd
      obtain ⟨x, hx, rfl⟩ := List.mem_map.mp he
      have ct : cutL (F.map PyData.int) none (some (i : Int)) = (F.take i).map .int := by rw [cut_to, List.map_take]
      have ii := immL_int (F.take i)
      have sl := shL_int (F.take i)
      have cc := count_int (F.take i) x
      have pp : p5 F (.tuple [.int (i : Nat), .int x]) = decide ((F.take i).count x < 4) := by
        show decide ((F.take ((i : Int)).toNat).count x < 4) = _
        rw [Int.toNat_natCast]
      refine ⟨rhoH s m w a (.own (.int i)) (.own (.list (F.map .int))) (.own (.int x)), by unfold rhoH; simp [putTg, putAll, put, wipeR, imm], ?_, fun _ => ?_⟩
      · rw [pp]
        generalize (F.take i).count x = c at *
        generalize (F.take i).map PyData.int = M at *
        unfold rhoH
        simp [xl_nil, xl_cons, x_set, x_aug, x_app, x_rem, x_ext, x_setT, x_ex, x_ret, x_ret0, x_pass, x_brk, x_cnt, x_if, x_raise, x_try, ev_def, evT_def, ev_v, ev_c, ev_g, ev_bin, ev_neg, ev_cmp, ev_chain, ev_and, ev_or, ev_one, ev_not, ev_ife, ev_ix, ev_sl, ev_rev, ev_tup, ev_lst, ev_call, ev_bi, ev_me, ev_isi, evL_nil, evL_cons, wR, PD.R.bind, PD.RL.bindR, PD.RL.bindN, PD.RI.bindR, PD.R.bindI, PD.RT.bindR, PD.RT.bind, optR, optB, PD.okR, optT, okI, negR, outR, callR, slR, lcR, itD, ofR, PD.R.toS, PD.RT.toS, PD.RI.toS, PD.RA.toS, startR, rd, PD.Rho.at, imm, immL, imm1, tnt, mkT, inOk, argS, giveS, PD.E.asV, PD.EL.one, PD.Sl.of, truth, outOf, bop, cop, ltD, leD, subD, addD, mulD, fdivD, modD, powD, ixop, lenD, biop, put, putTg, putAll, wipeR, PD.E.isOmit, List.map_cons, List.map_nil, List.length_cons, List.length_nil, List.set_cons_zero, List.set_cons_succ, List.set_nil, List.getD_cons_zero, List.getD_cons_succ, List.cons_append, List.nil_append, List.replicate, Option.getD, ownAt, chgS, appD, extD, remD, revD, augI, isTy, killV, killS, slop, partOf, ct, meop, countD, sh_int, sl, cc]
        omega
      · unfold rhoH
        simp [ev_v, rd, Rho.at, imm, wR, f5]) (by
      have := enuL_length (F.map PyData.int) 0
      rw [this]
      simp
      unfold lineN; omega)
  have h1' : ((enuL 0 (F.map .int)).filter (p5 F)).map f5 = G.map PyData.int := by simpa using h1
  rw [h1'] at q
  unfold hs5
  unfold rhoH at q ⊢
  simp [xl_nil, xl_cons, x_set, x_aug, x_app, x_rem, x_ext, x_setT, x_ex, x_ret, x_ret0, x_pass, x_brk, x_cnt, x_if, x_raise, x_try, ev_def, evT_def, ev_v, ev_c, ev_g, ev_bin, ev_neg, ev_cmp, ev_chain, ev_and, ev_or, ev_one, ev_not, ev_ife, ev_ix, ev_sl, ev_rev, ev_tup, ev_lst, ev_call, ev_bi, ev_me, ev_isi, evL_nil, evL_cons, wR, PD.R.bind, PD.RL.bindR, PD.RL.bindN, PD.RI.bindR, PD.R.bindI, PD.RT.bindR, PD.RT.bind, optR, optB, PD.okR, optT, okI, negR, outR, callR, slR, lcR, itD, ofR, PD.R.toS, PD.RT.toS, PD.RI.toS, PD.RA.toS, startR, rd, PD.Rho.at, imm, immL, imm1, tnt, mkT, inOk, argS, giveS, PD.E.asV, PD.EL.one, PD.Sl.of, truth, outOf, bop, cop, ltD, leD, subD, addD, mulD, fdivD, modD, powD, ixop, lenD, biop, put, putTg, putAll, wipeR, PD.E.isOmit, List.map_cons, List.map_nil, List.length_cons, List.length_nil, List.set_cons_zero, List.set_cons_succ, List.set_nil, List.getD_cons_zero, List.getD_cons_succ, List.cons_append, List.nil_append, List.replicate, Option.getD, ownAt, chgS, appD, extD, remD, revD, augI, isTy, killV, killS, q]
theorem pairwise_sorted : ∀ {ns : List Int}, ns.Pairwise (· ≤ ·) → sortedB ns = true
  | [], _ => rfl
  | [_], _ => rfl
  | a :: b :: r, h => by
    obtain ⟨h1, h2⟩ := List.pairwise_cons.mp h
    have := h1 b (by simp)
    simp [sortedB, this, pairwise_sorted h2]
theorem isHand_srt {m : Nat} (hm : 1 ≤ m ∧ m ≤ 11) {F : List Int} (hF : Fit m F) (hl : F.length = m) : isHand (srt F) = true := by
  have pe := srt_perm F
  unfold isHand areT
  rw [pairwise_sorted (srt_sorted F), pe.length_eq, hl]
  have h1 : ((srt F).all fun n => decide (0 ≤ n) && decide (n ≤ 20)) = true := by
    rw [List.all_eq_true]
    intro t ht
    have := hF.rng t (pe.mem_iff.mp ht)
    simp [this.1, this.2]
  have h2 : ((srt F).all fun n => decide ((srt F).count n ≤ 4)) = true := by
    rw [List.all_eq_true]
    intro t ht
    have := hF.cnt t
    rw [pe.count_eq]
    simpa using this
  rw [h1, h2]
  simp [hm.1, hm.2]
theorem hand_ok (T : Tab) (cT cSets cP cS : Nat) (hT : HasD T cT cSets cP cS) (s w : Int) (m : Nat) (hm : 1 ≤ m ∧ m ≤ 11) : ∃ ns : List Int, isHand ns = true ∧ ns.length = m ∧ outOf (exSL T (sl__law_hand_31719a cT cSets cP cS) (startR 7 [.int s, .int m, .int w])) = .ret (.tuple (ns.map .int)) .none := by
  obtain ⟨L, hL, e2⟩ := hs2_ok T s m w
  obtain ⟨F, b, f1, f2, e4⟩ := hs4_ok T cT cSets cP cS hT s w m hm.2 (.own (.list (L.map .int)))
  obtain ⟨G, g1, g2, e5⟩ := hs5_ok T s m w (.own (.list (L.map .int))) b F (by omega)
  have fit : Fit m G := ⟨fun t ht => f2 t (g1.subset ht), g2, by have := g1.length_le; omega⟩
  obtain ⟨F', k', o', w1, w2, e7⟩ := while_ok T cP cS hT.toHasH s w m hm.2 L hL G fit .un
  refine ⟨srt F', isHand_srt hm w1 w2, by rw [(srt_perm F').length_eq, w2], ?_⟩
  have e1 := hs1_ok T s m w
  have st : startR 7 [.int s, .int m, .int w] = rhoH s m w .un .un .un .un := rfl
  have e3 : exS T (.set 5 (.lst .nil)) (rhoH s m w (.own (.list (L.map .int))) .un .un .un) = .nx (rhoH s m w (.own (.list (L.map .int))) .un (.own (.list [])) .un) := by
    unfold rhoH
    simp [xl_nil, xl_cons, x_set, x_aug, x_app, x_rem, x_ext, x_setT, x_ex, x_ret, x_ret0, x_pass, x_brk, x_cnt, x_if, x_raise, x_try, ev_def, evT_def, ev_v, ev_c, ev_g, ev_bin, ev_neg, ev_cmp, ev_chain, ev_and, ev_or, ev_one, ev_not, ev_ife, ev_ix, ev_sl, ev_rev, ev_tup, ev_lst, ev_call, ev_bi, ev_me, ev_isi, evL_nil, evL_cons, wR, PD.R.bind, PD.RL.bindR, PD.RL.bindN, PD.RI.bindR, PD.R.bindI, PD.RT.bindR, PD.RT.bind, optR, optB, PD.okR, optT, okI, negR, outR, callR, slR, lcR, itD, ofR, PD.R.toS, PD.RT.toS, PD.RI.toS, PD.RA.toS, startR, rd, PD.Rho.at, imm, immL, imm1, tnt, mkT, inOk, argS, giveS, PD.E.asV, PD.EL.one, PD.Sl.of, truth, outOf, bop, cop, ltD, leD, subD, addD, mulD, fdivD, modD, powD, ixop, lenD, biop, put, putTg, putAll, wipeR, PD.E.isOmit, List.map_cons, List.map_nil, List.length_cons, List.length_nil, List.set_cons_zero, List.set_cons_succ, List.set_nil, List.getD_cons_zero, List.getD_cons_succ, List.cons_append, List.nil_append, List.replicate, Option.getD, ownAt, chgS, appD, extD, remD, revD, augI, isTy, killV, killS]
  have e6 : exS T (.set 4 (.c (.int 0))) (rhoH s m w (.own (.list (L.map .int))) b (.own (.list (G.map .int))) .un) = .nx (rhoW s m w L G 0 .un) := by
    unfold rhoH rhoW
    simp [xl_nil, xl_cons, x_set, x_aug, x_app, x_rem, x_ext, x_setT, x_ex, x_ret, x_ret0, x_pass, x_brk, x_cnt, x_if, x_raise, x_try, ev_def, evT_def, ev_v, ev_c, ev_g, ev_bin, ev_neg, ev_cmp, ev_chain, ev_and, ev_or, ev_one, ev_not, ev_ife, ev_ix, ev_sl, ev_rev, ev_tup, ev_lst, ev_call, ev_bi, ev_me, ev_isi, evL_nil, evL_cons, wR, PD.R.bind, PD.RL.bindR, PD.RL.bindN, PD.RI.bindR, PD.R.bindI, PD.RT.bindR, PD.RT.bind, optR, optB, PD.okR, optT, okI, negR, outR, callR, slR, lcR, itD, ofR, PD.R.toS, PD.RT.toS, PD.RI.toS, PD.RA.toS, startR, rd, PD.Rho.at, imm, immL, imm1, tnt, mkT, inOk, argS, giveS, PD.E.asV, PD.EL.one, PD.Sl.of, truth, outOf, bop, cop, ltD, leD, subD, addD, mulD, fdivD, modD, powD, ixop, lenD, biop, put, putTg, putAll, wipeR, PD.E.isOmit, List.map_cons, List.map_nil, List.length_cons, List.length_nil, List.set_cons_zero, List.set_cons_succ, List.set_nil, List.getD_cons_zero, List.getD_cons_succ, List.cons_append, List.nil_append, List.replicate, Option.getD, ownAt, chgS, appD, extD, remD, revD, augI, isTy, killV, killS]
  have e8 : exS T (.ret (.bi .tuple (.cons (.bi .sorted (.cons (.v 5) .nil)) .nil))) (rhoW s m w L F' k' o') = .rt (.tuple ((srt F').map .int)) (rhoW s m w L F' k' o') := by
    have ii := immL_int (srt F')
    have sl := sorted_listI F'
    generalize srt F' = M at *
    unfold rhoW
    simp [xl_nil, xl_cons, x_set, x_aug, x_app, x_rem, x_ext, x_setT, x_ex, x_ret, x_ret0, x_pass, x_brk, x_cnt, x_if, x_raise, x_try, ev_def, evT_def, ev_v, ev_c, ev_g, ev_bin, ev_neg, ev_cmp, ev_chain, ev_and, ev_or, ev_one, ev_not, ev_ife, ev_ix, ev_sl, ev_rev, ev_tup, ev_lst, ev_call, ev_bi, ev_me, ev_isi, evL_nil, evL_cons, wR, PD.R.bind, PD.RL.bindR, PD.RL.bindN, PD.RI.bindR, PD.R.bindI, PD.RT.bindR, PD.RT.bind, optR, optB, PD.okR, optT, okI, negR, outR, callR, slR, lcR, itD, ofR, PD.R.toS, PD.RT.toS, PD.RI.toS, PD.RA.toS, startR, rd, PD.Rho.at, imm, immL, imm1, tnt, mkT, inOk, argS, giveS, PD.E.asV, PD.EL.one, PD.Sl.of, truth, outOf, bop, cop, ltD, leD, subD, addD, mulD, fdivD, modD, powD, ixop, lenD, biop, put, putTg, putAll, wipeR, PD.E.isOmit, List.map_cons, List.map_nil, List.length_cons, List.length_nil, List.set_cons_zero, List.set_cons_succ, List.set_nil, List.getD_cons_zero, List.getD_cons_succ, List.cons_append, List.nil_append, List.replicate, Option.getD, ownAt, chgS, appD, extD, remD, revD, augI, isTy, killV, killS, sl, ii, tupleD]
  rw [hand_eq, st]
  simp only [xl_cons, xl_nil, e1, e2, e3, e4, e5, e6, e7, e8, outOf]
end PL
set_option maxHeartbeats 4000000
namespace PL
open PySem PD PF
/-! ## law k01 -/
/-- what is no hand -/
def Bad (d : PyData) : Prop := (noDict d = true ∧ ∀ xs, d ≠ .tuple xs) ∨ (∃ ds, d = .tuple ds ∧ (∀ d ∈ ds, noDict d = true) ∧ immL ds = true ∧ ds.length ≤ lineN ∧ ∃ d ∈ ds, isKind d = false) ∨ ∃ ns : List Int, d = .tuple (ns.map .int) ∧ ns.length ≤ lineN ∧ isHand ns = false
structure HasL (T : Tab) (cH cC cS cM cK cP cO : Nat) : Prop where
  io : ∀ f, T.io f = false
  sub : T.sub "BadHand" "BadHand" = some true
  hand : ∀ (s w : Int) (m : Nat), 1 ≤ m ∧ m ≤ 11 → ∃ ns : List Int, isHand ns = true ∧ ns.length = m ∧ T.fn cH [.int s, .int m, .int w] = .ret (.tuple (ns.map .int)) .none
  cell : ∀ (ns : List Int) (k : Nat), T.fn cC [scr ns, .int k] = .ret (.int (ns.getD k 0)) .none
  seed : ∀ s k : Int, T.fn cS [.int s, .int k] = .ret (.int (seedV s k)) .none
  mix : ∀ c p m : Int, 0 < p → p < 2147483647 → 0 < m → T.fn cM [.int c, .int p, .int m] = .ret (.int (mixV c p m)) .none
  chk : ∀ ns : List Int, ns.length ≤ lineN → T.fn cK [.tuple (ns.map .int)] = if isHand ns = true then .ret (.tuple (ns.map .int)) .none else .ex "BadHand" .none
  bd : ∀ d, Bad d → T.fn cK [d] = .ex "BadHand" .none
  put : ∀ (ns : List Int), isHand ns = true → ∀ k : Int, 0 ≤ k ∧ k ≤ 20 → T.fn cP [.tuple (ns.map .int), .int k] = if isHand (srt (ns ++ [k])) = true then .ret (.tuple ((srt (ns ++ [k])).map .int)) .none else .ex "BadHand" .none
  putB : ∀ d e, Bad d → T.fn cP [d, e] = .ex "BadHand" .none
  putO : ∀ (ns : List Int), isHand ns = true → ∀ d, noDict d = true → imm d = true → isKind d = false → T.fn cP [.tuple (ns.map .int), d] = .ex "BadHand" .none
  out : ∀ (ns : List Int), isHand ns = true → ∀ k : Int, 0 ≤ k ∧ k ≤ 20 → T.fn cO [.tuple (ns.map .int), .int k] = if k ∈ ns ∧ ns.length ≠ 1 then .ret (.tuple ((ns.erase k).map .int)) .none else .ex "BadHand" .none
  outB : ∀ d e, Bad d → T.fn cO [d, e] = .ex "BadHand" .none
theorem hand_iff {ns : List Int} : isHand ns = true ↔ (∀ t ∈ ns, 0 ≤ t ∧ t ≤ 20) ∧ sortedB ns = true ∧ (∀ t ∈ ns, ns.count t ≤ 4) ∧ 1 ≤ ns.length ∧ ns.length ≤ 11 := by
  unfold isHand areT
  simp only [Bool.and_eq_true, List.all_eq_true, decide_eq_true_eq]
  constructor
  · rintro ⟨⟨⟨⟨h1, h2⟩, h3⟩, h4⟩, h5⟩
    exact ⟨h1, h2, h3, h4, h5⟩
  · rintro ⟨h1, h2, h3, h4, h5⟩
    exact ⟨⟨⟨⟨h1, h2⟩, h3⟩, h4⟩, h5⟩
theorem more_iff {ns : List Int} (h : isHand ns = true) {k : Int} (hk : 0 ≤ k ∧ k ≤ 20) : isHand (srt (ns ++ [k])) = decide (ns.count k < 4 ∧ ns.length < 11) := by
  obtain ⟨h1, h2, h3, h4, h5⟩ := hand_iff.mp h
  have pe := srt_perm (ns ++ [k])
  rw [Bool.eq_iff_iff, decide_eq_true_eq, hand_iff]
  constructor
  · rintro ⟨_, _, a3, _, a5⟩
    rw [pe.length_eq, List.length_append, List.length_singleton] at a5
    have := a3 k (pe.mem_iff.mpr (by simp))
    rw [pe.count_eq, List.count_append] at this
    simp at this
    omega
  · rintro ⟨b1, b2⟩
    refine ⟨fun t ht => ?_, pairwise_sorted (srt_sorted _), fun t _ => ?_, by rw [pe.length_eq]; simp, by rw [pe.length_eq]; simp; omega⟩
    · have := pe.mem_iff.mp ht
      rcases List.mem_append.mp this with z | z
      · exact h1 t z
      · rw [List.mem_singleton.mp z]; exact hk
    · rw [pe.count_eq, List.count_append]
      by_cases e : t = k
      · subst e; simp; omega
      · have e0 : [k].count t = 0 := List.count_eq_zero.mpr (by simpa using e)
        by_cases hm : t ∈ ns
        · have := h3 t hm; omega
        · have := List.count_eq_zero.mpr hm; omega
/-- none, or a tuple of ints -/
def Opt (d : PyData) : Prop := d = .none ∨ ∃ ns : List Int, d = .tuple (ns.map .int)
theorem opt_imm {d : PyData} (h : Opt d) : imm d = true := by
  rcases h with rfl | ⟨ns, rfl⟩
  · rfl
  · exact immL_int ns
theorem opt_eqv {d : PyData} (h : Opt d) : PyData.eqv d d = true := by
  rcases h with rfl | ⟨ns, rfl⟩
  · rfl
  · rw [eqv_tup]; simp
theorem opt_sh {a b : PyData} (ha : Opt a) (hb : Opt b) : SeqAt.shaped (.list [a, b]) = true := by
  rcases ha with rfl | ⟨ns, rfl⟩ <;> rcases hb with rfl | ⟨ms, rfl⟩ <;> simp [SeqAt.shaped, PyData.canLay0, PyData.canLayAll0, PyData.depth, PyData.depthAll, lay_int, dep_int]
def moreD (ns : List Int) (k : Int) : PyData := if ns.count k < 4 ∧ ns.length < 11 then .tuple ((srt (ns ++ [k])).map .int) else .none
def lessD (ns : List Int) (k : Int) : PyData := if k ∈ ns ∧ ns.length ≠ 1 then .tuple ((ns.erase k).map .int) else .none
theorem opt_more (ns : List Int) (k : Int) : Opt (moreD ns k) := by
  unfold moreD
  split
  · exact .inr ⟨_, rfl⟩
  · exact .inl rfl
theorem opt_less (ns : List Int) (k : Int) : Opt (lessD ns k) := by
  unfold lessD
  split
  · exact .inr ⟨_, rfl⟩
  · exact .inl rfl
def ls5 (cP cO : Nat) : S := .for_ (.one 4) (.rng (.c (.int 2)))
  (.cons (.try_ (.cons (.mut .append 3 (.cons (.ife (.cmp .eq (.v 4) (.c (.int 0))) (.call cP (.cons (.v 1) (.cons (.v 2) .nil))) (.call cO (.cons (.v 1) (.cons (.v 2) .nil)))) .nil))
   .nil) "BadHand"
   (.cons (.mut .append 3 (.cons (.c .none) .nil))
   .nil))
  .nil)
def rhoL (ns hs : List Int) (k : Int) (a b c d e f g h i : Sl) : Rho := [.vw [] (scr ns), .own (.tuple (hs.map .int)), .own (.int k), a, b, c, d, e, f, g, h, i]
section
variable (T : Tab) (cH cC cS cM cK cP cO : Nat) (hT : HasL T cH cC cS cM cK cP cO) (ns hs : List Int) (k : Int) (hh : isHand hs = true) (hk : 0 ≤ k ∧ k ≤ 20)
include hT hh hk
theorem put_call : T.fn cP [.tuple (hs.map .int), .int k] = .ret (moreD hs k) .none ∧ moreD hs k ≠ .none ∨ T.fn cP [.tuple (hs.map .int), .int k] = .ex "BadHand" .none ∧ moreD hs k = .none := by
  have := hT.put hs hh k hk
  rw [more_iff hh hk] at this
  unfold moreD
  by_cases h : hs.count k < 4 ∧ hs.length < 11
  · rw [if_pos h]
    rw [decide_eq_true h] at this
    exact .inl ⟨this, by simp⟩
  · rw [if_neg h]
    rw [decide_eq_false h] at this
    exact .inr ⟨this, rfl⟩
theorem out_call : T.fn cO [.tuple (hs.map .int), .int k] = .ret (lessD hs k) .none ∧ lessD hs k ≠ .none ∨ T.fn cO [.tuple (hs.map .int), .int k] = .ex "BadHand" .none ∧ lessD hs k = .none := by
  have := hT.out hs hh k hk
  unfold lessD
  by_cases h : k ∈ hs ∧ hs.length ≠ 1
  · rw [if_pos h]
    rw [if_pos h] at this
    exact .inl ⟨this, by simp⟩
  · rw [if_neg h]
    rw [if_neg h] at this
    exact .inr ⟨this, rfl⟩
theorem turn_ok (b : Sl) (xs : List PyData) (w : Int) (hw : w = 0 ∨ w = 1) (hx : xs.length ≤ 5) :
    exSL T (.cons (.try_ (.cons (.mut .append 3 (.cons (.ife (.cmp .eq (.v 4) (.c (.int 0))) (.call cP (.cons (.v 1) (.cons (.v 2) .nil))) (.call cO (.cons (.v 1) (.cons (.v 2) .nil)))) .nil))
   .nil) "BadHand"
   (.cons (.mut .append 3 (.cons (.c .none) .nil))
   .nil))
  .nil) (rhoL ns hs k (.own (.list xs)) (.own (.int w)) .un .un .un .un .un .un .un) = .nx (rhoL ns hs k (.own (.list (xs ++ [if w = 0 then moreD hs k else lessD hs k]))) (.own (.int w)) .un .un .un .un .un .un .un) := by
  have l : xs.length < lineN := by unfold lineN; omega
  have i0 := immL_int hs
  rcases hw with rfl | rfl
  · rcases put_call T cH cC cS cM cK cP cO hT hs k hh hk with ⟨q, _⟩ | ⟨q, q2⟩
    · have im := opt_imm (opt_more hs k)
      generalize moreD hs k = M at *
      unfold rhoL
      simp [xl_nil, xl_cons, x_set, x_aug, x_app, x_rem, x_ext, x_setT, x_ex, x_ret, x_ret0, x_pass, x_brk, x_cnt, x_if, x_raise, x_try, ev_def, evT_def, ev_v, ev_c, ev_g, ev_bin, ev_neg, ev_cmp, ev_chain, ev_and, ev_or, ev_one, ev_not, ev_ife, ev_ix, ev_sl, ev_rev, ev_tup, ev_lst, ev_call, ev_bi, ev_me, ev_isi, evL_nil, evL_cons, wR, PD.R.bind, PD.RL.bindR, PD.RL.bindN, PD.RI.bindR, PD.R.bindI, PD.RT.bindR, PD.RT.bind, optR, optB, PD.okR, optT, okI, negR, outR, callR, slR, lcR, itD, ofR, PD.R.toS, PD.RT.toS, PD.RI.toS, PD.RA.toS, startR, rd, PD.Rho.at, imm, immL, imm1, tnt, mkT, inOk, argS, giveS, PD.E.asV, PD.EL.one, PD.Sl.of, truth, outOf, bop, cop, ltD, leD, subD, addD, mulD, fdivD, modD, powD, ixop, lenD, biop, put, putTg, putAll, wipeR, PD.E.isOmit, List.map_cons, List.map_nil, List.length_cons, List.length_nil, List.set_cons_zero, List.set_cons_succ, List.set_nil, List.getD_cons_zero, List.getD_cons_succ, List.cons_append, List.nil_append, List.replicate, Option.getD, ownAt, chgS, appD, extD, remD, revD, augI, isTy, killV, killS, eqD, sh_int, PyData.eqv, hT.io, hT.sub, q, im, i0, l]
    · rw [q2]
      unfold rhoL
      simp [xl_nil, xl_cons, x_set, x_aug, x_app, x_rem, x_ext, x_setT, x_ex, x_ret, x_ret0, x_pass, x_brk, x_cnt, x_if, x_raise, x_try, ev_def, evT_def, ev_v, ev_c, ev_g, ev_bin, ev_neg, ev_cmp, ev_chain, ev_and, ev_or, ev_one, ev_not, ev_ife, ev_ix, ev_sl, ev_rev, ev_tup, ev_lst, ev_call, ev_bi, ev_me, ev_isi, evL_nil, evL_cons, wR, PD.R.bind, PD.RL.bindR, PD.RL.bindN, PD.RI.bindR, PD.R.bindI, PD.RT.bindR, PD.RT.bind, optR, optB, PD.okR, optT, okI, negR, outR, callR, slR, lcR, itD, ofR, PD.R.toS, PD.RT.toS, PD.RI.toS, PD.RA.toS, startR, rd, PD.Rho.at, imm, immL, imm1, tnt, mkT, inOk, argS, giveS, PD.E.asV, PD.EL.one, PD.Sl.of, truth, outOf, bop, cop, ltD, leD, subD, addD, mulD, fdivD, modD, powD, ixop, lenD, biop, put, putTg, putAll, wipeR, PD.E.isOmit, List.map_cons, List.map_nil, List.length_cons, List.length_nil, List.set_cons_zero, List.set_cons_succ, List.set_nil, List.getD_cons_zero, List.getD_cons_succ, List.cons_append, List.nil_append, List.replicate, Option.getD, ownAt, chgS, appD, extD, remD, revD, augI, isTy, killV, killS, eqD, sh_int, PyData.eqv, hT.io, hT.sub, q, i0, l]
  · rcases out_call T cH cC cS cM cK cP cO hT hs k hh hk with ⟨q, _⟩ | ⟨q, q2⟩
    · have im := opt_imm (opt_less hs k)
      generalize lessD hs k = M at *
      unfold rhoL
      simp [xl_nil, xl_cons, x_set, x_aug, x_app, x_rem, x_ext, x_setT, x_ex, x_ret, x_ret0, x_pass, x_brk, x_cnt, x_if, x_raise, x_try, ev_def, evT_def, ev_v, ev_c, ev_g, ev_bin, ev_neg, ev_cmp, ev_chain, ev_and, ev_or, ev_one, ev_not, ev_ife, ev_ix, ev_sl, ev_rev, ev_tup, ev_lst, ev_call, ev_bi, ev_me, ev_isi, evL_nil, evL_cons, wR, PD.R.bind, PD.RL.bindR, PD.RL.bindN, PD.RI.bindR, PD.R.bindI, PD.RT.bindR, PD.RT.bind, optR, optB, PD.okR, optT, okI, negR, outR, callR, slR, lcR, itD, ofR, PD.R.toS, PD.RT.toS, PD.RI.toS, PD.RA.toS, startR, rd, PD.Rho.at, imm, immL, imm1, tnt, mkT, inOk, argS, giveS, PD.E.asV, PD.EL.one, PD.Sl.of, truth, outOf, bop, cop, ltD, leD, subD, addD, mulD, fdivD, modD, powD, ixop, lenD, biop, put, putTg, putAll, wipeR, PD.E.isOmit, List.map_cons, List.map_nil, List.length_cons, List.length_nil, List.set_cons_zero, List.set_cons_succ, List.set_nil, List.getD_cons_zero, List.getD_cons_succ, List.cons_append, List.nil_append, List.replicate, Option.getD, ownAt, chgS, appD, extD, remD, revD, augI, isTy, killV, killS, eqD, sh_int, PyData.eqv, hT.io, hT.sub, q, im, i0, l]
    · rw [if_neg (by decide), q2]
      unfold rhoL
      simp [xl_nil, xl_cons, x_set, x_aug, x_app, x_rem, x_ext, x_setT, x_ex, x_ret, x_ret0, x_pass, x_brk, x_cnt, x_if, x_raise, x_try, ev_def, evT_def, ev_v, ev_c, ev_g, ev_bin, ev_neg, ev_cmp, ev_chain, ev_and, ev_or, ev_one, ev_not, ev_ife, ev_ix, ev_sl, ev_rev, ev_tup, ev_lst, ev_call, ev_bi, ev_me, ev_isi, evL_nil, evL_cons, wR, PD.R.bind, PD.RL.bindR, PD.RL.bindN, PD.RI.bindR, PD.R.bindI, PD.RT.bindR, PD.RT.bind, optR, optB, PD.okR, optT, okI, negR, outR, callR, slR, lcR, itD, ofR, PD.R.toS, PD.RT.toS, PD.RI.toS, PD.RA.toS, startR, rd, PD.Rho.at, imm, immL, imm1, tnt, mkT, inOk, argS, giveS, PD.E.asV, PD.EL.one, PD.Sl.of, truth, outOf, bop, cop, ltD, leD, subD, addD, mulD, fdivD, modD, powD, ixop, lenD, biop, put, putTg, putAll, wipeR, PD.E.isOmit, List.map_cons, List.map_nil, List.length_cons, List.length_nil, List.set_cons_zero, List.set_cons_succ, List.set_nil, List.getD_cons_zero, List.getD_cons_succ, List.cons_append, List.nil_append, List.replicate, Option.getD, ownAt, chgS, appD, extD, remD, revD, augI, isTy, killV, killS, eqD, sh_int, PyData.eqv, hT.io, hT.sub, q, i0, l]
theorem ls5_ok : exS T (ls5 cP cO) (rhoL ns hs k (.own (.list [])) .un .un .un .un .un .un .un .un) = .nx (rhoL ns hs k (.own (.list [moreD hs k, lessD hs k])) (.own (.int 1)) .un .un .un .un .un .un .un) := by
  have t0 := turn_ok T cH cC cS cM cK cP cO hT ns hs k hh hk .un [] 0 (.inl rfl) (by simp)
  have t1 := turn_ok T cH cC cS cM cK cP cO hT ns hs k hh hk .un [moreD hs k] 1 (.inr rfl) (by simp)
  unfold ls5
  rw [x_for]
  have ei : evI T (.rng (.c (.int 2))) (rhoL ns hs k (.own (.list [])) .un .un .un .un .un .un .un .un) = .ok [.int 0, .int 1] none := by
    have : rangeOk 0 2 = true := by decide
    have r : rangeL 0 2 = [.int 0, .int 1] := rfl
    simp [xl_nil, xl_cons, x_set, x_aug, x_app, x_rem, x_ext, x_setT, x_ex, x_ret, x_ret0, x_pass, x_brk, x_cnt, x_if, x_raise, x_try, ev_def, evT_def, ev_v, ev_c, ev_g, ev_bin, ev_neg, ev_cmp, ev_chain, ev_and, ev_or, ev_one, ev_not, ev_ife, ev_ix, ev_sl, ev_rev, ev_tup, ev_lst, ev_call, ev_bi, ev_me, ev_isi, evL_nil, evL_cons, wR, PD.R.bind, PD.RL.bindR, PD.RL.bindN, PD.RI.bindR, PD.R.bindI, PD.RT.bindR, PD.RT.bind, optR, optB, PD.okR, optT, okI, negR, outR, callR, slR, lcR, itD, ofR, PD.R.toS, PD.RT.toS, PD.RI.toS, PD.RA.toS, startR, rd, PD.Rho.at, imm, immL, imm1, tnt, mkT, inOk, argS, giveS, PD.E.asV, PD.EL.one, PD.Sl.of, truth, outOf, bop, cop, ltD, leD, subD, addD, mulD, fdivD, modD, powD, ixop, lenD, biop, put, putTg, putAll, wipeR, PD.E.isOmit, List.map_cons, List.map_nil, List.length_cons, List.length_nil, List.set_cons_zero, List.set_cons_succ, List.set_nil, List.getD_cons_zero, List.getD_cons_succ, List.cons_append, List.nil_append, List.replicate, Option.getD, ownAt, chgS, appD, extD, remD, revD, augI, isTy, killV, killS, evI, rng1D, rngI, this, r]
  rw [ei]
  show forL _ (.one 4) none [.int 0, .int 1] (rhoL ns hs k (.own (.list [])) .un .un .un .un .un .un .un .un) = _
  have p0 : putTg (rhoL ns hs k (.own (.list [])) .un .un .un .un .un .un .un .un) (.one 4) (.int 0) (some (Option.getD (none : Tn) [] ++ lks (rhoL ns hs k (.own (.list [])) .un .un .un .un .un .un .un .un))) = some (rhoL ns hs k (.own (.list [])) (.own (.int 0)) .un .un .un .un .un .un .un) := by
    unfold rhoL; simp [putTg, put, imm]
  have p1 : putTg (rhoL ns hs k (.own (.list [moreD hs k])) (.own (.int 0)) .un .un .un .un .un .un .un) (.one 4) (.int 1) (some (Option.getD (none : Tn) [] ++ lks (rhoL ns hs k (.own (.list [moreD hs k])) (.own (.int 0)) .un .un .un .un .un .un .un))) = some (rhoL ns hs k (.own (.list [moreD hs k])) (.own (.int 1)) .un .un .un .un .un .un .un) := by
    unfold rhoL; simp [putTg, put, imm]
  rw [forL, p0]
  dsimp only
  rw [t0]
  rw [if_pos rfl, List.nil_append]
  dsimp only
  rw [forL, p1]
  dsimp only
  rw [t1]
  rfl
def ls6 : S := .set 5 (.ife (.and2 (.cmp .lt (.me .count (.v 1) (.cons (.v 2) .nil)) (.c (.int 4))) (.one (.cmp .lt (.bi .len (.cons (.v 1) .nil)) (.c (.int 11))))) (.bi .tuple (.cons (.bi .sorted (.cons (.bin .add (.v 1) (.tup (.cons (.v 2) .nil))) .nil)) .nil)) (.c .none))
theorem ls6_ok (a b : Sl) : exS T ls6 (rhoL ns hs k a b .un .un .un .un .un .un .un) = .nx (rhoL ns hs k a b (.own (moreD hs k)) .un .un .un .un .un .un) := by
  have i0 := immL_int hs
  have e : List.map PyData.int hs ++ [PyData.int k] = (hs ++ [k]).map .int := by simp
  have hl := (isHand_len hh).2
  have l : hs.length + 1 ≤ lineN := by unfold lineN; omega
  have l1 : 1 ≤ lineN := by decide
  have i1 := immL_int (hs ++ [k])
  have i2 := immL_int (srt (hs ++ [k]))
  have st := sorted_tupI (hs ++ [k])
  unfold moreD
  by_cases h1 : hs.count k < 4
  · by_cases h2 : hs.length < 11
    · rw [if_pos ⟨h1, h2⟩]
      generalize srt (hs ++ [k]) = M at *
      generalize hs ++ [k] = A at *
      have h1' : ((hs.count k : Nat) : Int) < 4 := by omega
      have h2' : ((hs.length : Nat) : Int) < 11 := by omega
      unfold ls6 rhoL
      simp [xl_nil, xl_cons, x_set, x_aug, x_app, x_rem, x_ext, x_setT, x_ex, x_ret, x_ret0, x_pass, x_brk, x_cnt, x_if, x_raise, x_try, ev_def, evT_def, ev_v, ev_c, ev_g, ev_bin, ev_neg, ev_cmp, ev_chain, ev_and, ev_or, ev_one, ev_not, ev_ife, ev_ix, ev_sl, ev_rev, ev_tup, ev_lst, ev_call, ev_bi, ev_me, ev_isi, evL_nil, evL_cons, wR, PD.R.bind, PD.RL.bindR, PD.RL.bindN, PD.RI.bindR, PD.R.bindI, PD.RT.bindR, PD.RT.bind, optR, optB, PD.okR, optT, okI, negR, outR, callR, slR, lcR, itD, ofR, PD.R.toS, PD.RT.toS, PD.RI.toS, PD.RA.toS, startR, rd, PD.Rho.at, imm, immL, imm1, tnt, mkT, inOk, argS, giveS, PD.E.asV, PD.EL.one, PD.Sl.of, truth, outOf, bop, cop, ltD, leD, subD, addD, mulD, fdivD, modD, powD, ixop, lenD, biop, put, putTg, putAll, wipeR, PD.E.isOmit, List.map_cons, List.map_nil, List.length_cons, List.length_nil, List.set_cons_zero, List.set_cons_succ, List.set_nil, List.getD_cons_zero, List.getD_cons_succ, List.cons_append, List.nil_append, List.replicate, Option.getD, ownAt, chgS, appD, extD, remD, revD, augI, isTy, killV, killS, meop, countD, sh_int, shT_int, count_int, h1', h2', h1, h2, i0, i1, i2, e, l, l1, st, tupleD]
    · rw [if_neg (fun z => h2 z.2)]
      have h1' : ((hs.count k : Nat) : Int) < 4 := by omega
      have h2' : ¬ ((hs.length : Nat) : Int) < 11 := by omega
      unfold ls6 rhoL
      simp [xl_nil, xl_cons, x_set, x_aug, x_app, x_rem, x_ext, x_setT, x_ex, x_ret, x_ret0, x_pass, x_brk, x_cnt, x_if, x_raise, x_try, ev_def, evT_def, ev_v, ev_c, ev_g, ev_bin, ev_neg, ev_cmp, ev_chain, ev_and, ev_or, ev_one, ev_not, ev_ife, ev_ix, ev_sl, ev_rev, ev_tup, ev_lst, ev_call, ev_bi, ev_me, ev_isi, evL_nil, evL_cons, wR, PD.R.bind, PD.RL.bindR, PD.RL.bindN, PD.RI.bindR, PD.R.bindI, PD.RT.bindR, PD.RT.bind, optR, optB, PD.okR, optT, okI, negR, outR, callR, slR, lcR, itD, ofR, PD.R.toS, PD.RT.toS, PD.RI.toS, PD.RA.toS, startR, rd, PD.Rho.at, imm, immL, imm1, tnt, mkT, inOk, argS, giveS, PD.E.asV, PD.EL.one, PD.Sl.of, truth, outOf, bop, cop, ltD, leD, subD, addD, mulD, fdivD, modD, powD, ixop, lenD, biop, put, putTg, putAll, wipeR, PD.E.isOmit, List.map_cons, List.map_nil, List.length_cons, List.length_nil, List.set_cons_zero, List.set_cons_succ, List.set_nil, List.getD_cons_zero, List.getD_cons_succ, List.cons_append, List.nil_append, List.replicate, Option.getD, ownAt, chgS, appD, extD, remD, revD, augI, isTy, killV, killS, meop, countD, sh_int, shT_int, count_int, h1', h2', h1, h2, i0]
  · rw [if_neg (fun z => h1 z.1)]
    have h1' : ¬ ((hs.count k : Nat) : Int) < 4 := by omega
    unfold ls6 rhoL
    simp [xl_nil, xl_cons, x_set, x_aug, x_app, x_rem, x_ext, x_setT, x_ex, x_ret, x_ret0, x_pass, x_brk, x_cnt, x_if, x_raise, x_try, ev_def, evT_def, ev_v, ev_c, ev_g, ev_bin, ev_neg, ev_cmp, ev_chain, ev_and, ev_or, ev_one, ev_not, ev_ife, ev_ix, ev_sl, ev_rev, ev_tup, ev_lst, ev_call, ev_bi, ev_me, ev_isi, evL_nil, evL_cons, wR, PD.R.bind, PD.RL.bindR, PD.RL.bindN, PD.RI.bindR, PD.R.bindI, PD.RT.bindR, PD.RT.bind, optR, optB, PD.okR, optT, okI, negR, outR, callR, slR, lcR, itD, ofR, PD.R.toS, PD.RT.toS, PD.RI.toS, PD.RA.toS, startR, rd, PD.Rho.at, imm, immL, imm1, tnt, mkT, inOk, argS, giveS, PD.E.asV, PD.EL.one, PD.Sl.of, truth, outOf, bop, cop, ltD, leD, subD, addD, mulD, fdivD, modD, powD, ixop, lenD, biop, put, putTg, putAll, wipeR, PD.E.isOmit, List.map_cons, List.map_nil, List.length_cons, List.length_nil, List.set_cons_zero, List.set_cons_succ, List.set_nil, List.getD_cons_zero, List.getD_cons_succ, List.cons_append, List.nil_append, List.replicate, Option.getD, ownAt, chgS, appD, extD, remD, revD, augI, isTy, killV, killS, meop, countD, sh_int, shT_int, count_int, h1', h1, i0]
def ls8 : S := .ife (.cmp .in_ (.v 2) (.v 6)) (.cons (.mut .remove 6 (.cons (.v 2) .nil)) .nil) .nil
theorem ls7_ok (a b c : Sl) : exS T (.set 6 (.bi .list (.cons (.v 1) .nil))) (rhoL ns hs k a b c .un .un .un .un .un .un) = .nx (rhoL ns hs k a b c (.own (.list (hs.map .int))) .un .un .un .un .un) := by
  unfold rhoL
  simp [xl_nil, xl_cons, x_set, x_aug, x_app, x_rem, x_ext, x_setT, x_ex, x_ret, x_ret0, x_pass, x_brk, x_cnt, x_if, x_raise, x_try, ev_def, evT_def, ev_v, ev_c, ev_g, ev_bin, ev_neg, ev_cmp, ev_chain, ev_and, ev_or, ev_one, ev_not, ev_ife, ev_ix, ev_sl, ev_rev, ev_tup, ev_lst, ev_call, ev_bi, ev_me, ev_isi, evL_nil, evL_cons, wR, PD.R.bind, PD.RL.bindR, PD.RL.bindN, PD.RI.bindR, PD.R.bindI, PD.RT.bindR, PD.RT.bind, optR, optB, PD.okR, optT, okI, negR, outR, callR, slR, lcR, itD, ofR, PD.R.toS, PD.RT.toS, PD.RI.toS, PD.RA.toS, startR, rd, PD.Rho.at, imm, immL, imm1, tnt, mkT, inOk, argS, giveS, PD.E.asV, PD.EL.one, PD.Sl.of, truth, outOf, bop, cop, ltD, leD, subD, addD, mulD, fdivD, modD, powD, ixop, lenD, biop, put, putTg, putAll, wipeR, PD.E.isOmit, List.map_cons, List.map_nil, List.length_cons, List.length_nil, List.set_cons_zero, List.set_cons_succ, List.set_nil, List.getD_cons_zero, List.getD_cons_succ, List.cons_append, List.nil_append, List.replicate, Option.getD, ownAt, chgS, appD, extD, remD, revD, augI, isTy, killV, killS, immL_int, listD]
theorem ls8_ok (A b d : PyData) : exS T ls8 (rhoL ns hs k (.own A) (.own b) (.own d) (.own (.list (hs.map .int))) .un .un .un .un .un) = .nx (rhoL ns hs k (.own A) (.own b) (.own d) (.own (.list ((hs.erase k).map .int))) .un .un .un .un .un) := by
  have ai := any_int hs k
  by_cases m : k ∈ hs
  · have as := asInts_map hs
    unfold ls8 rhoL
    simp [xl_nil, xl_cons, x_set, x_aug, x_app, x_rem, x_ext, x_setT, x_ex, x_ret, x_ret0, x_pass, x_brk, x_cnt, x_if, x_raise, x_try, ev_def, evT_def, ev_v, ev_c, ev_g, ev_bin, ev_neg, ev_cmp, ev_chain, ev_and, ev_or, ev_one, ev_not, ev_ife, ev_ix, ev_sl, ev_rev, ev_tup, ev_lst, ev_call, ev_bi, ev_me, ev_isi, evL_nil, evL_cons, wR, PD.R.bind, PD.RL.bindR, PD.RL.bindN, PD.RI.bindR, PD.R.bindI, PD.RT.bindR, PD.RT.bind, optR, optB, PD.okR, optT, okI, negR, outR, callR, slR, lcR, itD, ofR, PD.R.toS, PD.RT.toS, PD.RI.toS, PD.RA.toS, startR, rd, PD.Rho.at, imm, immL, imm1, tnt, mkT, inOk, argS, giveS, PD.E.asV, PD.EL.one, PD.Sl.of, truth, outOf, bop, cop, ltD, leD, subD, addD, mulD, fdivD, modD, powD, ixop, lenD, biop, put, putTg, putAll, wipeR, PD.E.isOmit, List.map_cons, List.map_nil, List.length_cons, List.length_nil, List.set_cons_zero, List.set_cons_succ, List.set_nil, List.getD_cons_zero, List.getD_cons_succ, List.cons_append, List.nil_append, List.replicate, Option.getD, ownAt, chgS, appD, extD, remD, revD, augI, isTy, killV, killS, inD, sh_int, shL_int, ai, m, as]
  · have e : hs.erase k = hs := List.erase_of_not_mem m
    rw [e]
    unfold ls8 rhoL
    simp [xl_nil, xl_cons, x_set, x_aug, x_app, x_rem, x_ext, x_setT, x_ex, x_ret, x_ret0, x_pass, x_brk, x_cnt, x_if, x_raise, x_try, ev_def, evT_def, ev_v, ev_c, ev_g, ev_bin, ev_neg, ev_cmp, ev_chain, ev_and, ev_or, ev_one, ev_not, ev_ife, ev_ix, ev_sl, ev_rev, ev_tup, ev_lst, ev_call, ev_bi, ev_me, ev_isi, evL_nil, evL_cons, wR, PD.R.bind, PD.RL.bindR, PD.RL.bindN, PD.RI.bindR, PD.R.bindI, PD.RT.bindR, PD.RT.bind, optR, optB, PD.okR, optT, okI, negR, outR, callR, slR, lcR, itD, ofR, PD.R.toS, PD.RT.toS, PD.RI.toS, PD.RA.toS, startR, rd, PD.Rho.at, imm, immL, imm1, tnt, mkT, inOk, argS, giveS, PD.E.asV, PD.EL.one, PD.Sl.of, truth, outOf, bop, cop, ltD, leD, subD, addD, mulD, fdivD, modD, powD, ixop, lenD, biop, put, putTg, putAll, wipeR, PD.E.isOmit, List.map_cons, List.map_nil, List.length_cons, List.length_nil, List.set_cons_zero, List.set_cons_succ, List.set_nil, List.getD_cons_zero, List.getD_cons_succ, List.cons_append, List.nil_append, List.replicate, Option.getD, ownAt, chgS, appD, extD, remD, revD, augI, isTy, killV, killS, inD, sh_int, shL_int, ai, m]
def ls9 : S := .ife (.cmp .ne (.v 3) (.lst (.cons (.v 5) (.cons (.ife (.chain .lt .lt (.c (.int 0)) (.bi .len (.cons (.v 6) .nil)) (.bi .len (.cons (.v 1) .nil))) (.bi .tuple (.cons (.v 6) .nil)) (.c .none)) .nil))))
  (.cons (.ret (.c (.bool false)))
  .nil)
  .nil
theorem ls9_ok (w : Int) : exS T ls9 (rhoL ns hs k (.own (.list [moreD hs k, lessD hs k])) (.own (.int w)) (.own (moreD hs k)) (.own (.list ((hs.erase k).map .int))) .un .un .un .un .un) = .nx (rhoL ns hs k (.own (.list [moreD hs k, lessD hs k])) (.own (.int w)) (.own (moreD hs k)) (.own (.list ((hs.erase k).map .int))) .un .un .un .un .un) := by
  have om := opt_more hs k
  have ol := opt_less hs k
  have sh := opt_sh om ol
  have e1 := opt_eqv om
  have e2 := opt_eqv ol
  have i1 := opt_imm om
  have i2 := opt_imm ol
  have ii := immL_int (hs.erase k)
  have ih := immL_int hs
  have l2 : 2 ≤ lineN := by decide
  have key : (if 0 < (((hs.erase k).length : Nat) : Int) ∧ (((hs.erase k).length : Nat) : Int) < ((hs.length : Nat) : Int) then PyData.tuple ((hs.erase k).map .int) else .none) = lessD hs k := by
    unfold lessD
    have hl := (isHand_len hh).1
    by_cases m : k ∈ hs
    · have := List.length_erase_of_mem m
      by_cases h : hs.length = 1
      · rw [if_neg (by omega), if_neg (by simp [h])]
      · rw [if_pos (by omega), if_pos ⟨m, h⟩]
    · have := List.erase_of_not_mem m
      rw [this, if_neg (by omega), if_neg (by simp [m])]
  generalize moreD hs k = M at *
  generalize hs.erase k = EE at *
  unfold ls9 rhoL
  by_cases c1 : 0 < ((EE.length : Nat) : Int)
  · by_cases c2 : ((EE.length : Nat) : Int) < ((hs.length : Nat) : Int)
    · rw [if_pos ⟨c1, c2⟩] at key
      rw [← key] at sh e2 i2 ⊢
      have c1' : 0 < EE.length := by omega
      have c2' : EE.length < hs.length := by omega
      simp [xl_nil, xl_cons, x_set, x_aug, x_app, x_rem, x_ext, x_setT, x_ex, x_ret, x_ret0, x_pass, x_brk, x_cnt, x_if, x_raise, x_try, ev_def, evT_def, ev_v, ev_c, ev_g, ev_bin, ev_neg, ev_cmp, ev_chain, ev_and, ev_or, ev_one, ev_not, ev_ife, ev_ix, ev_sl, ev_rev, ev_tup, ev_lst, ev_call, ev_bi, ev_me, ev_isi, evL_nil, evL_cons, wR, PD.R.bind, PD.RL.bindR, PD.RL.bindN, PD.RI.bindR, PD.R.bindI, PD.RT.bindR, PD.RT.bind, optR, optB, PD.okR, optT, okI, negR, outR, callR, slR, lcR, itD, ofR, PD.R.toS, PD.RT.toS, PD.RI.toS, PD.RA.toS, startR, rd, PD.Rho.at, imm, immL, imm1, tnt, mkT, inOk, argS, giveS, PD.E.asV, PD.EL.one, PD.Sl.of, truth, outOf, bop, cop, ltD, leD, subD, addD, mulD, fdivD, modD, powD, ixop, lenD, biop, put, putTg, putAll, wipeR, PD.E.isOmit, List.map_cons, List.map_nil, List.length_cons, List.length_nil, List.set_cons_zero, List.set_cons_succ, List.set_nil, List.getD_cons_zero, List.getD_cons_succ, List.cons_append, List.nil_append, List.replicate, Option.getD, ownAt, chgS, appD, extD, remD, revD, augI, isTy, killV, killS, c1, c2, c1', c2', ii, ih, i1, i2, l2, tupleD, eqD, sh, PyData.eqv, PyData.eqvAll, eqvAll_int, e1, e2]
    · rw [if_neg (fun z => c2 z.2)] at key
      rw [← key] at sh e2 i2 ⊢
      have c1' : 0 < EE.length := by omega
      have c2' : ¬ EE.length < hs.length := by omega
      simp [xl_nil, xl_cons, x_set, x_aug, x_app, x_rem, x_ext, x_setT, x_ex, x_ret, x_ret0, x_pass, x_brk, x_cnt, x_if, x_raise, x_try, ev_def, evT_def, ev_v, ev_c, ev_g, ev_bin, ev_neg, ev_cmp, ev_chain, ev_and, ev_or, ev_one, ev_not, ev_ife, ev_ix, ev_sl, ev_rev, ev_tup, ev_lst, ev_call, ev_bi, ev_me, ev_isi, evL_nil, evL_cons, wR, PD.R.bind, PD.RL.bindR, PD.RL.bindN, PD.RI.bindR, PD.R.bindI, PD.RT.bindR, PD.RT.bind, optR, optB, PD.okR, optT, okI, negR, outR, callR, slR, lcR, itD, ofR, PD.R.toS, PD.RT.toS, PD.RI.toS, PD.RA.toS, startR, rd, PD.Rho.at, imm, immL, imm1, tnt, mkT, inOk, argS, giveS, PD.E.asV, PD.EL.one, PD.Sl.of, truth, outOf, bop, cop, ltD, leD, subD, addD, mulD, fdivD, modD, powD, ixop, lenD, biop, put, putTg, putAll, wipeR, PD.E.isOmit, List.map_cons, List.map_nil, List.length_cons, List.length_nil, List.set_cons_zero, List.set_cons_succ, List.set_nil, List.getD_cons_zero, List.getD_cons_succ, List.cons_append, List.nil_append, List.replicate, Option.getD, ownAt, chgS, appD, extD, remD, revD, augI, isTy, killV, killS, c1, c2, c1', c2', ii, ih, i1, i2, l2, tupleD, eqD, sh, PyData.eqv, PyData.eqvAll, eqvAll_int, e1, e2]
  · rw [if_neg (fun z => c1 z.1)] at key
    rw [← key] at sh e2 i2 ⊢
    have c1' : ¬ 0 < EE.length := by omega
    simp [xl_nil, xl_cons, x_set, x_aug, x_app, x_rem, x_ext, x_setT, x_ex, x_ret, x_ret0, x_pass, x_brk, x_cnt, x_if, x_raise, x_try, ev_def, evT_def, ev_v, ev_c, ev_g, ev_bin, ev_neg, ev_cmp, ev_chain, ev_and, ev_or, ev_one, ev_not, ev_ife, ev_ix, ev_sl, ev_rev, ev_tup, ev_lst, ev_call, ev_bi, ev_me, ev_isi, evL_nil, evL_cons, wR, PD.R.bind, PD.RL.bindR, PD.RL.bindN, PD.RI.bindR, PD.R.bindI, PD.RT.bindR, PD.RT.bind, optR, optB, PD.okR, optT, okI, negR, outR, callR, slR, lcR, itD, ofR, PD.R.toS, PD.RT.toS, PD.RI.toS, PD.RA.toS, startR, rd, PD.Rho.at, imm, immL, imm1, tnt, mkT, inOk, argS, giveS, PD.E.asV, PD.EL.one, PD.Sl.of, truth, outOf, bop, cop, ltD, leD, subD, addD, mulD, fdivD, modD, powD, ixop, lenD, biop, put, putTg, putAll, wipeR, PD.E.isOmit, List.map_cons, List.map_nil, List.length_cons, List.length_nil, List.set_cons_zero, List.set_cons_succ, List.set_nil, List.getD_cons_zero, List.getD_cons_succ, List.cons_append, List.nil_append, List.replicate, Option.getD, ownAt, chgS, appD, extD, remD, revD, augI, isTy, killV, killS, c1, c1', ii, ih, i1, i2, l2, tupleD, eqD, sh, PyData.eqv, PyData.eqvAll, eqvAll_int, e1, e2]
end
end PL
set_option maxHeartbeats 4000000
namespace PL
open PySem PD PF
def half12 : List Int := [0, 0, 1, 1, 2, 2, 3, 3, 4, 4, 5, 5]
def bads (hs : List Int) : List PyData := [.tuple [], .list (hs.map .int), .none, .tuple (rep 5 ((hs.map PyData.int).take 1)), .tuple [.int 3, .int 2], .tuple [.int 21], .tuple [.int (-1)], .tuple [.bool true], .tuple [.str "1"], .int 7, .tuple (half12.map .int)]
def ls10 : S := .set 7 (.lst (.cons (.tup .nil) (.cons (.bi .list (.cons (.v 1) .nil)) (.cons (.c .none) (.cons (.bin .mul (.sl (.v 1) .omit (.c (.int 1))) (.c (.int 5))) (.cons (.tup (.cons (.c (.int 3)) (.cons (.c (.int 2)) .nil))) (.cons (.tup (.cons (.c (.int 21)) .nil)) (.cons (.tup (.cons (.neg (.c (.int 1))) .nil)) (.cons (.tup (.cons (.c (.bool true)) .nil)) (.cons (.tup (.cons (.c (.str "1")) .nil)) (.cons (.c (.int 7)) .nil)))))))))))
def ls11 : S := .mut .append 7 (.cons (.bi .tuple (.cons (.lc (.bin .fdiv (.v 8) (.c (.int 2))) (.one 8) (.rng (.c (.int 12))) .omit [("_law_k", 8)]) .nil)) .nil)
def ls12 (cC : Nat) : S := .set 9 (.ix (.v 7) (.bin .mod (.call cC (.cons (.v 0) (.cons (.c (.int 4)) .nil))) (.c (.int 11))))
def body14 (cC cK cP cO : Nat) : SL := (.cons (.try_ (.cons (.ife (.cmp .eq (.v 4) (.c (.int 0)))
    (.cons (.ex (.call cK (.cons (.v 9) .nil)))
    .nil)
    (.cons (.ife (.cmp .eq (.v 4) (.c (.int 1)))
     (.cons (.ex (.call cP (.cons (.v 9) (.cons (.v 2) .nil))))
     .nil)
     (.cons (.ife (.cmp .eq (.v 4) (.c (.int 2)))
      (.cons (.ex (.call cO (.cons (.v 9) (.cons (.v 2) .nil))))
      .nil)
      (.cons (.set 11 (.ix (.lst (.cons (.c (.int 21)) (.cons (.neg (.c (.int 1))) (.cons (.c .none) (.cons (.c (.str "1")) (.cons (.c (.bool true)) .nil)))))) (.bin .mod (.call cC (.cons (.v 0) (.cons (.c (.int 3)) .nil))) (.c (.int 5)))))
      (.cons (.ex (.call cP (.cons (.sl (.v 1) .omit (.c (.int 1))) (.cons (.v 11) .nil))))
      .nil)))
     .nil))
    .nil))
   .nil) "BadHand"
   (.cons (.aug 10 .add (.c (.int 1)))
   .nil))
  .nil)
section
variable (T : Tab) (cH cC cS cM cK cP cO : Nat) (hT : HasL T cH cC cS cM cK cP cO) (ns hs : List Int) (k : Int) (hh : isHand hs = true) (hk : 0 ≤ k ∧ k ≤ 20)
include hT hh hk
omit hT hh hk in
theorem bads_bad : ∀ d ∈ bads hs, Bad d := by
  have neg : ∀ ms : List Int, ms.length ≤ lineN → isHand ms = false → Bad (.tuple (ms.map .int)) := fun ms hl hb => .inr (.inr ⟨ms, rfl, hl, hb⟩)
  have l1 : 1 ≤ lineN := by decide
  intro d hd
  unfold bads at hd
  simp only [List.mem_cons, List.not_mem_nil, or_false] at hd
  rcases hd with rfl | rfl | rfl | rfl | rfl | rfl | rfl | rfl | rfl | rfl | rfl
  · exact neg [] (by decide) (by decide)
  · exact .inl ⟨rfl, fun xs z => by cases z⟩
  · exact .inl ⟨rfl, fun xs z => by cases z⟩
  · cases hs with
    | nil => exact neg [] (by decide) (by decide)
    | cons a r =>
      have e : rep 5 (((a :: r).map PyData.int).take 1) = ([a, a, a, a, a] : List Int).map .int := rfl
      rw [e]
      refine neg _ (show 5 ≤ lineN by decide) ?_
      rw [Bool.eq_false_iff]
      intro q
      have := (hand_iff.mp q).2.2.1 a (by simp)
      simp at this
  · exact neg [3, 2] (by decide) (by decide)
  · exact neg [21] (by decide) (by decide)
  · exact neg [-1] (by decide) (by decide)
  · exact .inr (.inl ⟨_, rfl, fun d hd => by simp at hd; subst hd; rfl, rfl, l1, _, List.mem_singleton.mpr rfl, rfl⟩)
  · exact .inr (.inl ⟨_, rfl, fun d hd => by simp at hd; subst hd; rfl, rfl, l1, _, List.mem_singleton.mpr rfl, rfl⟩)
  · exact .inl ⟨rfl, fun xs z => by cases z⟩
  · exact neg half12 (by decide) (by decide)
theorem ls10_ok (a b c d : Sl) : exS T ls10 (rhoL ns hs k a b c d .un .un .un .un .un) = .nx (rhoL ns hs k a b c d (.own (.list ((bads hs).take 10))) .un .un .un .un) := by
  obtain ⟨l1, l2⟩ := isHand_len hh
  obtain ⟨x, r, rfl⟩ : ∃ x r, hs = x :: r := by
    cases hs with
    | nil => simp at l1
    | cons x r => exact ⟨x, r, rfl⟩
  have i0 := immL_int (x :: r)
  have c1 : cutL ((x :: r).map PyData.int) none (some (1 : Int)) = [.int x] := by
    have := cut_to ((x :: r).map PyData.int) 1
    simpa using this
  have r5 : rep 5 [PyData.int x] = [.int x, .int x, .int x, .int x, .int x] := rfl
  have q10 : 10 ≤ lineN := by decide
  have q2 : 2 ≤ lineN := by decide
  have q1 : 1 ≤ lineN := by decide
  have lf : (1 : Nat) ≤ 1000 := by decide
  unfold ls10 rhoL bads
  generalize hM : (x :: r).map PyData.int = M at *
  have t1 : M.take 1 = [.int x] := by rw [← hM]; rfl
  simp [xl_nil, xl_cons, x_set, x_aug, x_app, x_rem, x_ext, x_setT, x_ex, x_ret, x_ret0, x_pass, x_brk, x_cnt, x_if, x_raise, x_try, ev_def, evT_def, ev_v, ev_c, ev_g, ev_bin, ev_neg, ev_cmp, ev_chain, ev_and, ev_or, ev_one, ev_not, ev_ife, ev_ix, ev_sl, ev_rev, ev_tup, ev_lst, ev_call, ev_bi, ev_me, ev_isi, evL_nil, evL_cons, wR, PD.R.bind, PD.RL.bindR, PD.RL.bindN, PD.RI.bindR, PD.R.bindI, PD.RT.bindR, PD.RT.bind, optR, optB, PD.okR, optT, okI, negR, outR, callR, slR, lcR, itD, ofR, PD.R.toS, PD.RT.toS, PD.RI.toS, PD.RA.toS, startR, rd, PD.Rho.at, imm, immL, imm1, tnt, mkT, inOk, argS, giveS, PD.E.asV, PD.EL.one, PD.Sl.of, truth, outOf, bop, cop, ltD, leD, subD, addD, mulD, fdivD, modD, powD, ixop, lenD, biop, put, putTg, putAll, wipeR, PD.E.isOmit, List.map_cons, List.map_nil, List.length_cons, List.length_nil, List.set_cons_zero, List.set_cons_succ, List.set_nil, List.getD_cons_zero, List.getD_cons_succ, List.cons_append, List.nil_append, List.replicate, Option.getD, ownAt, chgS, appD, extD, remD, revD, augI, isTy, killV, killS, i0, listD, slop, partOf, c1, r5, q10, q2, q1, t1]
theorem ls11_ok (a b c d : PyData) : exS T ls11 (rhoL ns hs k (.own a) (.own b) (.own c) (.own d) (.own (.list ((bads hs).take 10))) .un .un .un .un) = .nx (rhoL ns hs k (.own a) (.own b) (.own c) (.own d) (.own (.list (bads hs))) .un .un .un .un) := by
  have e : evB T (.lc (.bin .fdiv (.v 8) (.c (.int 2))) (.one 8) (.rng (.c (.int 12))) .omit [("_law_k", 8)]) (rhoL ns hs k (.own a) (.own b) (.own c) (.own d) (.own (.list ((bads hs).take 10))) .un .un .un .un) = wR (.ok (.list (half12.map .int)) none) := by
    have q := lc_ev (T := T) (elt := (.bin .fdiv (.v 8) (.c (.int 2)))) (tg := .one 8) (it := .rng (.c (.int 12))) (cond := .omit) (own := [("_law_k", 8)]) (ρ := rhoL ns hs k (.own a) (.own b) (.own c) (.own d) (.own (.list ((bads hs).take 10))) .un .un .un .un) (ds := rangeL 0 12) (t := none) (fun _ => true) (fun d => match d with
      | .int k => .int (k / 2)
      | _ => .none) (by
      have : rangeOk 0 12 = true := by decide
      simp [xl_nil, xl_cons, x_set, x_aug, x_app, x_rem, x_ext, x_setT, x_ex, x_ret, x_ret0, x_pass, x_brk, x_cnt, x_if, x_raise, x_try, ev_def, evT_def, ev_v, ev_c, ev_g, ev_bin, ev_neg, ev_cmp, ev_chain, ev_and, ev_or, ev_one, ev_not, ev_ife, ev_ix, ev_sl, ev_rev, ev_tup, ev_lst, ev_call, ev_bi, ev_me, ev_isi, evL_nil, evL_cons, wR, PD.R.bind, PD.RL.bindR, PD.RL.bindN, PD.RI.bindR, PD.R.bindI, PD.RT.bindR, PD.RT.bind, optR, optB, PD.okR, optT, okI, negR, outR, callR, slR, lcR, itD, ofR, PD.R.toS, PD.RT.toS, PD.RI.toS, PD.RA.toS, startR, rd, PD.Rho.at, imm, immL, imm1, tnt, mkT, inOk, argS, giveS, PD.E.asV, PD.EL.one, PD.Sl.of, truth, outOf, bop, cop, ltD, leD, subD, addD, mulD, fdivD, modD, powD, ixop, lenD, biop, put, putTg, putAll, wipeR, PD.E.isOmit, List.map_cons, List.map_nil, List.length_cons, List.length_nil, List.set_cons_zero, List.set_cons_succ, List.set_nil, List.getD_cons_zero, List.getD_cons_succ, List.cons_append, List.nil_append, List.replicate, Option.getD, ownAt, chgS, appD, extD, remD, revD, augI, isTy, killV, killS, evI, rng1D, rngI, this]) (fun d' hd => by
      obtain ⟨n, rfl, h1, h2⟩ := range_mem hd
      refine ⟨rhoL ns hs k (.own a) (.own b) (.own c) (.own d) (.own (.list ((bads hs).take 10))) (.own (.int n)) .un .un .un, by unfold rhoL; simp [putTg, put, wipeR, imm], by simp [E.isOmit], fun _ => ?_⟩
      unfold rhoL
      simp [xl_nil, xl_cons, x_set, x_aug, x_app, x_rem, x_ext, x_setT, x_ex, x_ret, x_ret0, x_pass, x_brk, x_cnt, x_if, x_raise, x_try, ev_def, evT_def, ev_v, ev_c, ev_g, ev_bin, ev_neg, ev_cmp, ev_chain, ev_and, ev_or, ev_one, ev_not, ev_ife, ev_ix, ev_sl, ev_rev, ev_tup, ev_lst, ev_call, ev_bi, ev_me, ev_isi, evL_nil, evL_cons, wR, PD.R.bind, PD.RL.bindR, PD.RL.bindN, PD.RI.bindR, PD.R.bindI, PD.RT.bindR, PD.RT.bind, optR, optB, PD.okR, optT, okI, negR, outR, callR, slR, lcR, itD, ofR, PD.R.toS, PD.RT.toS, PD.RI.toS, PD.RA.toS, startR, rd, PD.Rho.at, imm, immL, imm1, tnt, mkT, inOk, argS, giveS, PD.E.asV, PD.EL.one, PD.Sl.of, truth, outOf, bop, cop, ltD, leD, subD, addD, mulD, fdivD, modD, powD, ixop, lenD, biop, put, putTg, putAll, wipeR, PD.E.isOmit, List.map_cons, List.map_nil, List.length_cons, List.length_nil, List.set_cons_zero, List.set_cons_succ, List.set_nil, List.getD_cons_zero, List.getD_cons_succ, List.cons_append, List.nil_append, List.replicate, Option.getD, ownAt, chgS, appD, extD, remD, revD, augI, isTy, killV, killS, fd]) (by decide)
    rw [List.filter_eq_self.mpr (fun _ _ => rfl)] at q
    exact q
  have hb10 : (bads hs).take 10 ++ [.tuple (half12.map .int)] = bads hs := rfl
  have lb : ((bads hs).take 10).length < lineN := (show 10 < lineN by decide)
  have im := immL_int half12
  unfold ls11
  unfold rhoL at e ⊢
  generalize (bads hs).take 10 = B0 at *
  generalize bads hs = BB at *
  generalize half12.map PyData.int = HH at *
  rw [x_app]
  simp [xl_nil, xl_cons, x_set, x_aug, x_app, x_rem, x_ext, x_setT, x_ex, x_ret, x_ret0, x_pass, x_brk, x_cnt, x_if, x_raise, x_try, ev_def, evT_def, ev_v, ev_c, ev_g, ev_bin, ev_neg, ev_cmp, ev_chain, ev_and, ev_or, ev_one, ev_not, ev_ife, ev_ix, ev_sl, ev_rev, ev_tup, ev_lst, ev_call, ev_bi, ev_me, ev_isi, evL_nil, evL_cons, wR, PD.R.bind, PD.RL.bindR, PD.RL.bindN, PD.RI.bindR, PD.R.bindI, PD.RT.bindR, PD.RT.bind, optR, optB, PD.okR, optT, okI, negR, outR, callR, slR, lcR, itD, ofR, PD.R.toS, PD.RT.toS, PD.RI.toS, PD.RA.toS, startR, rd, PD.Rho.at, imm, immL, imm1, tnt, mkT, inOk, argS, giveS, PD.E.asV, PD.EL.one, PD.Sl.of, truth, outOf, bop, cop, ltD, leD, subD, addD, mulD, fdivD, modD, powD, ixop, lenD, biop, put, putTg, putAll, wipeR, PD.E.isOmit, List.map_cons, List.map_nil, List.length_cons, List.length_nil, List.set_cons_zero, List.set_cons_succ, List.set_nil, List.getD_cons_zero, List.getD_cons_succ, List.cons_append, List.nil_append, List.replicate, Option.getD, ownAt, chgS, appD, extD, remD, revD, augI, isTy, killV, killS, e, im, tupleD, lb, hb10]
end
end PL
set_option maxHeartbeats 4000000
namespace PL
open PySem PD PF
def odds : List PyData := [.int 21, .int (-1), .none, .str "1", .bool true]
theorem odds_ok : ∀ d ∈ odds, noDict d = true ∧ imm d = true ∧ isKind d = false := by
  intro d hd
  unfold odds at hd
  simp only [List.mem_cons, List.not_mem_nil, or_false] at hd
  rcases hd with rfl | rfl | rfl | rfl | rfl <;> decide +kernel
theorem take1_hand {hs : List Int} (h : isHand hs = true) : isHand (hs.take 1) = true := by
  obtain ⟨h1, h2, h3, h4, h5⟩ := hand_iff.mp h
  cases hs with
  | nil => simp at h4
  | cons a r =>
    rw [hand_iff]
    have := h1 a (by simp)
    exact ⟨fun t ht => by simp at ht; subst ht; exact this, rfl, fun t ht => by simp at ht; subst ht; simp, by simp, by simp⟩
section
variable (T : Tab) (cH cC cS cM cK cP cO : Nat) (hT : HasL T cH cC cS cM cK cP cO) (ns hs : List Int) (k : Int) (hh : isHand hs = true) (hk : 0 ≤ k ∧ k ≤ 20)
include hT hh hk
theorem turn14 (a b c d g : Sl) (bad : PyData) (j w : Int) (hw : w = 0 ∨ w = 1 ∨ w = 2 ∨ w = 3) (hB : Bad bad) (o : Sl) : ∃ o', exSL T (body14 cC cK cP cO) (rhoL ns hs k a (.own (.int w)) c d g .un (Sl.of bad (some [7])) (.own (.int j)) o) = .nx (rhoL ns hs k a (.own (.int w)) c d g .un (Sl.of bad (some [7])) (.own (.int (j + 1))) o') := by
  have hbad := hT.bd bad hB
  have hp := hT.putB bad (.int k) hB
  have ho := hT.outB bad (.int k) hB
  have i0 := immL_int hs
  rcases hw with rfl | rfl | rfl | rfl
  · refine ⟨o, ?_⟩
    unfold body14 rhoL
    by_cases im : imm bad = true
    · have e : Sl.of bad (some [7]) = .own bad := by unfold Sl.of; rw [if_pos im]
      rw [e]
      simp [xl_nil, xl_cons, x_set, x_aug, x_app, x_rem, x_ext, x_setT, x_ex, x_ret, x_ret0, x_pass, x_brk, x_cnt, x_if, x_raise, x_try, ev_def, evT_def, ev_v, ev_c, ev_g, ev_bin, ev_neg, ev_cmp, ev_chain, ev_and, ev_or, ev_one, ev_not, ev_ife, ev_ix, ev_sl, ev_rev, ev_tup, ev_lst, ev_call, ev_bi, ev_me, ev_isi, evL_nil, evL_cons, wR, PD.R.bind, PD.RL.bindR, PD.RL.bindN, PD.RI.bindR, PD.R.bindI, PD.RT.bindR, PD.RT.bind, optR, optB, PD.okR, optT, okI, negR, outR, callR, slR, lcR, itD, ofR, PD.R.toS, PD.RT.toS, PD.RI.toS, PD.RA.toS, startR, rd, PD.Rho.at, imm, immL, imm1, tnt, mkT, inOk, argS, giveS, PD.E.asV, PD.EL.one, PD.Sl.of, truth, outOf, bop, cop, ltD, leD, subD, addD, mulD, fdivD, modD, powD, ixop, lenD, biop, put, putTg, putAll, wipeR, PD.E.isOmit, List.map_cons, List.map_nil, List.length_cons, List.length_nil, List.set_cons_zero, List.set_cons_succ, List.set_nil, List.getD_cons_zero, List.getD_cons_succ, List.cons_append, List.nil_append, List.replicate, Option.getD, ownAt, chgS, appD, extD, remD, revD, augI, isTy, killV, killS, eqD, sh_int, PyData.eqv, hT.io, hT.sub, hbad, im]
    · have e : Sl.of bad (some [7]) = .vw [7] bad := by unfold Sl.of; rw [if_neg im]
      rw [e]
      simp [xl_nil, xl_cons, x_set, x_aug, x_app, x_rem, x_ext, x_setT, x_ex, x_ret, x_ret0, x_pass, x_brk, x_cnt, x_if, x_raise, x_try, ev_def, evT_def, ev_v, ev_c, ev_g, ev_bin, ev_neg, ev_cmp, ev_chain, ev_and, ev_or, ev_one, ev_not, ev_ife, ev_ix, ev_sl, ev_rev, ev_tup, ev_lst, ev_call, ev_bi, ev_me, ev_isi, evL_nil, evL_cons, wR, PD.R.bind, PD.RL.bindR, PD.RL.bindN, PD.RI.bindR, PD.R.bindI, PD.RT.bindR, PD.RT.bind, optR, optB, PD.okR, optT, okI, negR, outR, callR, slR, lcR, itD, ofR, PD.R.toS, PD.RT.toS, PD.RI.toS, PD.RA.toS, startR, rd, PD.Rho.at, imm, immL, imm1, tnt, mkT, inOk, argS, giveS, PD.E.asV, PD.EL.one, PD.Sl.of, truth, outOf, bop, cop, ltD, leD, subD, addD, mulD, fdivD, modD, powD, ixop, lenD, biop, put, putTg, putAll, wipeR, PD.E.isOmit, List.map_cons, List.map_nil, List.length_cons, List.length_nil, List.set_cons_zero, List.set_cons_succ, List.set_nil, List.getD_cons_zero, List.getD_cons_succ, List.cons_append, List.nil_append, List.replicate, Option.getD, ownAt, chgS, appD, extD, remD, revD, augI, isTy, killV, killS, eqD, sh_int, PyData.eqv, hT.io, hT.sub, hbad, im]
  · refine ⟨o, ?_⟩
    unfold body14 rhoL
    by_cases im : imm bad = true
    · have e : Sl.of bad (some [7]) = .own bad := by unfold Sl.of; rw [if_pos im]
      rw [e]
      simp [xl_nil, xl_cons, x_set, x_aug, x_app, x_rem, x_ext, x_setT, x_ex, x_ret, x_ret0, x_pass, x_brk, x_cnt, x_if, x_raise, x_try, ev_def, evT_def, ev_v, ev_c, ev_g, ev_bin, ev_neg, ev_cmp, ev_chain, ev_and, ev_or, ev_one, ev_not, ev_ife, ev_ix, ev_sl, ev_rev, ev_tup, ev_lst, ev_call, ev_bi, ev_me, ev_isi, evL_nil, evL_cons, wR, PD.R.bind, PD.RL.bindR, PD.RL.bindN, PD.RI.bindR, PD.R.bindI, PD.RT.bindR, PD.RT.bind, optR, optB, PD.okR, optT, okI, negR, outR, callR, slR, lcR, itD, ofR, PD.R.toS, PD.RT.toS, PD.RI.toS, PD.RA.toS, startR, rd, PD.Rho.at, imm, immL, imm1, tnt, mkT, inOk, argS, giveS, PD.E.asV, PD.EL.one, PD.Sl.of, truth, outOf, bop, cop, ltD, leD, subD, addD, mulD, fdivD, modD, powD, ixop, lenD, biop, put, putTg, putAll, wipeR, PD.E.isOmit, List.map_cons, List.map_nil, List.length_cons, List.length_nil, List.set_cons_zero, List.set_cons_succ, List.set_nil, List.getD_cons_zero, List.getD_cons_succ, List.cons_append, List.nil_append, List.replicate, Option.getD, ownAt, chgS, appD, extD, remD, revD, augI, isTy, killV, killS, eqD, sh_int, PyData.eqv, hT.io, hT.sub, hp, im]
    · have e : Sl.of bad (some [7]) = .vw [7] bad := by unfold Sl.of; rw [if_neg im]
      rw [e]
      simp [xl_nil, xl_cons, x_set, x_aug, x_app, x_rem, x_ext, x_setT, x_ex, x_ret, x_ret0, x_pass, x_brk, x_cnt, x_if, x_raise, x_try, ev_def, evT_def, ev_v, ev_c, ev_g, ev_bin, ev_neg, ev_cmp, ev_chain, ev_and, ev_or, ev_one, ev_not, ev_ife, ev_ix, ev_sl, ev_rev, ev_tup, ev_lst, ev_call, ev_bi, ev_me, ev_isi, evL_nil, evL_cons, wR, PD.R.bind, PD.RL.bindR, PD.RL.bindN, PD.RI.bindR, PD.R.bindI, PD.RT.bindR, PD.RT.bind, optR, optB, PD.okR, optT, okI, negR, outR, callR, slR, lcR, itD, ofR, PD.R.toS, PD.RT.toS, PD.RI.toS, PD.RA.toS, startR, rd, PD.Rho.at, imm, immL, imm1, tnt, mkT, inOk, argS, giveS, PD.E.asV, PD.EL.one, PD.Sl.of, truth, outOf, bop, cop, ltD, leD, subD, addD, mulD, fdivD, modD, powD, ixop, lenD, biop, put, putTg, putAll, wipeR, PD.E.isOmit, List.map_cons, List.map_nil, List.length_cons, List.length_nil, List.set_cons_zero, List.set_cons_succ, List.set_nil, List.getD_cons_zero, List.getD_cons_succ, List.cons_append, List.nil_append, List.replicate, Option.getD, ownAt, chgS, appD, extD, remD, revD, augI, isTy, killV, killS, eqD, sh_int, PyData.eqv, hT.io, hT.sub, hp, im]
  · refine ⟨o, ?_⟩
    unfold body14 rhoL
    by_cases im : imm bad = true
    · have e : Sl.of bad (some [7]) = .own bad := by unfold Sl.of; rw [if_pos im]
      rw [e]
      simp [xl_nil, xl_cons, x_set, x_aug, x_app, x_rem, x_ext, x_setT, x_ex, x_ret, x_ret0, x_pass, x_brk, x_cnt, x_if, x_raise, x_try, ev_def, evT_def, ev_v, ev_c, ev_g, ev_bin, ev_neg, ev_cmp, ev_chain, ev_and, ev_or, ev_one, ev_not, ev_ife, ev_ix, ev_sl, ev_rev, ev_tup, ev_lst, ev_call, ev_bi, ev_me, ev_isi, evL_nil, evL_cons, wR, PD.R.bind, PD.RL.bindR, PD.RL.bindN, PD.RI.bindR, PD.R.bindI, PD.RT.bindR, PD.RT.bind, optR, optB, PD.okR, optT, okI, negR, outR, callR, slR, lcR, itD, ofR, PD.R.toS, PD.RT.toS, PD.RI.toS, PD.RA.toS, startR, rd, PD.Rho.at, imm, immL, imm1, tnt, mkT, inOk, argS, giveS, PD.E.asV, PD.EL.one, PD.Sl.of, truth, outOf, bop, cop, ltD, leD, subD, addD, mulD, fdivD, modD, powD, ixop, lenD, biop, put, putTg, putAll, wipeR, PD.E.isOmit, List.map_cons, List.map_nil, List.length_cons, List.length_nil, List.set_cons_zero, List.set_cons_succ, List.set_nil, List.getD_cons_zero, List.getD_cons_succ, List.cons_append, List.nil_append, List.replicate, Option.getD, ownAt, chgS, appD, extD, remD, revD, augI, isTy, killV, killS, eqD, sh_int, PyData.eqv, hT.io, hT.sub, ho, im]
    · have e : Sl.of bad (some [7]) = .vw [7] bad := by unfold Sl.of; rw [if_neg im]
      rw [e]
      simp [xl_nil, xl_cons, x_set, x_aug, x_app, x_rem, x_ext, x_setT, x_ex, x_ret, x_ret0, x_pass, x_brk, x_cnt, x_if, x_raise, x_try, ev_def, evT_def, ev_v, ev_c, ev_g, ev_bin, ev_neg, ev_cmp, ev_chain, ev_and, ev_or, ev_one, ev_not, ev_ife, ev_ix, ev_sl, ev_rev, ev_tup, ev_lst, ev_call, ev_bi, ev_me, ev_isi, evL_nil, evL_cons, wR, PD.R.bind, PD.RL.bindR, PD.RL.bindN, PD.RI.bindR, PD.R.bindI, PD.RT.bindR, PD.RT.bind, optR, optB, PD.okR, optT, okI, negR, outR, callR, slR, lcR, itD, ofR, PD.R.toS, PD.RT.toS, PD.RI.toS, PD.RA.toS, startR, rd, PD.Rho.at, imm, immL, imm1, tnt, mkT, inOk, argS, giveS, PD.E.asV, PD.EL.one, PD.Sl.of, truth, outOf, bop, cop, ltD, leD, subD, addD, mulD, fdivD, modD, powD, ixop, lenD, biop, put, putTg, putAll, wipeR, PD.E.isOmit, List.map_cons, List.map_nil, List.length_cons, List.length_nil, List.set_cons_zero, List.set_cons_succ, List.set_nil, List.getD_cons_zero, List.getD_cons_succ, List.cons_append, List.nil_append, List.replicate, Option.getD, ownAt, chgS, appD, extD, remD, revD, augI, isTy, killV, killS, eqD, sh_int, PyData.eqv, hT.io, hT.sub, ho, im]
  · -- a kind that is none
    have cl := hT.cell ns 3
    have b1 := Int.emod_nonneg (ns.getD 3 0) (show (5 : Int) ≠ 0 by decide)
    have b2 := Int.emod_lt_of_pos (ns.getD 3 0) (show (0 : Int) < 5 by decide)
    have f5 : (ns.getD 3 0).fmod 5 = ns.getD 3 0 % 5 := fm _ _ (by decide)
    have hx : (ns.getD 3 0 % 5).toNat < odds.length := by show _ < 5; omega
    have a1 : atN odds (ns.getD 3 0 % 5) = some odds[(ns.getD 3 0 % 5).toNat] := by
      unfold atN
      rw [if_pos b1]
      simp [hx]
    have hm : odds[(ns.getD 3 0 % 5).toNat] ∈ odds := List.getElem_mem hx
    obtain ⟨o1, o2, o3⟩ := odds_ok _ hm
    generalize odds[(ns.getD 3 0 % 5).toNat] = od at *
    have hpo := hT.putO (hs.take 1) (take1_hand hh) od o1 o2 o3
    have c1 : cutL (hs.map PyData.int) none (some (1 : Int)) = (hs.take 1).map .int := by
      have := cut_to (hs.map PyData.int) 1
      rw [List.map_take]
      simpa using this
    have i1 := immL_int (hs.take 1)
    unfold odds at a1
    have cl' : T.fn cC [scr ns, .int 3] = .ret (.int (ns.getD 3 0)) .none := cl
    generalize ns.getD 3 0 = v at *
    generalize v % 5 = x at *
    generalize (hs.take 1).map PyData.int = H1 at *
    have q5 : 5 ≤ lineN := by decide
    refine ⟨.own od, ?_⟩
    unfold body14 rhoL
    simp [xl_nil, xl_cons, x_set, x_aug, x_app, x_rem, x_ext, x_setT, x_ex, x_ret, x_ret0, x_pass, x_brk, x_cnt, x_if, x_raise, x_try, ev_def, evT_def, ev_v, ev_c, ev_g, ev_bin, ev_neg, ev_cmp, ev_chain, ev_and, ev_or, ev_one, ev_not, ev_ife, ev_ix, ev_sl, ev_rev, ev_tup, ev_lst, ev_call, ev_bi, ev_me, ev_isi, evL_nil, evL_cons, wR, PD.R.bind, PD.RL.bindR, PD.RL.bindN, PD.RI.bindR, PD.R.bindI, PD.RT.bindR, PD.RT.bind, optR, optB, PD.okR, optT, okI, negR, outR, callR, slR, lcR, itD, ofR, PD.R.toS, PD.RT.toS, PD.RI.toS, PD.RA.toS, startR, rd, PD.Rho.at, imm, immL, imm1, tnt, mkT, inOk, argS, giveS, PD.E.asV, PD.EL.one, PD.Sl.of, truth, outOf, bop, cop, ltD, leD, subD, addD, mulD, fdivD, modD, powD, ixop, lenD, biop, put, putTg, putAll, wipeR, PD.E.isOmit, List.map_cons, List.map_nil, List.length_cons, List.length_nil, List.set_cons_zero, List.set_cons_succ, List.set_nil, List.getD_cons_zero, List.getD_cons_succ, List.cons_append, List.nil_append, List.replicate, Option.getD, ownAt, chgS, appD, extD, remD, revD, augI, isTy, killV, killS, eqD, sh_int, PyData.eqv, hT.io, hT.sub, imm_scr, cl', f5, a1, o2, i0, slop, partOf, c1, i1, hpo, q5]
theorem ls12_ok (a b c d : Sl) : ∃ bad, Bad bad ∧ exS T (ls12 cC) (rhoL ns hs k a b c d (.own (.list (bads hs))) .un .un .un .un) = .nx (rhoL ns hs k a b c d (.own (.list (bads hs))) .un (Sl.of bad (some [7])) .un .un) := by
  have cl : T.fn cC [scr ns, .int 4] = .ret (.int (ns.getD 4 0)) .none := hT.cell ns 4
  have b1 := Int.emod_nonneg (ns.getD 4 0) (show (11 : Int) ≠ 0 by decide)
  have b2 := Int.emod_lt_of_pos (ns.getD 4 0) (show (0 : Int) < 11 by decide)
  have f5 : (ns.getD 4 0).fmod 11 = ns.getD 4 0 % 11 := fm _ _ (by decide)
  have hx : (ns.getD 4 0 % 11).toNat < (bads hs).length := by show _ < 11; omega
  have a1 : atN (bads hs) (ns.getD 4 0 % 11) = some (bads hs)[(ns.getD 4 0 % 11).toNat] := by
    unfold atN
    rw [if_pos b1]
    simp [hx]
  have hm : (bads hs)[(ns.getD 4 0 % 11).toNat] ∈ bads hs := List.getElem_mem hx
  have hb := bads_bad hs _ hm
  generalize (bads hs)[(ns.getD 4 0 % 11).toNat] = bad at *
  generalize ns.getD 4 0 = v at *
  refine ⟨bad, hb, ?_⟩
  generalize bads hs = BB at *
  unfold ls12 rhoL
  by_cases im : imm bad = true
  · have e : Sl.of bad (some [7]) = .own bad := by unfold Sl.of; rw [if_pos im]
    rw [e]
    simp [xl_nil, xl_cons, x_set, x_aug, x_app, x_rem, x_ext, x_setT, x_ex, x_ret, x_ret0, x_pass, x_brk, x_cnt, x_if, x_raise, x_try, ev_def, evT_def, ev_v, ev_c, ev_g, ev_bin, ev_neg, ev_cmp, ev_chain, ev_and, ev_or, ev_one, ev_not, ev_ife, ev_ix, ev_sl, ev_rev, ev_tup, ev_lst, ev_call, ev_bi, ev_me, ev_isi, evL_nil, evL_cons, wR, PD.R.bind, PD.RL.bindR, PD.RL.bindN, PD.RI.bindR, PD.R.bindI, PD.RT.bindR, PD.RT.bind, optR, optB, PD.okR, optT, okI, negR, outR, callR, slR, lcR, itD, ofR, PD.R.toS, PD.RT.toS, PD.RI.toS, PD.RA.toS, startR, rd, PD.Rho.at, imm, immL, imm1, tnt, mkT, inOk, argS, giveS, PD.E.asV, PD.EL.one, PD.Sl.of, truth, outOf, bop, cop, ltD, leD, subD, addD, mulD, fdivD, modD, powD, ixop, lenD, biop, put, putTg, putAll, wipeR, PD.E.isOmit, List.map_cons, List.map_nil, List.length_cons, List.length_nil, List.set_cons_zero, List.set_cons_succ, List.set_nil, List.getD_cons_zero, List.getD_cons_succ, List.cons_append, List.nil_append, List.replicate, Option.getD, ownAt, chgS, appD, extD, remD, revD, augI, isTy, killV, killS, hT.io, imm_scr, cl, f5, a1, im]
  · have e : Sl.of bad (some [7]) = .vw [7] bad := by unfold Sl.of; rw [if_neg im]
    rw [e]
    simp [xl_nil, xl_cons, x_set, x_aug, x_app, x_rem, x_ext, x_setT, x_ex, x_ret, x_ret0, x_pass, x_brk, x_cnt, x_if, x_raise, x_try, ev_def, evT_def, ev_v, ev_c, ev_g, ev_bin, ev_neg, ev_cmp, ev_chain, ev_and, ev_or, ev_one, ev_not, ev_ife, ev_ix, ev_sl, ev_rev, ev_tup, ev_lst, ev_call, ev_bi, ev_me, ev_isi, evL_nil, evL_cons, wR, PD.R.bind, PD.RL.bindR, PD.RL.bindN, PD.RI.bindR, PD.R.bindI, PD.RT.bindR, PD.RT.bind, optR, optB, PD.okR, optT, okI, negR, outR, callR, slR, lcR, itD, ofR, PD.R.toS, PD.RT.toS, PD.RI.toS, PD.RA.toS, startR, rd, PD.Rho.at, imm, immL, imm1, tnt, mkT, inOk, argS, giveS, PD.E.asV, PD.EL.one, PD.Sl.of, truth, outOf, bop, cop, ltD, leD, subD, addD, mulD, fdivD, modD, powD, ixop, lenD, biop, put, putTg, putAll, wipeR, PD.E.isOmit, List.map_cons, List.map_nil, List.length_cons, List.length_nil, List.set_cons_zero, List.set_cons_succ, List.set_nil, List.getD_cons_zero, List.getD_cons_succ, List.cons_append, List.nil_append, List.replicate, Option.getD, ownAt, chgS, appD, extD, remD, revD, augI, isTy, killV, killS, hT.io, imm_scr, cl, f5, a1, im]
theorem ls14_ok (a b c d g : Sl) (bad : PyData) (hB : Bad bad) : ∃ o, exS T (.for_ (.one 4) (.rng (.c (.int 4))) (body14 cC cK cP cO)) (rhoL ns hs k a b c d g .un (Sl.of bad (some [7])) (.own (.int 0)) .un) = .nx (rhoL ns hs k a (.own (.int 3)) c d g .un (Sl.of bad (some [7])) (.own (.int 4)) o) := by
  obtain ⟨o0, t0⟩ := turn14 T cH cC cS cM cK cP cO hT ns hs k hh hk a b c d g bad 0 0 (.inl rfl) hB .un
  obtain ⟨o1, t1⟩ := turn14 T cH cC cS cM cK cP cO hT ns hs k hh hk a b c d g bad 1 1 (.inr (.inl rfl)) hB o0
  obtain ⟨o2, t2⟩ := turn14 T cH cC cS cM cK cP cO hT ns hs k hh hk a b c d g bad 2 2 (.inr (.inr (.inl rfl))) hB o1
  obtain ⟨o3, t3⟩ := turn14 T cH cC cS cM cK cP cO hT ns hs k hh hk a b c d g bad 3 3 (.inr (.inr (.inr rfl))) hB o2
  rw [show (0 : Int) + 1 = 1 from rfl] at t0
  rw [show (1 : Int) + 1 = 2 from rfl] at t1
  rw [show (2 : Int) + 1 = 3 from rfl] at t2
  rw [show (3 : Int) + 1 = 4 from rfl] at t3
  refine ⟨o3, ?_⟩
  rw [x_for]
  have ei : evI T (.rng (.c (.int 4))) (rhoL ns hs k a b c d g .un (Sl.of bad (some [7])) (.own (.int 0)) .un) = .ok [.int 0, .int 1, .int 2, .int 3] none := by
    have : rangeOk 0 4 = true := by decide
    have r : rangeL 0 4 = [.int 0, .int 1, .int 2, .int 3] := rfl
    simp [xl_nil, xl_cons, x_set, x_aug, x_app, x_rem, x_ext, x_setT, x_ex, x_ret, x_ret0, x_pass, x_brk, x_cnt, x_if, x_raise, x_try, ev_def, evT_def, ev_v, ev_c, ev_g, ev_bin, ev_neg, ev_cmp, ev_chain, ev_and, ev_or, ev_one, ev_not, ev_ife, ev_ix, ev_sl, ev_rev, ev_tup, ev_lst, ev_call, ev_bi, ev_me, ev_isi, evL_nil, evL_cons, wR, PD.R.bind, PD.RL.bindR, PD.RL.bindN, PD.RI.bindR, PD.R.bindI, PD.RT.bindR, PD.RT.bind, optR, optB, PD.okR, optT, okI, negR, outR, callR, slR, lcR, itD, ofR, PD.R.toS, PD.RT.toS, PD.RI.toS, PD.RA.toS, startR, rd, PD.Rho.at, imm, immL, imm1, tnt, mkT, inOk, argS, giveS, PD.E.asV, PD.EL.one, PD.Sl.of, truth, outOf, bop, cop, ltD, leD, subD, addD, mulD, fdivD, modD, powD, ixop, lenD, biop, put, putTg, putAll, wipeR, PD.E.isOmit, List.map_cons, List.map_nil, List.length_cons, List.length_nil, List.set_cons_zero, List.set_cons_succ, List.set_nil, List.getD_cons_zero, List.getD_cons_succ, List.cons_append, List.nil_append, List.replicate, Option.getD, ownAt, chgS, appD, extD, remD, revD, augI, isTy, killV, killS, evI, rng1D, rngI, this, r]
  rw [ei]
  show forL _ (.one 4) none [.int 0, .int 1, .int 2, .int 3] (rhoL ns hs k a b c d g .un (Sl.of bad (some [7])) (.own (.int 0)) .un) = _
  have pt : ∀ (b' : Sl) (w j : Int) (o : Sl) (t : Tn), putTg (rhoL ns hs k a b' c d g .un (Sl.of bad (some [7])) (.own (.int j)) o) (.one 4) (.int w) t = some (rhoL ns hs k a (.own (.int w)) c d g .un (Sl.of bad (some [7])) (.own (.int j)) o) := fun b' w j o t => by
    unfold rhoL; simp [putTg, put, imm]
  rw [forL, pt]
  dsimp only
  rw [t0]
  dsimp only
  rw [forL, pt]
  dsimp only
  rw [t1]
  dsimp only
  rw [forL, pt]
  dsimp only
  rw [t2]
  dsimp only
  rw [forL, pt]
  dsimp only
  rw [t3]
  rfl
end
theorem law_eq (cH cC cS cM cK cP cO : Nat) : sl_law_16f7e6 cH cC cS cM cK cP cO = .cons (.set 1 (.call cH (.cons (.call cS (.cons (.call cC (.cons (.v 0) (.cons (.c (.int 0)) .nil))) (.cons (.c (.int 0)) .nil))) (.cons (.bin .add (.c (.int 1)) (.bin .mod (.call cC (.cons (.v 0) (.cons (.c (.int 1)) .nil))) (.c (.int 11)))) (.cons (.call cC (.cons (.v 0) (.cons (.c (.int 2)) .nil))) .nil)))))
  (.cons (.set 2 (.call cM (.cons (.call cC (.cons (.v 0) (.cons (.c (.int 3)) .nil))) (.cons (.c (.int 9949)) (.cons (.c (.int 21)) .nil)))))
  (.cons (.ife (.cmp .ne (.call cK (.cons (.v 1) .nil)) (.v 1)) (.cons (.ret (.c (.bool false))) .nil) .nil)
  (.cons (.set 3 (.lst .nil)) (.cons (ls5 cP cO) (.cons ls6 (.cons (.set 6 (.bi .list (.cons (.v 1) .nil))) (.cons ls8 (.cons ls9 (.cons ls10 (.cons ls11 (.cons (ls12 cC) (.cons (.set 10 (.c (.int 0)))
  (.cons (.for_ (.one 4) (.rng (.c (.int 4))) (body14 cC cK cP cO)) (.cons (.ret (.cmp .eq (.v 10) (.c (.int 4)))) .nil)))))))))))))) := rfl
theorem mix_rng (c p m : Int) (hm : 0 < m) : 0 ≤ mixV c p m ∧ mixV c p m < m := ⟨Int.emod_nonneg _ (by omega), Int.emod_lt_of_pos _ hm⟩
theorem law_ok (T : Tab) (cH cC cS cM cK cP cO : Nat) (hT : HasL T cH cC cS cM cK cP cO) (ns : List Int) : outOf (exSL T (sl_law_16f7e6 cH cC cS cM cK cP cO) (startR 12 [scr ns])) = .ret (.bool true) .none := by
  have c0 : T.fn cC [scr ns, .int 0] = .ret (.int (ns.getD 0 0)) .none := hT.cell ns 0
  have c1 : T.fn cC [scr ns, .int 1] = .ret (.int (ns.getD 1 0)) .none := hT.cell ns 1
  have c2 : T.fn cC [scr ns, .int 2] = .ret (.int (ns.getD 2 0)) .none := hT.cell ns 2
  have c3 : T.fn cC [scr ns, .int 3] = .ret (.int (ns.getD 3 0)) .none := hT.cell ns 3
  have b1 := Int.emod_nonneg (ns.getD 1 0) (show (11 : Int) ≠ 0 by decide)
  have b2 := Int.emod_lt_of_pos (ns.getD 1 0) (show (0 : Int) < 11 by decide)
  have f1 : (ns.getD 1 0).fmod 11 = ns.getD 1 0 % 11 := fm _ _ (by decide)
  obtain ⟨m, hm⟩ : ∃ m : Nat, 1 + ns.getD 1 0 % 11 = (m : Int) := ⟨(1 + ns.getD 1 0 % 11).toNat, by omega⟩
  obtain ⟨hs, hh, hl, he⟩ := hT.hand (seedV (ns.getD 0 0) 0) (ns.getD 2 0) m (by omega)
  have mx := hT.mix (ns.getD 3 0) 9949 21 (by decide) (by decide) (by decide)
  have mr := mix_rng (ns.getD 3 0) 9949 21 (by decide)
  have e1 : exS T (.set 1 (.call cH (.cons (.call cS (.cons (.call cC (.cons (.v 0) (.cons (.c (.int 0)) .nil))) (.cons (.c (.int 0)) .nil))) (.cons (.bin .add (.c (.int 1)) (.bin .mod (.call cC (.cons (.v 0) (.cons (.c (.int 1)) .nil))) (.c (.int 11)))) (.cons (.call cC (.cons (.v 0) (.cons (.c (.int 2)) .nil))) .nil))))) (startR 12 [scr ns]) =
      .nx [.vw [] (scr ns), .own (.tuple (hs.map .int)), .un, .un, .un, .un, .un, .un, .un, .un, .un, .un] := by
    have i0 := immL_int hs
    generalize ns.getD 0 0 = v0 at *
    generalize ns.getD 1 0 = v1 at *
    generalize ns.getD 2 0 = v2 at *
    simp [xl_nil, xl_cons, x_set, x_aug, x_app, x_rem, x_ext, x_setT, x_ex, x_ret, x_ret0, x_pass, x_brk, x_cnt, x_if, x_raise, x_try, ev_def, evT_def, ev_v, ev_c, ev_g, ev_bin, ev_neg, ev_cmp, ev_chain, ev_and, ev_or, ev_one, ev_not, ev_ife, ev_ix, ev_sl, ev_rev, ev_tup, ev_lst, ev_call, ev_bi, ev_me, ev_isi, evL_nil, evL_cons, wR, PD.R.bind, PD.RL.bindR, PD.RL.bindN, PD.RI.bindR, PD.R.bindI, PD.RT.bindR, PD.RT.bind, optR, optB, PD.okR, optT, okI, negR, outR, callR, slR, lcR, itD, ofR, PD.R.toS, PD.RT.toS, PD.RI.toS, PD.RA.toS, startR, rd, PD.Rho.at, imm, immL, imm1, tnt, mkT, inOk, argS, giveS, PD.E.asV, PD.EL.one, PD.Sl.of, truth, outOf, bop, cop, ltD, leD, subD, addD, mulD, fdivD, modD, powD, ixop, lenD, biop, put, putTg, putAll, wipeR, PD.E.isOmit, List.map_cons, List.map_nil, List.length_cons, List.length_nil, List.set_cons_zero, List.set_cons_succ, List.set_nil, List.getD_cons_zero, List.getD_cons_succ, List.cons_append, List.nil_append, List.replicate, Option.getD, ownAt, chgS, appD, extD, remD, revD, augI, isTy, killV, killS, hT.io, imm_scr, c0, c1, c2, hT.seed, f1, hm, he, i0]
  have e2 : exS T (.set 2 (.call cM (.cons (.call cC (.cons (.v 0) (.cons (.c (.int 3)) .nil))) (.cons (.c (.int 9949)) (.cons (.c (.int 21)) .nil))))) [.vw [] (scr ns), .own (.tuple (hs.map .int)), .un, .un, .un, .un, .un, .un, .un, .un, .un, .un] =
      .nx (rhoL ns hs (mixV (ns.getD 3 0) 9949 21) .un .un .un .un .un .un .un .un .un) := by
    generalize ns.getD 3 0 = v3 at *
    unfold rhoL
    simp [xl_nil, xl_cons, x_set, x_aug, x_app, x_rem, x_ext, x_setT, x_ex, x_ret, x_ret0, x_pass, x_brk, x_cnt, x_if, x_raise, x_try, ev_def, evT_def, ev_v, ev_c, ev_g, ev_bin, ev_neg, ev_cmp, ev_chain, ev_and, ev_or, ev_one, ev_not, ev_ife, ev_ix, ev_sl, ev_rev, ev_tup, ev_lst, ev_call, ev_bi, ev_me, ev_isi, evL_nil, evL_cons, wR, PD.R.bind, PD.RL.bindR, PD.RL.bindN, PD.RI.bindR, PD.R.bindI, PD.RT.bindR, PD.RT.bind, optR, optB, PD.okR, optT, okI, negR, outR, callR, slR, lcR, itD, ofR, PD.R.toS, PD.RT.toS, PD.RI.toS, PD.RA.toS, startR, rd, PD.Rho.at, imm, immL, imm1, tnt, mkT, inOk, argS, giveS, PD.E.asV, PD.EL.one, PD.Sl.of, truth, outOf, bop, cop, ltD, leD, subD, addD, mulD, fdivD, modD, powD, ixop, lenD, biop, put, putTg, putAll, wipeR, PD.E.isOmit, List.map_cons, List.map_nil, List.length_cons, List.length_nil, List.set_cons_zero, List.set_cons_succ, List.set_nil, List.getD_cons_zero, List.getD_cons_succ, List.cons_append, List.nil_append, List.replicate, Option.getD, ownAt, chgS, appD, extD, remD, revD, augI, isTy, killV, killS, hT.io, imm_scr, c3, mx]
  have hk : 0 ≤ mixV (ns.getD 3 0) 9949 21 ∧ mixV (ns.getD 3 0) 9949 21 ≤ 20 := by omega
  generalize mixV (ns.getD 3 0) 9949 21 = k at *
  have ck := hT.chk hs (by have := (isHand_len hh).2; unfold lineN; omega)
  rw [if_pos hh] at ck
  have e3 : exS T (.ife (.cmp .ne (.call cK (.cons (.v 1) .nil)) (.v 1)) (.cons (.ret (.c (.bool false))) .nil) .nil) (rhoL ns hs k .un .un .un .un .un .un .un .un .un) = .nx (rhoL ns hs k .un .un .un .un .un .un .un .un .un) := by
    have i0 := immL_int hs
    have s0 := shT_int hs
    have q0 : PyData.eqv (.tuple (hs.map .int)) (.tuple (hs.map .int)) = true := by rw [eqv_tup]; simp
    unfold rhoL
    generalize hs.map PyData.int = HM at *
    simp [xl_nil, xl_cons, x_set, x_aug, x_app, x_rem, x_ext, x_setT, x_ex, x_ret, x_ret0, x_pass, x_brk, x_cnt, x_if, x_raise, x_try, ev_def, evT_def, ev_v, ev_c, ev_g, ev_bin, ev_neg, ev_cmp, ev_chain, ev_and, ev_or, ev_one, ev_not, ev_ife, ev_ix, ev_sl, ev_rev, ev_tup, ev_lst, ev_call, ev_bi, ev_me, ev_isi, evL_nil, evL_cons, wR, PD.R.bind, PD.RL.bindR, PD.RL.bindN, PD.RI.bindR, PD.R.bindI, PD.RT.bindR, PD.RT.bind, optR, optB, PD.okR, optT, okI, negR, outR, callR, slR, lcR, itD, ofR, PD.R.toS, PD.RT.toS, PD.RI.toS, PD.RA.toS, startR, rd, PD.Rho.at, imm, immL, imm1, tnt, mkT, inOk, argS, giveS, PD.E.asV, PD.EL.one, PD.Sl.of, truth, outOf, bop, cop, ltD, leD, subD, addD, mulD, fdivD, modD, powD, ixop, lenD, biop, put, putTg, putAll, wipeR, PD.E.isOmit, List.map_cons, List.map_nil, List.length_cons, List.length_nil, List.set_cons_zero, List.set_cons_succ, List.set_nil, List.getD_cons_zero, List.getD_cons_succ, List.cons_append, List.nil_append, List.replicate, Option.getD, ownAt, chgS, appD, extD, remD, revD, augI, isTy, killV, killS, hT.io, ck, i0, eqD, s0, q0]
  have e4 : exS T (.set 3 (.lst .nil)) (rhoL ns hs k .un .un .un .un .un .un .un .un .un) = .nx (rhoL ns hs k (.own (.list [])) .un .un .un .un .un .un .un .un) := by
    unfold rhoL
    simp [xl_nil, xl_cons, x_set, x_aug, x_app, x_rem, x_ext, x_setT, x_ex, x_ret, x_ret0, x_pass, x_brk, x_cnt, x_if, x_raise, x_try, ev_def, evT_def, ev_v, ev_c, ev_g, ev_bin, ev_neg, ev_cmp, ev_chain, ev_and, ev_or, ev_one, ev_not, ev_ife, ev_ix, ev_sl, ev_rev, ev_tup, ev_lst, ev_call, ev_bi, ev_me, ev_isi, evL_nil, evL_cons, wR, PD.R.bind, PD.RL.bindR, PD.RL.bindN, PD.RI.bindR, PD.R.bindI, PD.RT.bindR, PD.RT.bind, optR, optB, PD.okR, optT, okI, negR, outR, callR, slR, lcR, itD, ofR, PD.R.toS, PD.RT.toS, PD.RI.toS, PD.RA.toS, startR, rd, PD.Rho.at, imm, immL, imm1, tnt, mkT, inOk, argS, giveS, PD.E.asV, PD.EL.one, PD.Sl.of, truth, outOf, bop, cop, ltD, leD, subD, addD, mulD, fdivD, modD, powD, ixop, lenD, biop, put, putTg, putAll, wipeR, PD.E.isOmit, List.map_cons, List.map_nil, List.length_cons, List.length_nil, List.set_cons_zero, List.set_cons_succ, List.set_nil, List.getD_cons_zero, List.getD_cons_succ, List.cons_append, List.nil_append, List.replicate, Option.getD, ownAt, chgS, appD, extD, remD, revD, augI, isTy, killV, killS]
  have e5 := ls5_ok T cH cC cS cM cK cP cO hT ns hs k hh hk
  have e6 := ls6_ok T cH cC cS cM cK cP cO hT ns hs k hh hk (.own (.list [moreD hs k, lessD hs k])) (.own (.int 1))
  have e7 := ls7_ok T cH cC cS cM cK cP cO hT ns hs k hh hk (.own (.list [moreD hs k, lessD hs k])) (.own (.int 1)) (.own (moreD hs k))
  have e8 := ls8_ok T cH cC cS cM cK cP cO hT ns hs k hh hk (.list [moreD hs k, lessD hs k]) (.int 1) (moreD hs k)
  have e9 := ls9_ok T cH cC cS cM cK cP cO hT ns hs k hh hk 1
  have e10 := ls10_ok T cH cC cS cM cK cP cO hT ns hs k hh hk (.own (.list [moreD hs k, lessD hs k])) (.own (.int 1)) (.own (moreD hs k)) (.own (.list ((hs.erase k).map .int)))
  have e11 := ls11_ok T cH cC cS cM cK cP cO hT ns hs k hh hk (.list [moreD hs k, lessD hs k]) (.int 1) (moreD hs k) (.list ((hs.erase k).map .int))
  obtain ⟨bad, hbad, e12⟩ := ls12_ok T cH cC cS cM cK cP cO hT ns hs k hh hk (.own (.list [moreD hs k, lessD hs k])) (.own (.int 1)) (.own (moreD hs k)) (.own (.list ((hs.erase k).map .int)))
  have e13 : exS T (.set 10 (.c (.int 0))) (rhoL ns hs k (.own (.list [moreD hs k, lessD hs k])) (.own (.int 1)) (.own (moreD hs k)) (.own (.list ((hs.erase k).map .int))) (.own (.list (bads hs))) .un (Sl.of bad (some [7])) .un .un) = .nx (rhoL ns hs k (.own (.list [moreD hs k, lessD hs k])) (.own (.int 1)) (.own (moreD hs k)) (.own (.list ((hs.erase k).map .int))) (.own (.list (bads hs))) .un (Sl.of bad (some [7])) (.own (.int 0)) .un) := by
    generalize Sl.of bad (some [7]) = SB at *
    unfold rhoL
    simp [xl_nil, xl_cons, x_set, x_aug, x_app, x_rem, x_ext, x_setT, x_ex, x_ret, x_ret0, x_pass, x_brk, x_cnt, x_if, x_raise, x_try, ev_def, evT_def, ev_v, ev_c, ev_g, ev_bin, ev_neg, ev_cmp, ev_chain, ev_and, ev_or, ev_one, ev_not, ev_ife, ev_ix, ev_sl, ev_rev, ev_tup, ev_lst, ev_call, ev_bi, ev_me, ev_isi, evL_nil, evL_cons, wR, PD.R.bind, PD.RL.bindR, PD.RL.bindN, PD.RI.bindR, PD.R.bindI, PD.RT.bindR, PD.RT.bind, optR, optB, PD.okR, optT, okI, negR, outR, callR, slR, lcR, itD, ofR, PD.R.toS, PD.RT.toS, PD.RI.toS, PD.RA.toS, startR, rd, PD.Rho.at, imm, immL, imm1, tnt, mkT, inOk, argS, giveS, PD.E.asV, PD.EL.one, PD.Sl.of, truth, outOf, bop, cop, ltD, leD, subD, addD, mulD, fdivD, modD, powD, ixop, lenD, biop, put, putTg, putAll, wipeR, PD.E.isOmit, List.map_cons, List.map_nil, List.length_cons, List.length_nil, List.set_cons_zero, List.set_cons_succ, List.set_nil, List.getD_cons_zero, List.getD_cons_succ, List.cons_append, List.nil_append, List.replicate, Option.getD, ownAt, chgS, appD, extD, remD, revD, augI, isTy, killV, killS]
  obtain ⟨o, e14⟩ := ls14_ok T cH cC cS cM cK cP cO hT ns hs k hh hk (.own (.list [moreD hs k, lessD hs k])) (.own (.int 1)) (.own (moreD hs k)) (.own (.list ((hs.erase k).map .int))) (.own (.list (bads hs))) bad hbad
  have e15 : exS T (.ret (.cmp .eq (.v 10) (.c (.int 4)))) (rhoL ns hs k (.own (.list [moreD hs k, lessD hs k])) (.own (.int 3)) (.own (moreD hs k)) (.own (.list ((hs.erase k).map .int))) (.own (.list (bads hs))) .un (Sl.of bad (some [7])) (.own (.int 4)) o) = .rt (.bool true) (rhoL ns hs k (.own (.list [moreD hs k, lessD hs k])) (.own (.int 3)) (.own (moreD hs k)) (.own (.list ((hs.erase k).map .int))) (.own (.list (bads hs))) .un (Sl.of bad (some [7])) (.own (.int 4)) o) := by
    generalize Sl.of bad (some [7]) = SB at *
    unfold rhoL
    simp [xl_nil, xl_cons, x_set, x_aug, x_app, x_rem, x_ext, x_setT, x_ex, x_ret, x_ret0, x_pass, x_brk, x_cnt, x_if, x_raise, x_try, ev_def, evT_def, ev_v, ev_c, ev_g, ev_bin, ev_neg, ev_cmp, ev_chain, ev_and, ev_or, ev_one, ev_not, ev_ife, ev_ix, ev_sl, ev_rev, ev_tup, ev_lst, ev_call, ev_bi, ev_me, ev_isi, evL_nil, evL_cons, wR, PD.R.bind, PD.RL.bindR, PD.RL.bindN, PD.RI.bindR, PD.R.bindI, PD.RT.bindR, PD.RT.bind, optR, optB, PD.okR, optT, okI, negR, outR, callR, slR, lcR, itD, ofR, PD.R.toS, PD.RT.toS, PD.RI.toS, PD.RA.toS, startR, rd, PD.Rho.at, imm, immL, imm1, tnt, mkT, inOk, argS, giveS, PD.E.asV, PD.EL.one, PD.Sl.of, truth, outOf, bop, cop, ltD, leD, subD, addD, mulD, fdivD, modD, powD, ixop, lenD, biop, put, putTg, putAll, wipeR, PD.E.isOmit, List.map_cons, List.map_nil, List.length_cons, List.length_nil, List.set_cons_zero, List.set_cons_succ, List.set_nil, List.getD_cons_zero, List.getD_cons_succ, List.cons_append, List.nil_append, List.replicate, Option.getD, ownAt, chgS, appD, extD, remD, revD, augI, isTy, killV, killS, eqD, sh_int, PyData.eqv]
  rw [law_eq]
  simp only [xl_cons, xl_nil, e1, e2, e3, e4, e5, e6, e7, e8, e9, e10, e11, e12, e13, e14, e15, outOf]
end PL
set_option maxHeartbeats 4000000
namespace PL
open PySem PD PF
/-! ## sets, forms -/
abbrev Tk := Str × Int
def tkD (a : Tk) : PyData := .tuple [.str a.1, .int a.2]
def okS (s : Str) : Prop := SeqAt.shaped (.str s) = true
def begins (k : Int) : Bool := decide (k < 18) && decide (k % 6 < 4)
def isSet (a : Tk) : Bool := isKind (.int a.2) && (decide (a.1 = "three") || (decide (a.1 = "run") && begins a.2))
def tilesOf (a : Tk) : List Int := if a.1 = "run" then [a.2, a.2 + 1, a.2 + 2] else if a.1 = "three" then [a.2, a.2, a.2] else [a.2, a.2]
theorem begins_ok (T : Tab) (gR gS : Nat) (h1 : T.consts gR = some (.int 6)) (h2 : T.consts gS = some (.int 18)) (k : Int) : outOf (exSL T (sl_begins_run_99955b gR gS) (startR 1 [.int k])) = .ret (.bool (begins k)) .none := by
  unfold sl_begins_run_99955b begins
  by_cases c1 : k < 18
  · by_cases c2 : k % 6 < 4
    · simp [xl_nil, xl_cons, x_set, x_aug, x_app, x_rem, x_ext, x_setT, x_ex, x_ret, x_ret0, x_pass, x_brk, x_cnt, x_if, x_raise, x_try, ev_def, evT_def, ev_v, ev_c, ev_g, ev_bin, ev_neg, ev_cmp, ev_chain, ev_and, ev_or, ev_one, ev_not, ev_ife, ev_ix, ev_sl, ev_rev, ev_tup, ev_lst, ev_call, ev_bi, ev_me, ev_isi, evL_nil, evL_cons, wR, PD.R.bind, PD.RL.bindR, PD.RL.bindN, PD.RI.bindR, PD.R.bindI, PD.RT.bindR, PD.RT.bind, optR, optB, PD.okR, optT, okI, negR, outR, callR, slR, lcR, itD, ofR, PD.R.toS, PD.RT.toS, PD.RI.toS, PD.RA.toS, startR, rd, PD.Rho.at, imm, immL, imm1, tnt, mkT, inOk, argS, giveS, PD.E.asV, PD.EL.one, PD.Sl.of, truth, outOf, bop, cop, ltD, leD, subD, addD, mulD, fdivD, modD, powD, ixop, lenD, biop, put, putTg, putAll, wipeR, PD.E.isOmit, List.map_cons, List.map_nil, List.length_cons, List.length_nil, List.set_cons_zero, List.set_cons_succ, List.set_nil, List.getD_cons_zero, List.getD_cons_succ, List.cons_append, List.nil_append, List.replicate, Option.getD, ownAt, chgS, appD, extD, remD, revD, augI, isTy, killV, killS, h1, h2, fm, c1, c2]
    · simp [xl_nil, xl_cons, x_set, x_aug, x_app, x_rem, x_ext, x_setT, x_ex, x_ret, x_ret0, x_pass, x_brk, x_cnt, x_if, x_raise, x_try, ev_def, evT_def, ev_v, ev_c, ev_g, ev_bin, ev_neg, ev_cmp, ev_chain, ev_and, ev_or, ev_one, ev_not, ev_ife, ev_ix, ev_sl, ev_rev, ev_tup, ev_lst, ev_call, ev_bi, ev_me, ev_isi, evL_nil, evL_cons, wR, PD.R.bind, PD.RL.bindR, PD.RL.bindN, PD.RI.bindR, PD.R.bindI, PD.RT.bindR, PD.RT.bind, optR, optB, PD.okR, optT, okI, negR, outR, callR, slR, lcR, itD, ofR, PD.R.toS, PD.RT.toS, PD.RI.toS, PD.RA.toS, startR, rd, PD.Rho.at, imm, immL, imm1, tnt, mkT, inOk, argS, giveS, PD.E.asV, PD.EL.one, PD.Sl.of, truth, outOf, bop, cop, ltD, leD, subD, addD, mulD, fdivD, modD, powD, ixop, lenD, biop, put, putTg, putAll, wipeR, PD.E.isOmit, List.map_cons, List.map_nil, List.length_cons, List.length_nil, List.set_cons_zero, List.set_cons_succ, List.set_nil, List.getD_cons_zero, List.getD_cons_succ, List.cons_append, List.nil_append, List.replicate, Option.getD, ownAt, chgS, appD, extD, remD, revD, augI, isTy, killV, killS, h1, h2, fm, c1, c2]
  · simp [xl_nil, xl_cons, x_set, x_aug, x_app, x_rem, x_ext, x_setT, x_ex, x_ret, x_ret0, x_pass, x_brk, x_cnt, x_if, x_raise, x_try, ev_def, evT_def, ev_v, ev_c, ev_g, ev_bin, ev_neg, ev_cmp, ev_chain, ev_and, ev_or, ev_one, ev_not, ev_ife, ev_ix, ev_sl, ev_rev, ev_tup, ev_lst, ev_call, ev_bi, ev_me, ev_isi, evL_nil, evL_cons, wR, PD.R.bind, PD.RL.bindR, PD.RL.bindN, PD.RI.bindR, PD.R.bindI, PD.RT.bindR, PD.RT.bind, optR, optB, PD.okR, optT, okI, negR, outR, callR, slR, lcR, itD, ofR, PD.R.toS, PD.RT.toS, PD.RI.toS, PD.RA.toS, startR, rd, PD.Rho.at, imm, immL, imm1, tnt, mkT, inOk, argS, giveS, PD.E.asV, PD.EL.one, PD.Sl.of, truth, outOf, bop, cop, ltD, leD, subD, addD, mulD, fdivD, modD, powD, ixop, lenD, biop, put, putTg, putAll, wipeR, PD.E.isOmit, List.map_cons, List.map_nil, List.length_cons, List.length_nil, List.set_cons_zero, List.set_cons_succ, List.set_nil, List.getD_cons_zero, List.getD_cons_succ, List.cons_append, List.nil_append, List.replicate, Option.getD, ownAt, chgS, appD, extD, remD, revD, augI, isTy, killV, killS, h1, h2, c1]
theorem okS_run : okS "run" := by unfold okS; decide +kernel
theorem okS_three : okS "three" := by unfold okS; decide +kernel
theorem okS_two : okS "two" := by unfold okS; decide +kernel
theorem eqv_str (s t : Str) : PyData.eqv (.str s) (.str t) = decide (s = t) := by
  show (s == t) = decide (s = t)
  by_cases h : s = t
  · subst h; simp
  · rw [decide_eq_false h]; exact beq_eq_false_iff_ne.mpr h
theorem tilesof_ok (T : Tab) (a : Tk) (h : okS a.1) : outOf (exSL T sl_tiles_of_7334a7 (startR 3 [tkD a])) = .ret (.list ((tilesOf a).map .int)) .none := by
  obtain ⟨s, k⟩ := a
  have h : SeqAt.shaped (.str s) = true := h
  have hr : SeqAt.shaped (.str "run") = true := okS_run
  have ht : SeqAt.shaped (.str "three") = true := okS_three
  have l3 : 3 ≤ lineN := by decide
  have l2 : 2 ≤ lineN := by decide
  have l1 : 1 ≤ lineN := by decide
  have r3 : rep 3 [PyData.int k] = [.int k, .int k, .int k] := rfl
  have r2 : rep 2 [PyData.int k] = [.int k, .int k] := rfl
  unfold sl_tiles_of_7334a7 tkD tilesOf
  by_cases c1 : s = "run"
  · simp [xl_nil, xl_cons, x_set, x_aug, x_app, x_rem, x_ext, x_setT, x_ex, x_ret, x_ret0, x_pass, x_brk, x_cnt, x_if, x_raise, x_try, ev_def, evT_def, ev_v, ev_c, ev_g, ev_bin, ev_neg, ev_cmp, ev_chain, ev_and, ev_or, ev_one, ev_not, ev_ife, ev_ix, ev_sl, ev_rev, ev_tup, ev_lst, ev_call, ev_bi, ev_me, ev_isi, evL_nil, evL_cons, wR, PD.R.bind, PD.RL.bindR, PD.RL.bindN, PD.RI.bindR, PD.R.bindI, PD.RT.bindR, PD.RT.bind, optR, optB, PD.okR, optT, okI, negR, outR, callR, slR, lcR, itD, ofR, PD.R.toS, PD.RT.toS, PD.RI.toS, PD.RA.toS, startR, rd, PD.Rho.at, imm, immL, imm1, tnt, mkT, inOk, argS, giveS, PD.E.asV, PD.EL.one, PD.Sl.of, truth, outOf, bop, cop, ltD, leD, subD, addD, mulD, fdivD, modD, powD, ixop, lenD, biop, put, putTg, putAll, wipeR, PD.E.isOmit, List.map_cons, List.map_nil, List.length_cons, List.length_nil, List.set_cons_zero, List.set_cons_succ, List.set_nil, List.getD_cons_zero, List.getD_cons_succ, List.cons_append, List.nil_append, List.replicate, Option.getD, ownAt, chgS, appD, extD, remD, revD, augI, isTy, killV, killS, eqD, h, hr, eqv_str, c1, l3]
  · by_cases c2 : s = "three"
    · have c3 : ¬ ("three" : Str) = "run" := by decide
      subst c2
      simp [xl_nil, xl_cons, x_set, x_aug, x_app, x_rem, x_ext, x_setT, x_ex, x_ret, x_ret0, x_pass, x_brk, x_cnt, x_if, x_raise, x_try, ev_def, evT_def, ev_v, ev_c, ev_g, ev_bin, ev_neg, ev_cmp, ev_chain, ev_and, ev_or, ev_one, ev_not, ev_ife, ev_ix, ev_sl, ev_rev, ev_tup, ev_lst, ev_call, ev_bi, ev_me, ev_isi, evL_nil, evL_cons, wR, PD.R.bind, PD.RL.bindR, PD.RL.bindN, PD.RI.bindR, PD.R.bindI, PD.RT.bindR, PD.RT.bind, optR, optB, PD.okR, optT, okI, negR, outR, callR, slR, lcR, itD, ofR, PD.R.toS, PD.RT.toS, PD.RI.toS, PD.RA.toS, startR, rd, PD.Rho.at, imm, immL, imm1, tnt, mkT, inOk, argS, giveS, PD.E.asV, PD.EL.one, PD.Sl.of, truth, outOf, bop, cop, ltD, leD, subD, addD, mulD, fdivD, modD, powD, ixop, lenD, biop, put, putTg, putAll, wipeR, PD.E.isOmit, List.map_cons, List.map_nil, List.length_cons, List.length_nil, List.set_cons_zero, List.set_cons_succ, List.set_nil, List.getD_cons_zero, List.getD_cons_succ, List.cons_append, List.nil_append, List.replicate, Option.getD, ownAt, chgS, appD, extD, remD, revD, augI, isTy, killV, killS, eqD, h, hr, ht, eqv_str, c3, l1, l3, r3]
    · simp [xl_nil, xl_cons, x_set, x_aug, x_app, x_rem, x_ext, x_setT, x_ex, x_ret, x_ret0, x_pass, x_brk, x_cnt, x_if, x_raise, x_try, ev_def, evT_def, ev_v, ev_c, ev_g, ev_bin, ev_neg, ev_cmp, ev_chain, ev_and, ev_or, ev_one, ev_not, ev_ife, ev_ix, ev_sl, ev_rev, ev_tup, ev_lst, ev_call, ev_bi, ev_me, ev_isi, evL_nil, evL_cons, wR, PD.R.bind, PD.RL.bindR, PD.RL.bindN, PD.RI.bindR, PD.R.bindI, PD.RT.bindR, PD.RT.bind, optR, optB, PD.okR, optT, okI, negR, outR, callR, slR, lcR, itD, ofR, PD.R.toS, PD.RT.toS, PD.RI.toS, PD.RA.toS, startR, rd, PD.Rho.at, imm, immL, imm1, tnt, mkT, inOk, argS, giveS, PD.E.asV, PD.EL.one, PD.Sl.of, truth, outOf, bop, cop, ltD, leD, subD, addD, mulD, fdivD, modD, powD, ixop, lenD, biop, put, putTg, putAll, wipeR, PD.E.isOmit, List.map_cons, List.map_nil, List.length_cons, List.length_nil, List.set_cons_zero, List.set_cons_succ, List.set_nil, List.getD_cons_zero, List.getD_cons_succ, List.cons_append, List.nil_append, List.replicate, Option.getD, ownAt, chgS, appD, extD, remD, revD, augI, isTy, killV, killS, eqD, h, hr, ht, eqv_str, c1, c2, l1, l2, r2]
structure Has7 (T : Tab) (cK cB : Nat) : Prop where
  io : ∀ f, T.io f = false
  kd : ∀ d, noDict d = true → T.fn cK [d] = .ret (.bool (isKind d)) .none
  br : ∀ k : Int, T.fn cB [.int k] = .ret (.bool (begins k)) .none
theorem isset_ok (T : Tab) (cK cB : Nat) (hT : Has7 T cK cB) (a : Tk) (h : okS a.1) : outOf (exSL T (sl_is_set_56e43c cK cB) (startR 1 [tkD a])) = .ret (.bool (isSet a)) .none := by
  obtain ⟨s, k⟩ := a
  have h : SeqAt.shaped (.str s) = true := h
  have hr : SeqAt.shaped (.str "run") = true := okS_run
  have ht : SeqAt.shaped (.str "three") = true := okS_three
  have hk := hT.kd (.int k) rfl
  unfold sl_is_set_56e43c tkD isSet
  have e2 : PyData.eqv (.int 2) (.int 2) = true := rfl
  cases q : isKind (.int k) with
  | false =>
    rw [q] at hk
    simp [xl_nil, xl_cons, x_set, x_aug, x_app, x_rem, x_ext, x_setT, x_ex, x_ret, x_ret0, x_pass, x_brk, x_cnt, x_if, x_raise, x_try, ev_def, evT_def, ev_v, ev_c, ev_g, ev_bin, ev_neg, ev_cmp, ev_chain, ev_and, ev_or, ev_one, ev_not, ev_ife, ev_ix, ev_sl, ev_rev, ev_tup, ev_lst, ev_call, ev_bi, ev_me, ev_isi, evL_nil, evL_cons, wR, PD.R.bind, PD.RL.bindR, PD.RL.bindN, PD.RI.bindR, PD.R.bindI, PD.RT.bindR, PD.RT.bind, optR, optB, PD.okR, optT, okI, negR, outR, callR, slR, lcR, itD, ofR, PD.R.toS, PD.RT.toS, PD.RI.toS, PD.RA.toS, startR, rd, PD.Rho.at, imm, immL, imm1, tnt, mkT, inOk, argS, giveS, PD.E.asV, PD.EL.one, PD.Sl.of, truth, outOf, bop, cop, ltD, leD, subD, addD, mulD, fdivD, modD, powD, ixop, lenD, biop, put, putTg, putAll, wipeR, PD.E.isOmit, List.map_cons, List.map_nil, List.length_cons, List.length_nil, List.set_cons_zero, List.set_cons_succ, List.set_nil, List.getD_cons_zero, List.getD_cons_succ, List.cons_append, List.nil_append, List.replicate, Option.getD, ownAt, chgS, appD, extD, remD, revD, augI, isTy, killV, killS, eqD, h, hr, ht, eqv_str, hT.io, hk, q, sh_int, e2, atN]
  | true =>
    rw [q] at hk
    have hb := hT.br k
    by_cases c1 : s = "three"
    · simp [xl_nil, xl_cons, x_set, x_aug, x_app, x_rem, x_ext, x_setT, x_ex, x_ret, x_ret0, x_pass, x_brk, x_cnt, x_if, x_raise, x_try, ev_def, evT_def, ev_v, ev_c, ev_g, ev_bin, ev_neg, ev_cmp, ev_chain, ev_and, ev_or, ev_one, ev_not, ev_ife, ev_ix, ev_sl, ev_rev, ev_tup, ev_lst, ev_call, ev_bi, ev_me, ev_isi, evL_nil, evL_cons, wR, PD.R.bind, PD.RL.bindR, PD.RL.bindN, PD.RI.bindR, PD.R.bindI, PD.RT.bindR, PD.RT.bind, optR, optB, PD.okR, optT, okI, negR, outR, callR, slR, lcR, itD, ofR, PD.R.toS, PD.RT.toS, PD.RI.toS, PD.RA.toS, startR, rd, PD.Rho.at, imm, immL, imm1, tnt, mkT, inOk, argS, giveS, PD.E.asV, PD.EL.one, PD.Sl.of, truth, outOf, bop, cop, ltD, leD, subD, addD, mulD, fdivD, modD, powD, ixop, lenD, biop, put, putTg, putAll, wipeR, PD.E.isOmit, List.map_cons, List.map_nil, List.length_cons, List.length_nil, List.set_cons_zero, List.set_cons_succ, List.set_nil, List.getD_cons_zero, List.getD_cons_succ, List.cons_append, List.nil_append, List.replicate, Option.getD, ownAt, chgS, appD, extD, remD, revD, augI, isTy, killV, killS, eqD, h, hr, ht, eqv_str, hT.io, hk, q, sh_int, e2, atN, c1]
    · by_cases c2 : s = "run"
      · have c3 : ¬ ("run" : Str) = "three" := by decide
        subst c2
        simp [xl_nil, xl_cons, x_set, x_aug, x_app, x_rem, x_ext, x_setT, x_ex, x_ret, x_ret0, x_pass, x_brk, x_cnt, x_if, x_raise, x_try, ev_def, evT_def, ev_v, ev_c, ev_g, ev_bin, ev_neg, ev_cmp, ev_chain, ev_and, ev_or, ev_one, ev_not, ev_ife, ev_ix, ev_sl, ev_rev, ev_tup, ev_lst, ev_call, ev_bi, ev_me, ev_isi, evL_nil, evL_cons, wR, PD.R.bind, PD.RL.bindR, PD.RL.bindN, PD.RI.bindR, PD.R.bindI, PD.RT.bindR, PD.RT.bind, optR, optB, PD.okR, optT, okI, negR, outR, callR, slR, lcR, itD, ofR, PD.R.toS, PD.RT.toS, PD.RI.toS, PD.RA.toS, startR, rd, PD.Rho.at, imm, immL, imm1, tnt, mkT, inOk, argS, giveS, PD.E.asV, PD.EL.one, PD.Sl.of, truth, outOf, bop, cop, ltD, leD, subD, addD, mulD, fdivD, modD, powD, ixop, lenD, biop, put, putTg, putAll, wipeR, PD.E.isOmit, List.map_cons, List.map_nil, List.length_cons, List.length_nil, List.set_cons_zero, List.set_cons_succ, List.set_nil, List.getD_cons_zero, List.getD_cons_succ, List.cons_append, List.nil_append, List.replicate, Option.getD, ownAt, chgS, appD, extD, remD, revD, augI, isTy, killV, killS, eqD, h, hr, ht, eqv_str, hT.io, hk, hb, q, sh_int, e2, atN, c3]
      · simp [xl_nil, xl_cons, x_set, x_aug, x_app, x_rem, x_ext, x_setT, x_ex, x_ret, x_ret0, x_pass, x_brk, x_cnt, x_if, x_raise, x_try, ev_def, evT_def, ev_v, ev_c, ev_g, ev_bin, ev_neg, ev_cmp, ev_chain, ev_and, ev_or, ev_one, ev_not, ev_ife, ev_ix, ev_sl, ev_rev, ev_tup, ev_lst, ev_call, ev_bi, ev_me, ev_isi, evL_nil, evL_cons, wR, PD.R.bind, PD.RL.bindR, PD.RL.bindN, PD.RI.bindR, PD.R.bindI, PD.RT.bindR, PD.RT.bind, optR, optB, PD.okR, optT, okI, negR, outR, callR, slR, lcR, itD, ofR, PD.R.toS, PD.RT.toS, PD.RI.toS, PD.RA.toS, startR, rd, PD.Rho.at, imm, immL, imm1, tnt, mkT, inOk, argS, giveS, PD.E.asV, PD.EL.one, PD.Sl.of, truth, outOf, bop, cop, ltD, leD, subD, addD, mulD, fdivD, modD, powD, ixop, lenD, biop, put, putTg, putAll, wipeR, PD.E.isOmit, List.map_cons, List.map_nil, List.length_cons, List.length_nil, List.set_cons_zero, List.set_cons_succ, List.set_nil, List.getD_cons_zero, List.getD_cons_succ, List.cons_append, List.nil_append, List.replicate, Option.getD, ownAt, chgS, appD, extD, remD, revD, augI, isTy, killV, killS, eqD, h, hr, ht, eqv_str, hT.io, hk, q, sh_int, e2, atN, c1, c2]
end PL
set_option maxHeartbeats 4000000
namespace PL
open PySem PD PF
theorem imm_tks (R : List Tk) : immL (R.map tkD) = true := by
  rw [immL_iff]
  intro x hx
  obtain ⟨a, _, rfl⟩ := List.mem_map.mp hx
  rfl
def goodR (R : List Tk) : Prop := ∀ a ∈ R, okS a.1
theorem strOk_of {s : Str} (h : okS s) : PyData.canLay0 (.str s) = true := by
  unfold okS SeqAt.shaped at h
  exact (Bool.and_eq_true_iff.mp h).1
theorem lay_tks : ∀ {R : List Tk}, goodR R → PyData.canLayAll0 (R.map tkD) = true
  | [], _ => rfl
  | a :: R, h => by
    have h1 := strOk_of (h a (by simp))
    have h2 := lay_tks (R := R) fun b hb => h b (List.mem_cons_of_mem _ hb)
    rw [List.map_cons]
    unfold PyData.canLayAll0
    rw [h2]
    simp only [tkD, PyData.canLay0, PyData.canLayAll0] at h1 ⊢
    simp [h1]
theorem dep_tks : ∀ {R : List Tk}, PyData.depthAll (R.map tkD) ≤ 1
  | [] => by simp [PyData.depthAll]
  | a :: R => by
    have := dep_tks (R := R)
    have e : PyData.depth (tkD a) = 1 := by simp [tkD, PyData.depth, PyData.depthAll]
    rw [List.map_cons, PyData.depthAll, e]
    omega
theorem shT_tks {R : List Tk} (h : goodR R) : SeqAt.shaped (.tuple (R.map tkD)) = true := by
  have := dep_tks (R := R)
  unfold SeqAt.shaped
  rw [Bool.and_eq_true, decide_eq_true_eq]
  refine ⟨by simp only [PyData.canLay0]; exact lay_tks h, ?_⟩
  simp only [PyData.depth]
  omega
theorem eqv_tk (a b : Tk) : PyData.eqv (tkD a) (tkD b) = decide (a = b) := by
  obtain ⟨s, k⟩ := a
  obtain ⟨t, j⟩ := b
  unfold tkD
  simp only [PyData.eqv, PyData.eqvAll, Bool.and_true]
  have e1 : (s == t) = decide (s = t) := eqv_str s t
  rw [e1]
  by_cases h1 : s = t <;> by_cases h2 : k = j <;> simp [h1, h2]
theorem eqvAll_tks : ∀ R S : List Tk, PyData.eqvAll (R.map tkD) (S.map tkD) = decide (R = S)
  | [], [] => rfl
  | [], _ :: _ => by simp [PyData.eqvAll]
  | _ :: _, [] => by simp [PyData.eqvAll]
  | a :: R, b :: S => by
    simp only [List.map_cons, PyData.eqvAll, eqvAll_tks R S, eqv_tk, List.cons.injEq, Bool.decide_and]
/-- the order of sets -/
def leTk (a b : Tk) : Bool := PySem.W.dataLe false id (tkD a) (tkD b)
theorem leTk_total : PySem.W.TotalLe (PySem.W.dataLe false (id : PyData → PyData)) := PySem.W.sortLe_total _ _ _
theorem sortD_tks (R : List Tk) : sortD (R.map tkD) = (R.mergeSort leTk).map tkD := by
  unfold sortD
  rw [PySem.W.sort_maps (r := leTk) (s := PySem.W.dataLe false id) tkD]
  intro a _ b _
  rfl
theorem sortOk_tks (R : List Tk) : sortOk (R.map tkD) = true := by
  unfold sortOk allAlike
  have h1 : ((R.map tkD).all fun d => (R.map tkD).all fun d' => PySem.W.alike d d') = true := by
    simp [List.all_eq_true, tkD, PySem.W.alike, PySem.W.alikeAll]
  have h2 : ((R.map tkD).all isTup1) = true := by simp [List.all_eq_true, isTup1, tkD]
  have := dep_tks (R := R)
  rw [h1, h2]
  simp only [Bool.true_and, Bool.true_or, decide_eq_true_eq]
  omega
def rising (R : List Tk) : Bool := decide (R.mergeSort leTk = R)
theorem rising_iff (R : List Tk) : rising R = true ↔ R.Pairwise fun a b => leTk a b = true := by
  unfold rising
  rw [decide_eq_true_eq]
  have tr : ∀ a b c : Tk, leTk a b = true → leTk b c = true → leTk a c = true := fun a b c => leTk_total.trans _ _ _
  have to : ∀ a b : Tk, (leTk a b || leTk b a) = true := fun a b => by
    rcases leTk_total.total (tkD a) (tkD b) with h | h
    · have : leTk a b = true := h
      rw [this]; rfl
    · have : leTk b a = true := h
      rw [this]; simp
  constructor
  · intro h
    have := List.pairwise_mergeSort (le := leTk) tr to R
    rw [h] at this
    exact this
  · intro h
    exact List.mergeSort_of_pairwise h
structure Has8 (T : Tab) (cK cI : Nat) : Prop where
  io : ∀ f, T.io f = false
  kd : ∀ d, noDict d = true → T.fn cK [d] = .ret (.bool (isKind d)) .none
  st : ∀ a : Tk, okS a.1 → T.fn cI [tkD a] = .ret (.bool (isSet a)) .none
def lc3 (cI : Nat) : E := .lc (.v 1) (.one 1) (.ex (.ix (.v 0) (.c (.int 1)))) (.not1 (.call cI (.cons (.v 1) .nil))) [("one", 1)]
theorem lc3_ok (T : Tab) (cK cI : Nat) (hT : Has8 T cK cI) (p : Int) (R : List Tk) (hR : goodR R) (hl : R.length ≤ lineN) (s1 : Sl) :
    evB T (lc3 cI) [.own (.tuple [.int p, .tuple (R.map tkD)]), s1] = wR (.ok (.list ((R.filter fun a => !isSet a).map tkD)) none) := by
  have im := imm_tks R
  have q := lc_ev (T := T) (elt := .v 1) (tg := .one 1) (it := .ex (.ix (.v 0) (.c (.int 1)))) (cond := .not1 (.call cI (.cons (.v 1) .nil))) (own := [("one", 1)]) (ρ := [.own (.tuple [.int p, .tuple (R.map tkD)]), s1]) (ds := R.map tkD) (t := none) (fun d => match d with
      | .tuple [.str s, .int k] => !isSet (s, k)
      | _ => false) id (by simp [xl_nil, xl_cons, x_set, x_aug, x_app, x_rem, x_ext, x_setT, x_ex, x_ret, x_ret0, x_pass, x_brk, x_cnt, x_if, x_raise, x_try, ev_def, evT_def, ev_v, ev_c, ev_g, ev_bin, ev_neg, ev_cmp, ev_chain, ev_and, ev_or, ev_one, ev_not, ev_ife, ev_ix, ev_sl, ev_rev, ev_tup, ev_lst, ev_call, ev_bi, ev_me, ev_isi, evL_nil, evL_cons, wR, PD.R.bind, PD.RL.bindR, PD.RL.bindN, PD.RI.bindR, PD.R.bindI, PD.RT.bindR, PD.RT.bind, optR, optB, PD.okR, optT, okI, negR, outR, callR, slR, lcR, itD, ofR, PD.R.toS, PD.RT.toS, PD.RI.toS, PD.RA.toS, startR, rd, PD.Rho.at, imm, immL, imm1, tnt, mkT, inOk, argS, giveS, PD.E.asV, PD.EL.one, PD.Sl.of, truth, outOf, bop, cop, ltD, leD, subD, addD, mulD, fdivD, modD, powD, ixop, lenD, biop, put, putTg, putAll, wipeR, PD.E.isOmit, List.map_cons, List.map_nil, List.length_cons, List.length_nil, List.set_cons_zero, List.set_cons_succ, List.set_nil, List.getD_cons_zero, List.getD_cons_succ, List.cons_append, List.nil_append, List.replicate, Option.getD, ownAt, chgS, appD, extD, remD, revD, augI, isTy, killV, killS, evI, im, atN]) (fun d hm => by
    obtain ⟨a, ha, rfl⟩ := List.mem_map.mp hm
    have hs := hT.st a (hR a ha)
    refine ⟨[.own (.tuple [.int p, .tuple (R.map tkD)]), .own (tkD a)], by simp [putTg, put, wipeR, imm, immL, tkD], ?_, fun _ => ?_⟩
    · unfold tkD at hs ⊢
      simp [xl_nil, xl_cons, x_set, x_aug, x_app, x_rem, x_ext, x_setT, x_ex, x_ret, x_ret0, x_pass, x_brk, x_cnt, x_if, x_raise, x_try, ev_def, evT_def, ev_v, ev_c, ev_g, ev_bin, ev_neg, ev_cmp, ev_chain, ev_and, ev_or, ev_one, ev_not, ev_ife, ev_ix, ev_sl, ev_rev, ev_tup, ev_lst, ev_call, ev_bi, ev_me, ev_isi, evL_nil, evL_cons, wR, PD.R.bind, PD.RL.bindR, PD.RL.bindN, PD.RI.bindR, PD.R.bindI, PD.RT.bindR, PD.RT.bind, optR, optB, PD.okR, optT, okI, negR, outR, callR, slR, lcR, itD, ofR, PD.R.toS, PD.RT.toS, PD.RI.toS, PD.RA.toS, startR, rd, PD.Rho.at, imm, immL, imm1, tnt, mkT, inOk, argS, giveS, PD.E.asV, PD.EL.one, PD.Sl.of, truth, outOf, bop, cop, ltD, leD, subD, addD, mulD, fdivD, modD, powD, ixop, lenD, biop, put, putTg, putAll, wipeR, PD.E.isOmit, List.map_cons, List.map_nil, List.length_cons, List.length_nil, List.set_cons_zero, List.set_cons_succ, List.set_nil, List.getD_cons_zero, List.getD_cons_succ, List.cons_append, List.nil_append, List.replicate, Option.getD, ownAt, chgS, appD, extD, remD, revD, augI, isTy, killV, killS, im, hT.io, hs]
    · simp [ev_v, rd, Rho.at, imm, immL, wR, tkD]) (by simpa using hl)
  rw [List.map_id] at q
  have e : (R.map tkD).filter (fun d => match d with
      | .tuple [.str s, .int k] => !isSet (s, k)
      | _ => false) = (R.filter fun a => !isSet a).map tkD := by
    rw [List.filter_map]
    rfl
  rw [e] at q
  exact q
theorem isform_ok (T : Tab) (cK cI : Nat) (hT : Has8 T cK cI) (p : Int) (R : List Tk) (hR : goodR R) (hl : R.length ≤ lineN) : outOf (exSL T (sl_is_form_fb7cc3 cK cI) (startR 2 [.tuple [.int p, .tuple (R.map tkD)]])) = .ret (.bool (isKind (.int p) && (R.all isSet && rising R))) .none := by
  have hk := hT.kd (.int p) rfl
  have im := imm_tks R
  have e2 : PyData.eqv (.int 2) (.int 2) = true := rfl
  unfold sl_is_form_fb7cc3
  cases q : isKind (.int p) with
  | false =>
    rw [q] at hk
    simp [xl_nil, xl_cons, x_set, x_aug, x_app, x_rem, x_ext, x_setT, x_ex, x_ret, x_ret0, x_pass, x_brk, x_cnt, x_if, x_raise, x_try, ev_def, evT_def, ev_v, ev_c, ev_g, ev_bin, ev_neg, ev_cmp, ev_chain, ev_and, ev_or, ev_one, ev_not, ev_ife, ev_ix, ev_sl, ev_rev, ev_tup, ev_lst, ev_call, ev_bi, ev_me, ev_isi, evL_nil, evL_cons, wR, PD.R.bind, PD.RL.bindR, PD.RL.bindN, PD.RI.bindR, PD.R.bindI, PD.RT.bindR, PD.RT.bind, optR, optB, PD.okR, optT, okI, negR, outR, callR, slR, lcR, itD, ofR, PD.R.toS, PD.RT.toS, PD.RI.toS, PD.RA.toS, startR, rd, PD.Rho.at, imm, immL, imm1, tnt, mkT, inOk, argS, giveS, PD.E.asV, PD.EL.one, PD.Sl.of, truth, outOf, bop, cop, ltD, leD, subD, addD, mulD, fdivD, modD, powD, ixop, lenD, biop, put, putTg, putAll, wipeR, PD.E.isOmit, List.map_cons, List.map_nil, List.length_cons, List.length_nil, List.set_cons_zero, List.set_cons_succ, List.set_nil, List.getD_cons_zero, List.getD_cons_succ, List.cons_append, List.nil_append, List.replicate, Option.getD, ownAt, chgS, appD, extD, remD, revD, augI, isTy, killV, killS, eqD, hT.io, hk, sh_int, e2, atN, im]
  | true =>
    rw [q] at hk
    have e3 := lc3_ok T cK cI hT p R hR hl .un
    unfold lc3 at e3
    have so : sortedD [.tuple (R.map tkD)] = some (.list ((R.mergeSort leTk).map tkD)) := by simp [sortedD, sortOk_tks, lay_tks hR, sortD_tks]
    have i2 := imm_tks (R.mergeSort leTk)
    have sh := shT_tks hR
    have sh2 : SeqAt.shaped (.tuple ((R.mergeSort leTk).map tkD)) = true := shT_tks fun a ha => hR a ((List.mergeSort_perm R leTk).mem_iff.mp ha)
    have ee : PyData.eqv (.tuple ((R.mergeSort leTk).map tkD)) (.tuple (R.map tkD)) = rising R := by
      show PyData.eqvAll _ _ = _
      rw [eqvAll_tks]
      rfl
    cases ha : R.all isSet with
    | true =>
      have e4 : R.filter (fun a => !isSet a) = [] := by
        rw [List.filter_eq_nil_iff]
        intro a hm
        have := List.all_eq_true.mp ha a hm
        simp [this]
      rw [e4] at e3
      generalize (R.mergeSort leTk).map tkD = MS at *
      generalize R.map tkD = MR at *
      simp [xl_nil, xl_cons, x_set, x_aug, x_app, x_rem, x_ext, x_setT, x_ex, x_ret, x_ret0, x_pass, x_brk, x_cnt, x_if, x_raise, x_try, ev_def, evT_def, ev_v, ev_c, ev_g, ev_bin, ev_neg, ev_cmp, ev_chain, ev_and, ev_or, ev_one, ev_not, ev_ife, ev_ix, ev_sl, ev_rev, ev_tup, ev_lst, ev_call, ev_bi, ev_me, ev_isi, evL_nil, evL_cons, wR, PD.R.bind, PD.RL.bindR, PD.RL.bindN, PD.RI.bindR, PD.R.bindI, PD.RT.bindR, PD.RT.bind, optR, optB, PD.okR, optT, okI, negR, outR, callR, slR, lcR, itD, ofR, PD.R.toS, PD.RT.toS, PD.RI.toS, PD.RA.toS, startR, rd, PD.Rho.at, imm, immL, imm1, tnt, mkT, inOk, argS, giveS, PD.E.asV, PD.EL.one, PD.Sl.of, truth, outOf, bop, cop, ltD, leD, subD, addD, mulD, fdivD, modD, powD, ixop, lenD, biop, put, putTg, putAll, wipeR, PD.E.isOmit, List.map_cons, List.map_nil, List.length_cons, List.length_nil, List.set_cons_zero, List.set_cons_succ, List.set_nil, List.getD_cons_zero, List.getD_cons_succ, List.cons_append, List.nil_append, List.replicate, Option.getD, ownAt, chgS, appD, extD, remD, revD, augI, isTy, killV, killS, eqD, hT.io, hk, sh_int, e2, atN, im, e3, so, i2, tupleD, sh, sh2, ee]
    | false =>
      have e4 : ((R.filter fun a => !isSet a).map tkD).isEmpty = false := by
        obtain ⟨a, hm, hn⟩ := List.all_eq_false.mp ha
        cases hf : R.filter fun a => !isSet a with
        | nil =>
          have := List.filter_eq_nil_iff.mp hf a hm
          simp at this
          exact absurd this hn
        | cons _ _ => rfl
      generalize (R.filter fun a => !isSet a).map tkD = MF at *
      generalize R.map tkD = MR at *
      simp [xl_nil, xl_cons, x_set, x_aug, x_app, x_rem, x_ext, x_setT, x_ex, x_ret, x_ret0, x_pass, x_brk, x_cnt, x_if, x_raise, x_try, ev_def, evT_def, ev_v, ev_c, ev_g, ev_bin, ev_neg, ev_cmp, ev_chain, ev_and, ev_or, ev_one, ev_not, ev_ife, ev_ix, ev_sl, ev_rev, ev_tup, ev_lst, ev_call, ev_bi, ev_me, ev_isi, evL_nil, evL_cons, wR, PD.R.bind, PD.RL.bindR, PD.RL.bindN, PD.RI.bindR, PD.R.bindI, PD.RT.bindR, PD.RT.bind, optR, optB, PD.okR, optT, okI, negR, outR, callR, slR, lcR, itD, ofR, PD.R.toS, PD.RT.toS, PD.RI.toS, PD.RA.toS, startR, rd, PD.Rho.at, imm, immL, imm1, tnt, mkT, inOk, argS, giveS, PD.E.asV, PD.EL.one, PD.Sl.of, truth, outOf, bop, cop, ltD, leD, subD, addD, mulD, fdivD, modD, powD, ixop, lenD, biop, put, putTg, putAll, wipeR, PD.E.isOmit, List.map_cons, List.map_nil, List.length_cons, List.length_nil, List.set_cons_zero, List.set_cons_succ, List.set_nil, List.getD_cons_zero, List.getD_cons_succ, List.cons_append, List.nil_append, List.replicate, Option.getD, ownAt, chgS, appD, extD, remD, revD, augI, isTy, killV, killS, eqD, hT.io, hk, sh_int, e2, atN, im, e3, e4]
end PL
set_option maxHeartbeats 4000000
namespace PL
open PySem PD PF
/-! ## what is no form -/
inductive NoForm : PyData → Prop where
  | non : NoForm .none
  | lst (xs : List PyData) : NoForm (.list xs)
  | len (p : Int) (R : List Tk) : NoForm (.tuple [.int p, .tuple (R.map tkD), .tuple []])
  | kind (x : PyData) (R : List Tk) : noDict x = true → imm x = true → isKind x = false → NoForm (.tuple [x, .tuple (R.map tkD)])
  | inner (p : Int) (R : List Tk) : NoForm (.tuple [.int p, .list (R.map tkD)])
theorem noform_ok (T : Tab) (cK cI : Nat) (hT : Has8 T cK cI) (d : PyData) (h : NoForm d) : outOf (exSL T (sl_is_form_fb7cc3 cK cI) (startR 2 [d])) = .ret (.bool false) .none := by
  have e2 : PyData.eqv (.int 2) (.int 2) = true := rfl
  unfold sl_is_form_fb7cc3
  cases h with
  | non => simp [xl_nil, xl_cons, x_set, x_aug, x_app, x_rem, x_ext, x_setT, x_ex, x_ret, x_ret0, x_pass, x_brk, x_cnt, x_if, x_raise, x_try, ev_def, evT_def, ev_v, ev_c, ev_g, ev_bin, ev_neg, ev_cmp, ev_chain, ev_and, ev_or, ev_one, ev_not, ev_ife, ev_ix, ev_sl, ev_rev, ev_tup, ev_lst, ev_call, ev_bi, ev_me, ev_isi, evL_nil, evL_cons, wR, PD.R.bind, PD.RL.bindR, PD.RL.bindN, PD.RI.bindR, PD.R.bindI, PD.RT.bindR, PD.RT.bind, optR, optB, PD.okR, optT, okI, negR, outR, callR, slR, lcR, itD, ofR, PD.R.toS, PD.RT.toS, PD.RI.toS, PD.RA.toS, startR, rd, PD.Rho.at, imm, immL, imm1, tnt, mkT, inOk, argS, giveS, PD.E.asV, PD.EL.one, PD.Sl.of, truth, outOf, bop, cop, ltD, leD, subD, addD, mulD, fdivD, modD, powD, ixop, lenD, biop, put, putTg, putAll, wipeR, PD.E.isOmit, List.map_cons, List.map_nil, List.length_cons, List.length_nil, List.set_cons_zero, List.set_cons_succ, List.set_nil, List.getD_cons_zero, List.getD_cons_succ, List.cons_append, List.nil_append, List.replicate, Option.getD, ownAt, chgS, appD, extD, remD, revD, augI, isTy, killV, killS]
  | lst xs => simp [xl_nil, xl_cons, x_set, x_aug, x_app, x_rem, x_ext, x_setT, x_ex, x_ret, x_ret0, x_pass, x_brk, x_cnt, x_if, x_raise, x_try, ev_def, evT_def, ev_v, ev_c, ev_g, ev_bin, ev_neg, ev_cmp, ev_chain, ev_and, ev_or, ev_one, ev_not, ev_ife, ev_ix, ev_sl, ev_rev, ev_tup, ev_lst, ev_call, ev_bi, ev_me, ev_isi, evL_nil, evL_cons, wR, PD.R.bind, PD.RL.bindR, PD.RL.bindN, PD.RI.bindR, PD.R.bindI, PD.RT.bindR, PD.RT.bind, optR, optB, PD.okR, optT, okI, negR, outR, callR, slR, lcR, itD, ofR, PD.R.toS, PD.RT.toS, PD.RI.toS, PD.RA.toS, startR, rd, PD.Rho.at, imm, immL, imm1, tnt, mkT, inOk, argS, giveS, PD.E.asV, PD.EL.one, PD.Sl.of, truth, outOf, bop, cop, ltD, leD, subD, addD, mulD, fdivD, modD, powD, ixop, lenD, biop, put, putTg, putAll, wipeR, PD.E.isOmit, List.map_cons, List.map_nil, List.length_cons, List.length_nil, List.set_cons_zero, List.set_cons_succ, List.set_nil, List.getD_cons_zero, List.getD_cons_succ, List.cons_append, List.nil_append, List.replicate, Option.getD, ownAt, chgS, appD, extD, remD, revD, augI, isTy, killV, killS]
  | len p R =>
    have im := imm_tks R
    have e3 : PyData.eqv (.int 3) (.int 2) = false := rfl
    generalize R.map tkD = MR at *
    simp [xl_nil, xl_cons, x_set, x_aug, x_app, x_rem, x_ext, x_setT, x_ex, x_ret, x_ret0, x_pass, x_brk, x_cnt, x_if, x_raise, x_try, ev_def, evT_def, ev_v, ev_c, ev_g, ev_bin, ev_neg, ev_cmp, ev_chain, ev_and, ev_or, ev_one, ev_not, ev_ife, ev_ix, ev_sl, ev_rev, ev_tup, ev_lst, ev_call, ev_bi, ev_me, ev_isi, evL_nil, evL_cons, wR, PD.R.bind, PD.RL.bindR, PD.RL.bindN, PD.RI.bindR, PD.R.bindI, PD.RT.bindR, PD.RT.bind, optR, optB, PD.okR, optT, okI, negR, outR, callR, slR, lcR, itD, ofR, PD.R.toS, PD.RT.toS, PD.RI.toS, PD.RA.toS, startR, rd, PD.Rho.at, imm, immL, imm1, tnt, mkT, inOk, argS, giveS, PD.E.asV, PD.EL.one, PD.Sl.of, truth, outOf, bop, cop, ltD, leD, subD, addD, mulD, fdivD, modD, powD, ixop, lenD, biop, put, putTg, putAll, wipeR, PD.E.isOmit, List.map_cons, List.map_nil, List.length_cons, List.length_nil, List.set_cons_zero, List.set_cons_succ, List.set_nil, List.getD_cons_zero, List.getD_cons_succ, List.cons_append, List.nil_append, List.replicate, Option.getD, ownAt, chgS, appD, extD, remD, revD, augI, isTy, killV, killS, im, eqD, sh_int, e3]
  | kind x R h1 h2 h3 =>
    have im := imm_tks R
    have hk := hT.kd x h1
    rw [h3] at hk
    generalize R.map tkD = MR at *
    have i2 : immL [x, .tuple MR] = true := by simp [immL, imm, h2, im]
    simp [xl_nil, xl_cons, x_set, x_aug, x_app, x_rem, x_ext, x_setT, x_ex, x_ret, x_ret0, x_pass, x_brk, x_cnt, x_if, x_raise, x_try, ev_def, evT_def, ev_v, ev_c, ev_g, ev_bin, ev_neg, ev_cmp, ev_chain, ev_and, ev_or, ev_one, ev_not, ev_ife, ev_ix, ev_sl, ev_rev, ev_tup, ev_lst, ev_call, ev_bi, ev_me, ev_isi, evL_nil, evL_cons, wR, PD.R.bind, PD.RL.bindR, PD.RL.bindN, PD.RI.bindR, PD.R.bindI, PD.RT.bindR, PD.RT.bind, optR, optB, PD.okR, optT, okI, negR, outR, callR, slR, lcR, itD, ofR, PD.R.toS, PD.RT.toS, PD.RI.toS, PD.RA.toS, startR, rd, PD.Rho.at, imm, immL, imm1, tnt, mkT, inOk, argS, giveS, PD.E.asV, PD.EL.one, PD.Sl.of, truth, outOf, bop, cop, ltD, leD, subD, addD, mulD, fdivD, modD, powD, ixop, lenD, biop, put, putTg, putAll, wipeR, PD.E.isOmit, List.map_cons, List.map_nil, List.length_cons, List.length_nil, List.set_cons_zero, List.set_cons_succ, List.set_nil, List.getD_cons_zero, List.getD_cons_succ, List.cons_append, List.nil_append, List.replicate, Option.getD, ownAt, chgS, appD, extD, remD, revD, augI, isTy, killV, killS, im, h2, i2, eqD, sh_int, e2, atN, hT.io, hk]
  | inner p R =>
    have hk := hT.kd (.int p) rfl
    have im := imm_tks R
    generalize R.map tkD = MR at *
    cases q : isKind (.int p) with
    | false =>
      rw [q] at hk
      simp [xl_nil, xl_cons, x_set, x_aug, x_app, x_rem, x_ext, x_setT, x_ex, x_ret, x_ret0, x_pass, x_brk, x_cnt, x_if, x_raise, x_try, ev_def, evT_def, ev_v, ev_c, ev_g, ev_bin, ev_neg, ev_cmp, ev_chain, ev_and, ev_or, ev_one, ev_not, ev_ife, ev_ix, ev_sl, ev_rev, ev_tup, ev_lst, ev_call, ev_bi, ev_me, ev_isi, evL_nil, evL_cons, wR, PD.R.bind, PD.RL.bindR, PD.RL.bindN, PD.RI.bindR, PD.R.bindI, PD.RT.bindR, PD.RT.bind, optR, optB, PD.okR, optT, okI, negR, outR, callR, slR, lcR, itD, ofR, PD.R.toS, PD.RT.toS, PD.RI.toS, PD.RA.toS, startR, rd, PD.Rho.at, imm, immL, imm1, tnt, mkT, inOk, argS, giveS, PD.E.asV, PD.EL.one, PD.Sl.of, truth, outOf, bop, cop, ltD, leD, subD, addD, mulD, fdivD, modD, powD, ixop, lenD, biop, put, putTg, putAll, wipeR, PD.E.isOmit, List.map_cons, List.map_nil, List.length_cons, List.length_nil, List.set_cons_zero, List.set_cons_succ, List.set_nil, List.getD_cons_zero, List.getD_cons_succ, List.cons_append, List.nil_append, List.replicate, Option.getD, ownAt, chgS, appD, extD, remD, revD, augI, isTy, killV, killS, im, eqD, sh_int, e2, atN, hT.io, hk]
    | true =>
      rw [q] at hk
      simp [xl_nil, xl_cons, x_set, x_aug, x_app, x_rem, x_ext, x_setT, x_ex, x_ret, x_ret0, x_pass, x_brk, x_cnt, x_if, x_raise, x_try, ev_def, evT_def, ev_v, ev_c, ev_g, ev_bin, ev_neg, ev_cmp, ev_chain, ev_and, ev_or, ev_one, ev_not, ev_ife, ev_ix, ev_sl, ev_rev, ev_tup, ev_lst, ev_call, ev_bi, ev_me, ev_isi, evL_nil, evL_cons, wR, PD.R.bind, PD.RL.bindR, PD.RL.bindN, PD.RI.bindR, PD.R.bindI, PD.RT.bindR, PD.RT.bind, optR, optB, PD.okR, optT, okI, negR, outR, callR, slR, lcR, itD, ofR, PD.R.toS, PD.RT.toS, PD.RI.toS, PD.RA.toS, startR, rd, PD.Rho.at, imm, immL, imm1, tnt, mkT, inOk, argS, giveS, PD.E.asV, PD.EL.one, PD.Sl.of, truth, outOf, bop, cop, ltD, leD, subD, addD, mulD, fdivD, modD, powD, ixop, lenD, biop, put, putTg, putAll, wipeR, PD.E.isOmit, List.map_cons, List.map_nil, List.length_cons, List.length_nil, List.set_cons_zero, List.set_cons_succ, List.set_nil, List.getD_cons_zero, List.getD_cons_succ, List.cons_append, List.nil_append, List.replicate, Option.getD, ownAt, chgS, appD, extD, remD, revD, augI, isTy, killV, killS, im, eqD, sh_int, e2, atN, hT.io, hk]
def tilesR (R : List Tk) : List Int := R.flatMap tilesOf
theorem tiles_le (a : Tk) : (tilesOf a).length ≤ 3 := by
  unfold tilesOf
  split
  · simp
  · split <;> simp
def bodyT (cT : Nat) : SL := (.cons (.mut .extend 1 (.cons (.call cT (.cons (.v 2) .nil)) .nil)) .nil)
theorem loopT (T : Tab) (cT : Nat) (io : ∀ f, T.io f = false) (ht : ∀ a : Tk, okS a.1 → T.fn cT [tkD a] = .ret (.list ((tilesOf a).map .int)) .none) (d0 : PyData) (t : Tn) : ∀ (R : List Tk) (F : List Int) (s2 : Sl), goodR R → F.length + 3 * R.length < 1000 → killS 1 s2 = s2 →
    ∃ s2', forL (exSL T (bodyT cT)) (.one 2) t (R.map tkD) [.own d0, .own (.list (F.map .int)), s2] = .nx [.own d0, .own (.list ((F ++ tilesR R).map .int)), s2']
  | [], F, s2, _, _, _ => ⟨s2, by simp [forL, tilesR]⟩
  | a :: R, F, s2, hR, hl, hk => by
    simp only [List.length_cons] at hl
    have hta := ht a (hR a (by simp))
    have tl := tiles_le a
    obtain ⟨s2', ih⟩ := loopT T cT io ht d0 t R (F ++ tilesOf a) (.own (tkD a)) (fun b hb => hR b (List.mem_cons_of_mem _ hb)) (by rw [List.length_append]; omega) rfl
    refine ⟨s2', ?_⟩
    have pt : ∀ tt : Tn, putTg [.own d0, .own (.list (F.map .int)), s2] (.one 2) (tkD a) tt = some [.own d0, .own (.list (F.map .int)), .own (tkD a)] := fun tt => by
      simp [putTg, put, imm, immL, tkD]
    have l : F.length + (tilesOf a).length ≤ lineN := by unfold lineN; omega
    have e : F.map PyData.int ++ (tilesOf a).map .int = (F ++ tilesOf a).map .int := by simp
    have i1 := immL_int (tilesOf a)
    have step : exSL T (bodyT cT) [.own d0, .own (.list (F.map .int)), .own (tkD a)] = .nx [.own d0, .own (.list ((F ++ tilesOf a).map .int)), .own (tkD a)] := by
      have l' : (F.map PyData.int).length + ((tilesOf a).map PyData.int).length ≤ lineN := by simpa using l
      unfold bodyT
      generalize F ++ tilesOf a = FF at e ⊢
      generalize (tilesOf a).map PyData.int = MT at *
      have it : imm (tkD a) = true := rfl
      generalize tkD a = td at *
      have l2 : F.length + MT.length ≤ lineN := by simpa using l'
      simp [xl_nil, xl_cons, x_set, x_aug, x_app, x_rem, x_ext, x_setT, x_ex, x_ret, x_ret0, x_pass, x_brk, x_cnt, x_if, x_raise, x_try, ev_def, evT_def, ev_v, ev_c, ev_g, ev_bin, ev_neg, ev_cmp, ev_chain, ev_and, ev_or, ev_one, ev_not, ev_ife, ev_ix, ev_sl, ev_rev, ev_tup, ev_lst, ev_call, ev_bi, ev_me, ev_isi, evL_nil, evL_cons, wR, PD.R.bind, PD.RL.bindR, PD.RL.bindN, PD.RI.bindR, PD.R.bindI, PD.RT.bindR, PD.RT.bind, optR, optB, PD.okR, optT, okI, negR, outR, callR, slR, lcR, itD, ofR, PD.R.toS, PD.RT.toS, PD.RI.toS, PD.RA.toS, startR, rd, PD.Rho.at, imm, immL, imm1, tnt, mkT, inOk, argS, giveS, PD.E.asV, PD.EL.one, PD.Sl.of, truth, outOf, bop, cop, ltD, leD, subD, addD, mulD, fdivD, modD, powD, ixop, lenD, biop, put, putTg, putAll, wipeR, PD.E.isOmit, List.map_cons, List.map_nil, List.length_cons, List.length_nil, List.set_cons_zero, List.set_cons_succ, List.set_nil, List.getD_cons_zero, List.getD_cons_succ, List.cons_append, List.nil_append, List.replicate, Option.getD, ownAt, chgS, appD, extD, remD, revD, augI, isTy, killV, killS, io, hta, it, i1, l2, e]
    rw [List.map_cons, forL, pt]
    dsimp only
    rw [step]
    dsimp only
    rw [ih]
    simp [tilesR]
theorem tilesin_ok (T : Tab) (cT : Nat) (io : ∀ f, T.io f = false) (ht : ∀ a : Tk, okS a.1 → T.fn cT [tkD a] = .ret (.list ((tilesOf a).map .int)) .none) (p : Int) (R : List Tk) (hR : goodR R) (hl : R.length < 100) :
    outOf (exSL T (sl_tiles_in_0e21f6 cT) (startR 3 [.tuple [.int p, .tuple (R.map tkD)]])) = .ret (.tuple ((srt (p :: p :: tilesR R)).map .int)) .none := by
  have im := imm_tks R
  have l2 : 2 ≤ lineN := by decide
  obtain ⟨s2, lp⟩ := loopT T cT io ht (.tuple [.int p, .tuple (R.map tkD)]) none R [p, p] .un hR (by simp; omega) rfl
  have fo : exS T (.for_ (.one 2) (.ex (.ix (.v 0) (.c (.int 1)))) (bodyT cT)) [.own (.tuple [.int p, .tuple (R.map tkD)]), .own (.list [.int p, .int p]), .un] = .nx [.own (.tuple [.int p, .tuple (R.map tkD)]), .own (.list ((p :: p :: tilesR R).map .int)), s2] := by
    rw [x_for]
    have ei : evI T (.ex (.ix (.v 0) (.c (.int 1)))) [.own (.tuple [.int p, .tuple (R.map tkD)]), .own (.list [.int p, .int p]), .un] = .ok (R.map tkD) none := by
      simp [xl_nil, xl_cons, x_set, x_aug, x_app, x_rem, x_ext, x_setT, x_ex, x_ret, x_ret0, x_pass, x_brk, x_cnt, x_if, x_raise, x_try, ev_def, evT_def, ev_v, ev_c, ev_g, ev_bin, ev_neg, ev_cmp, ev_chain, ev_and, ev_or, ev_one, ev_not, ev_ife, ev_ix, ev_sl, ev_rev, ev_tup, ev_lst, ev_call, ev_bi, ev_me, ev_isi, evL_nil, evL_cons, wR, PD.R.bind, PD.RL.bindR, PD.RL.bindN, PD.RI.bindR, PD.R.bindI, PD.RT.bindR, PD.RT.bind, optR, optB, PD.okR, optT, okI, negR, outR, callR, slR, lcR, itD, ofR, PD.R.toS, PD.RT.toS, PD.RI.toS, PD.RA.toS, startR, rd, PD.Rho.at, imm, immL, imm1, tnt, mkT, inOk, argS, giveS, PD.E.asV, PD.EL.one, PD.Sl.of, truth, outOf, bop, cop, ltD, leD, subD, addD, mulD, fdivD, modD, powD, ixop, lenD, biop, put, putTg, putAll, wipeR, PD.E.isOmit, List.map_cons, List.map_nil, List.length_cons, List.length_nil, List.set_cons_zero, List.set_cons_succ, List.set_nil, List.getD_cons_zero, List.getD_cons_succ, List.cons_append, List.nil_append, List.replicate, Option.getD, ownAt, chgS, appD, extD, remD, revD, augI, isTy, killV, killS, evI, im, atN]
    rw [ei]
    exact lp
  have so := sorted_listI (p :: p :: tilesR R)
  have is_ := immL_int (srt (p :: p :: tilesR R))
  unfold sl_tiles_in_0e21f6
  unfold bodyT at fo
  generalize (p :: p :: tilesR R).map PyData.int = ML at *
  generalize (srt (p :: p :: tilesR R)).map PyData.int = MS at *
  generalize R.map tkD = MR at *
  simp [xl_nil, xl_cons, x_set, x_aug, x_app, x_rem, x_ext, x_setT, x_ex, x_ret, x_ret0, x_pass, x_brk, x_cnt, x_if, x_raise, x_try, ev_def, evT_def, ev_v, ev_c, ev_g, ev_bin, ev_neg, ev_cmp, ev_chain, ev_and, ev_or, ev_one, ev_not, ev_ife, ev_ix, ev_sl, ev_rev, ev_tup, ev_lst, ev_call, ev_bi, ev_me, ev_isi, evL_nil, evL_cons, wR, PD.R.bind, PD.RL.bindR, PD.RL.bindN, PD.RI.bindR, PD.R.bindI, PD.RT.bindR, PD.RT.bind, optR, optB, PD.okR, optT, okI, negR, outR, callR, slR, lcR, itD, ofR, PD.R.toS, PD.RT.toS, PD.RI.toS, PD.RA.toS, startR, rd, PD.Rho.at, imm, immL, imm1, tnt, mkT, inOk, argS, giveS, PD.E.asV, PD.EL.one, PD.Sl.of, truth, outOf, bop, cop, ltD, leD, subD, addD, mulD, fdivD, modD, powD, ixop, lenD, biop, put, putTg, putAll, wipeR, PD.E.isOmit, List.map_cons, List.map_nil, List.length_cons, List.length_nil, List.set_cons_zero, List.set_cons_succ, List.set_nil, List.getD_cons_zero, List.getD_cons_succ, List.cons_append, List.nil_append, List.replicate, Option.getD, ownAt, chgS, appD, extD, remD, revD, augI, isTy, killV, killS, im, atN, l2, fo, so, is_, tupleD]
structure Has9 (T : Tab) (cC cT cF : Nat) : Prop where
  io : ∀ f, T.io f = false
  ck : ∀ ns : List Int, isHand ns = true → T.fn cC [.tuple (ns.map .int)] = .ret (.tuple (ns.map .int)) .none
  fm : ∀ (p : Int) (R : List Tk), goodR R → R.length < 100 → T.fn cF [.tuple [.int p, .tuple (R.map tkD)]] = .ret (.bool (isKind (.int p) && (R.all isSet && rising R))) .none
  nf : ∀ d, NoForm d → T.fn cF [d] = .ret (.bool false) .none
  ti : ∀ (p : Int) (R : List Tk), goodR R → R.length < 100 → T.fn cT [.tuple [.int p, .tuple (R.map tkD)]] = .ret (.tuple ((srt (p :: p :: tilesR R)).map .int)) .none
theorem part_no (T : Tab) (cC cT cF : Nat) (hT : Has9 T cC cT cF) (hs : List Int) (hh : isHand hs = true) (d : PyData) (h : NoForm d) : outOf (exSL T (sl_is_parting_e232ec cC cT cF) (startR 2 [.tuple (hs.map .int), d])) = .ret (.bool false) .none := by
  have c := hT.ck hs hh
  have f := hT.nf d h
  have i0 := immL_int hs
  generalize hs.map PyData.int = MH at *
  unfold sl_is_parting_e232ec
  by_cases im : imm d = true
  · have e : Sl.of d (some []) = .own d := by unfold Sl.of; rw [if_pos im]
    cases d <;> simp [imm] at im <;> simp [xl_nil, xl_cons, x_set, x_aug, x_app, x_rem, x_ext, x_setT, x_ex, x_ret, x_ret0, x_pass, x_brk, x_cnt, x_if, x_raise, x_try, ev_def, evT_def, ev_v, ev_c, ev_g, ev_bin, ev_neg, ev_cmp, ev_chain, ev_and, ev_or, ev_one, ev_not, ev_ife, ev_ix, ev_sl, ev_rev, ev_tup, ev_lst, ev_call, ev_bi, ev_me, ev_isi, evL_nil, evL_cons, wR, PD.R.bind, PD.RL.bindR, PD.RL.bindN, PD.RI.bindR, PD.R.bindI, PD.RT.bindR, PD.RT.bind, optR, optB, PD.okR, optT, okI, negR, outR, callR, slR, lcR, itD, ofR, PD.R.toS, PD.RT.toS, PD.RI.toS, PD.RA.toS, startR, rd, PD.Rho.at, imm, immL, imm1, tnt, mkT, inOk, argS, giveS, PD.E.asV, PD.EL.one, PD.Sl.of, truth, outOf, bop, cop, ltD, leD, subD, addD, mulD, fdivD, modD, powD, ixop, lenD, biop, put, putTg, putAll, wipeR, PD.E.isOmit, List.map_cons, List.map_nil, List.length_cons, List.length_nil, List.set_cons_zero, List.set_cons_succ, List.set_nil, List.getD_cons_zero, List.getD_cons_succ, List.cons_append, List.nil_append, List.replicate, Option.getD, ownAt, chgS, appD, extD, remD, revD, augI, isTy, killV, killS, i0, hT.io, c, f, im]
  · have im : imm d = false := by simpa using im
    cases d <;> simp [imm] at im <;> simp [xl_nil, xl_cons, x_set, x_aug, x_app, x_rem, x_ext, x_setT, x_ex, x_ret, x_ret0, x_pass, x_brk, x_cnt, x_if, x_raise, x_try, ev_def, evT_def, ev_v, ev_c, ev_g, ev_bin, ev_neg, ev_cmp, ev_chain, ev_and, ev_or, ev_one, ev_not, ev_ife, ev_ix, ev_sl, ev_rev, ev_tup, ev_lst, ev_call, ev_bi, ev_me, ev_isi, evL_nil, evL_cons, wR, PD.R.bind, PD.RL.bindR, PD.RL.bindN, PD.RI.bindR, PD.R.bindI, PD.RT.bindR, PD.RT.bind, optR, optB, PD.okR, optT, okI, negR, outR, callR, slR, lcR, itD, ofR, PD.R.toS, PD.RT.toS, PD.RI.toS, PD.RA.toS, startR, rd, PD.Rho.at, imm, immL, imm1, tnt, mkT, inOk, argS, giveS, PD.E.asV, PD.EL.one, PD.Sl.of, truth, outOf, bop, cop, ltD, leD, subD, addD, mulD, fdivD, modD, powD, ixop, lenD, biop, put, putTg, putAll, wipeR, PD.E.isOmit, List.map_cons, List.map_nil, List.length_cons, List.length_nil, List.set_cons_zero, List.set_cons_succ, List.set_nil, List.getD_cons_zero, List.getD_cons_succ, List.cons_append, List.nil_append, List.replicate, Option.getD, ownAt, chgS, appD, extD, remD, revD, augI, isTy, killV, killS, i0, hT.io, c, f, im]
theorem part_ok (T : Tab) (cC cT cF : Nat) (hT : Has9 T cC cT cF) (hs : List Int) (hh : isHand hs = true) (p : Int) (R : List Tk) (hR : goodR R) (hl : R.length < 100) :
    outOf (exSL T (sl_is_parting_e232ec cC cT cF) (startR 2 [.tuple (hs.map .int), .tuple [.int p, .tuple (R.map tkD)]])) = .ret (.bool (isKind (.int p) && (R.all isSet && rising R) && decide (srt (p :: p :: tilesR R) = hs))) .none := by
  have c := hT.ck hs hh
  have f := hT.fm p R hR hl
  have t := hT.ti p R hR hl
  have i0 := immL_int hs
  have im := imm_tks R
  have s1 := shT_int hs
  have s2 := shT_int (srt (p :: p :: tilesR R))
  have ee := eqv_tup (srt (p :: p :: tilesR R)) hs
  have is_ := immL_int (srt (p :: p :: tilesR R))
  generalize (srt (p :: p :: tilesR R)).map PyData.int = MS at *
  generalize hs.map PyData.int = MH at *
  generalize R.map tkD = MR at *
  unfold sl_is_parting_e232ec
  cases q : isKind (.int p) && (R.all isSet && rising R) with
  | false =>
    rw [q] at f
    simp [xl_nil, xl_cons, x_set, x_aug, x_app, x_rem, x_ext, x_setT, x_ex, x_ret, x_ret0, x_pass, x_brk, x_cnt, x_if, x_raise, x_try, ev_def, evT_def, ev_v, ev_c, ev_g, ev_bin, ev_neg, ev_cmp, ev_chain, ev_and, ev_or, ev_one, ev_not, ev_ife, ev_ix, ev_sl, ev_rev, ev_tup, ev_lst, ev_call, ev_bi, ev_me, ev_isi, evL_nil, evL_cons, wR, PD.R.bind, PD.RL.bindR, PD.RL.bindN, PD.RI.bindR, PD.R.bindI, PD.RT.bindR, PD.RT.bind, optR, optB, PD.okR, optT, okI, negR, outR, callR, slR, lcR, itD, ofR, PD.R.toS, PD.RT.toS, PD.RI.toS, PD.RA.toS, startR, rd, PD.Rho.at, imm, immL, imm1, tnt, mkT, inOk, argS, giveS, PD.E.asV, PD.EL.one, PD.Sl.of, truth, outOf, bop, cop, ltD, leD, subD, addD, mulD, fdivD, modD, powD, ixop, lenD, biop, put, putTg, putAll, wipeR, PD.E.isOmit, List.map_cons, List.map_nil, List.length_cons, List.length_nil, List.set_cons_zero, List.set_cons_succ, List.set_nil, List.getD_cons_zero, List.getD_cons_succ, List.cons_append, List.nil_append, List.replicate, Option.getD, ownAt, chgS, appD, extD, remD, revD, augI, isTy, killV, killS, i0, im, hT.io, c, f]
  | true =>
    rw [q] at f
    simp [xl_nil, xl_cons, x_set, x_aug, x_app, x_rem, x_ext, x_setT, x_ex, x_ret, x_ret0, x_pass, x_brk, x_cnt, x_if, x_raise, x_try, ev_def, evT_def, ev_v, ev_c, ev_g, ev_bin, ev_neg, ev_cmp, ev_chain, ev_and, ev_or, ev_one, ev_not, ev_ife, ev_ix, ev_sl, ev_rev, ev_tup, ev_lst, ev_call, ev_bi, ev_me, ev_isi, evL_nil, evL_cons, wR, PD.R.bind, PD.RL.bindR, PD.RL.bindN, PD.RI.bindR, PD.R.bindI, PD.RT.bindR, PD.RT.bind, optR, optB, PD.okR, optT, okI, negR, outR, callR, slR, lcR, itD, ofR, PD.R.toS, PD.RT.toS, PD.RI.toS, PD.RA.toS, startR, rd, PD.Rho.at, imm, immL, imm1, tnt, mkT, inOk, argS, giveS, PD.E.asV, PD.EL.one, PD.Sl.of, truth, outOf, bop, cop, ltD, leD, subD, addD, mulD, fdivD, modD, powD, ixop, lenD, biop, put, putTg, putAll, wipeR, PD.E.isOmit, List.map_cons, List.map_nil, List.length_cons, List.length_nil, List.set_cons_zero, List.set_cons_succ, List.set_nil, List.getD_cons_zero, List.getD_cons_succ, List.cons_append, List.nil_append, List.replicate, Option.getD, ownAt, chgS, appD, extD, remD, revD, augI, isTy, killV, killS, i0, im, is_, hT.io, c, f, t, eqD, s1, s2, ee]
end PL
set_option maxHeartbeats 4000000
namespace PL
open PySem PD PF
/-! ## all rows of sets, as the law finds them -/
def tkL : List Tk := (((List.range 18).map fun (i : Nat) => ((i : Nat) : Int)).filter fun k => decide (k % 6 < 4)).map (fun k => (("run" : Str), k)) ++ ((List.range 21).map fun (i : Nat) => ((i : Nat) : Int)).map fun k => (("three" : Str), k)
theorem setsV_tk : setsV = tkL.map tkD := by rfl
theorem tkL_len : tkL.length = 33 := by decide +kernel
def take3 (ts : List Int) (a : Tk) : List Int := (tilesOf a).foldl List.erase ts
def allG (rec_ : List Int → Nat → List (List Tk)) (ts : List Int) (i : Nat) : List (List Tk) := match tkL[i]? with
  | some a => if (take3 ts a).length + 3 = ts.length then (rec_ (take3 ts a) i).map (a :: ·) else []
  | none => []
def allV : Nat → List Int → Nat → List (List Tk)
  | 0, ts, _ => if ts = [] then [[]] else []
  | n + 1, ts, f => if ts = [] then [[]] else ((List.range (33 - f)).map (f + ·)).flatMap (allG (allV n) ts)
def rowD (R : List Tk) : PyData := .tuple (R.map tkD)
theorem imm_row (R : List Tk) : imm (rowD R) = true := imm_tks R
theorem imm_rows (Rs : List (List Tk)) : immL (Rs.map rowD) = true := by
  rw [immL_iff]
  intro x hx
  obtain ⟨a, _, rfl⟩ := List.mem_map.mp hx
  exact imm_row a
theorem all_small : ∀ (n : Nat) (ts : List Int) (f : Nat), (allV n ts f).length ≤ 33 ^ n ∧ ∀ R ∈ allV n ts f, R.length ≤ n
  | 0, ts, f => by
    unfold allV
    split <;> simp
  | n + 1, ts, f => by
    unfold allV
    split
    · refine ⟨by simp; exact Nat.one_le_pow _ _ (by decide), fun R hR => by simp at hR; subst hR; simp⟩
    · have g : ∀ i, (allG (allV n) ts i).length ≤ 33 ^ n ∧ ∀ R ∈ allG (allV n) ts i, R.length ≤ n + 1 := fun i => by
        unfold allG
        split
        · split
          · obtain ⟨h1, h2⟩ := all_small n (take3 ts ‹Tk›) i
            refine ⟨by simpa using h1, fun R hR => ?_⟩
            obtain ⟨R', hR', rfl⟩ := List.mem_map.mp hR
            have := h2 R' hR'
            simp; omega
          · simp
        · simp
      have sum : ∀ is : List Nat, (is.flatMap (allG (allV n) ts)).length ≤ is.length * 33 ^ n := fun is => by
        induction is with
        | nil => simp
        | cons i is ih =>
          rw [List.flatMap_cons, List.length_append, List.length_cons, Nat.succ_mul]
          have := (g i).1
          omega
      refine ⟨?_, fun R hR => ?_⟩
      · have h := sum ((List.range (33 - f)).map (f + ·))
        simp only [List.length_map, List.length_range] at h
        refine Nat.le_trans h ?_
        rw [Nat.pow_succ, Nat.mul_comm]
        exact Nat.mul_le_mul_left _ (by omega)
      · obtain ⟨i, _, hi⟩ := List.mem_flatMap.mp hR
        exact (g i).2 R hi
structure HasA (T : Tab) (cS cT : Nat) : Prop where
  io : ∀ f, T.io f = false
  sets : T.fn cS [] = .ret (.list setsV) .none
  tl : ∀ a ∈ tkL, T.fn cT [tkD a] = .ret (.list ((tilesOf a).map .int)) .none
def bodyK : SL := (.cons (.ife (.cmp .in_ (.v 6) (.v 5)) (.cons (.mut .remove 5 (.cons (.v 6) .nil)) .nil) .nil) .nil)
def rhoA (ts : List Int) (f : Int) (b c d e g h : Sl) : Rho := [.vw [] (.list (ts.map .int)), .own (.int f), b, c, d, e, g, h]
theorem loopK (T : Tab) (ts : List Int) (f : Int) (B C Dd : PyData) (t : Tn) (h : Sl) (hh : killS 5 h = h) : ∀ (ks : List Int) (r : List Int) (g : Sl), ∃ g', forL (exSL T bodyK) (.one 6) t (ks.map .int) (rhoA ts f (.own B) (.own C) (.own Dd) (.own (.list (r.map .int))) g .un) = .nx (rhoA ts f (.own B) (.own C) (.own Dd) (.own (.list ((ks.foldl List.erase r).map .int))) g' .un)
  | [], r, g => ⟨g, rfl⟩
  | k :: ks, r, g => by
    obtain ⟨g', ih⟩ := loopK T ts f B C Dd t h hh ks (r.erase k) (.own (.int k))
    refine ⟨g', ?_⟩
    have pt : ∀ tt : Tn, putTg (rhoA ts f (.own B) (.own C) (.own Dd) (.own (.list (r.map .int))) g .un) (.one 6) (.int k) tt = some (rhoA ts f (.own B) (.own C) (.own Dd) (.own (.list (r.map .int))) (.own (.int k)) .un) := fun tt => by
      unfold rhoA; simp [putTg, put, imm]
    have step : exSL T bodyK (rhoA ts f (.own B) (.own C) (.own Dd) (.own (.list (r.map .int))) (.own (.int k)) .un) = .nx (rhoA ts f (.own B) (.own C) (.own Dd) (.own (.list ((r.erase k).map .int))) (.own (.int k)) .un) := by
      have ai := any_int r k
      by_cases m : k ∈ r
      · have as := asInts_map r
        unfold bodyK rhoA
        generalize ts.map PyData.int = MT at *
        simp [xl_nil, xl_cons, x_set, x_aug, x_app, x_rem, x_ext, x_setT, x_ex, x_ret, x_ret0, x_pass, x_brk, x_cnt, x_if, x_raise, x_try, ev_def, evT_def, ev_v, ev_c, ev_g, ev_bin, ev_neg, ev_cmp, ev_chain, ev_and, ev_or, ev_one, ev_not, ev_ife, ev_ix, ev_sl, ev_rev, ev_tup, ev_lst, ev_call, ev_bi, ev_me, ev_isi, evL_nil, evL_cons, wR, PD.R.bind, PD.RL.bindR, PD.RL.bindN, PD.RI.bindR, PD.R.bindI, PD.RT.bindR, PD.RT.bind, optR, optB, PD.okR, optT, okI, negR, outR, callR, slR, lcR, itD, ofR, PD.R.toS, PD.RT.toS, PD.RI.toS, PD.RA.toS, startR, rd, PD.Rho.at, imm, immL, imm1, tnt, mkT, inOk, argS, giveS, PD.E.asV, PD.EL.one, PD.Sl.of, truth, outOf, bop, cop, ltD, leD, subD, addD, mulD, fdivD, modD, powD, ixop, lenD, biop, put, putTg, putAll, wipeR, PD.E.isOmit, List.map_cons, List.map_nil, List.length_cons, List.length_nil, List.set_cons_zero, List.set_cons_succ, List.set_nil, List.getD_cons_zero, List.getD_cons_succ, List.cons_append, List.nil_append, List.replicate, Option.getD, ownAt, chgS, appD, extD, remD, revD, augI, isTy, killV, killS, inD, sh_int, shL_int, ai, m, as]
      · have e : r.erase k = r := List.erase_of_not_mem m
        rw [e]
        unfold bodyK rhoA
        generalize ts.map PyData.int = MT at *
        simp [xl_nil, xl_cons, x_set, x_aug, x_app, x_rem, x_ext, x_setT, x_ex, x_ret, x_ret0, x_pass, x_brk, x_cnt, x_if, x_raise, x_try, ev_def, evT_def, ev_v, ev_c, ev_g, ev_bin, ev_neg, ev_cmp, ev_chain, ev_and, ev_or, ev_one, ev_not, ev_ife, ev_ix, ev_sl, ev_rev, ev_tup, ev_lst, ev_call, ev_bi, ev_me, ev_isi, evL_nil, evL_cons, wR, PD.R.bind, PD.RL.bindR, PD.RL.bindN, PD.RI.bindR, PD.R.bindI, PD.RT.bindR, PD.RT.bind, optR, optB, PD.okR, optT, okI, negR, outR, callR, slR, lcR, itD, ofR, PD.R.toS, PD.RT.toS, PD.RI.toS, PD.RA.toS, startR, rd, PD.Rho.at, imm, immL, imm1, tnt, mkT, inOk, argS, giveS, PD.E.asV, PD.EL.one, PD.Sl.of, truth, outOf, bop, cop, ltD, leD, subD, addD, mulD, fdivD, modD, powD, ixop, lenD, biop, put, putTg, putAll, wipeR, PD.E.isOmit, List.map_cons, List.map_nil, List.length_cons, List.length_nil, List.set_cons_zero, List.set_cons_succ, List.set_nil, List.getD_cons_zero, List.getD_cons_succ, List.cons_append, List.nil_append, List.replicate, Option.getD, ownAt, chgS, appD, extD, remD, revD, augI, isTy, killV, killS, inD, sh_int, shL_int, ai, m]
    rw [List.map_cons, forL, pt]
    dsimp only
    rw [step]
    exact ih
end PL
set_option maxHeartbeats 4000000
namespace PL
open PySem PD PF
def ifA (cA : Nat) : S := .ife (.cmp .eq (.bi .len (.cons (.v 5) .nil)) (.bin .sub (.bi .len (.cons (.v 0) .nil)) (.c (.int 3))))
    (.cons (.set 2 (.bin .add (.v 2) (.lc (.bin .add (.tup (.cons (.ix (.v 3) (.v 4)) .nil)) (.v 7)) (.one 7) (.ex (.call cA (.cons (.v 5) (.cons (.v 4) .nil)))) .omit [("_law_row", 7)])))
    .nil)
    .nil
def bodyA (cT cA : Nat) : SL := (.cons (.set 5 (.bi .list (.cons (.v 0) .nil)))
   (.cons (.for_ (.one 6) (.ex (.call cT (.cons (.ix (.v 3) (.v 4)) .nil))) bodyK)
   (.cons (ifA cA) .nil)))
theorem at_sets {i : Nat} {a : Tk} (h : tkL[i]? = some a) : atN setsV (i : Int) = some (tkD a) := by
  unfold atN
  rw [if_pos (by omega), Int.toNat_natCast, setsV_tk, List.getElem?_map, h]
  rfl
theorem ifA_ok (T : Tab) (cA : Nat) (io : ∀ f, T.io f = false) (ts r : List Int) (f : Int) (i : Nat) (a : Tk) (ha : tkL[i]? = some a) (F V : List (List Tk)) (g : Sl) (hF : F.length + V.length ≤ lineN) (hV : ∀ R ∈ V, R.length ≤ 100) (hl : V.length ≤ lineN)
    (hr : r.length + 3 = ts.length → T.fn cA [.list (r.map .int), .int i] = .ret (.list (V.map rowD)) .none) :
    exS T (ifA cA) (rhoA ts f (.own (.list (F.map rowD))) (.own (.list setsV)) (.own (.int i)) (.own (.list (r.map .int))) g .un) =
      .nx (rhoA ts f (.own (.list ((F ++ if r.length + 3 = ts.length then V.map (a :: ·) else []).map rowD))) (.own (.list setsV)) (.own (.int i)) (.own (.list (r.map .int))) g .un) := by
  have at1 := at_sets ha
  by_cases h : r.length + 3 = ts.length
  · have hq := hr h
    have i1 := imm_rows V
    have e := lc_ev (T := T) (elt := .bin .add (.tup (.cons (.ix (.v 3) (.v 4)) .nil)) (.v 7)) (tg := .one 7) (it := .ex (.call cA (.cons (.v 5) (.cons (.v 4) .nil)))) (cond := .omit) (own := [("_law_row", 7)])
      (ρ := rhoA ts f (.own (.list (F.map rowD))) (.own (.list setsV)) (.own (.int i)) (.own (.list (r.map .int))) g .un) (ds := V.map rowD) (t := none) (fun _ => true) (fun d => match d with
        | .tuple xs => .tuple (tkD a :: xs)
        | d => d) (by
        unfold rhoA
        generalize r.map PyData.int = MR at *
        generalize setsV = SV at *
        simp [xl_nil, xl_cons, x_set, x_aug, x_app, x_rem, x_ext, x_setT, x_ex, x_ret, x_ret0, x_pass, x_brk, x_cnt, x_if, x_raise, x_try, ev_def, evT_def, ev_v, ev_c, ev_g, ev_bin, ev_neg, ev_cmp, ev_chain, ev_and, ev_or, ev_one, ev_not, ev_ife, ev_ix, ev_sl, ev_rev, ev_tup, ev_lst, ev_call, ev_bi, ev_me, ev_isi, evL_nil, evL_cons, wR, PD.R.bind, PD.RL.bindR, PD.RL.bindN, PD.RI.bindR, PD.R.bindI, PD.RT.bindR, PD.RT.bind, optR, optB, PD.okR, optT, okI, negR, outR, callR, slR, lcR, itD, ofR, PD.R.toS, PD.RT.toS, PD.RI.toS, PD.RA.toS, startR, rd, PD.Rho.at, imm, immL, imm1, tnt, mkT, inOk, argS, giveS, PD.E.asV, PD.EL.one, PD.Sl.of, truth, outOf, bop, cop, ltD, leD, subD, addD, mulD, fdivD, modD, powD, ixop, lenD, biop, put, putTg, putAll, wipeR, PD.E.isOmit, List.map_cons, List.map_nil, List.length_cons, List.length_nil, List.set_cons_zero, List.set_cons_succ, List.set_nil, List.getD_cons_zero, List.getD_cons_succ, List.cons_append, List.nil_append, List.replicate, Option.getD, ownAt, chgS, appD, extD, remD, revD, augI, isTy, killV, killS, evI, io, hq, i1]) (fun d hd => by
        obtain ⟨R, hR, rfl⟩ := List.mem_map.mp hd
        have ir := imm_tks R
        refine ⟨rhoA ts f (.own (.list (F.map rowD))) (.own (.list setsV)) (.own (.int i)) (.own (.list (r.map .int))) g (.own (rowD R)), by unfold rhoA; simp [putTg, put, wipeR, imm_row], by simp [E.isOmit], fun _ => ?_⟩
        have lR : R.length + 1 ≤ lineN := by have := hV R hR; unfold lineN; omega
        have l1 : 1 ≤ lineN := by decide
        have ia : imm (tkD a) = true := rfl
        have ii : immL (tkD a :: R.map tkD) = true := by simp [immL, ia, ir]
        have l2 : 1 + (R.map tkD).length ≤ lineN := by simp; omega
        unfold rhoA rowD
        generalize R.map tkD = MR at *
        generalize tkD a = td at *
        generalize setsV = SV at *
        simp [xl_nil, xl_cons, x_set, x_aug, x_app, x_rem, x_ext, x_setT, x_ex, x_ret, x_ret0, x_pass, x_brk, x_cnt, x_if, x_raise, x_try, ev_def, evT_def, ev_v, ev_c, ev_g, ev_bin, ev_neg, ev_cmp, ev_chain, ev_and, ev_or, ev_one, ev_not, ev_ife, ev_ix, ev_sl, ev_rev, ev_tup, ev_lst, ev_call, ev_bi, ev_me, ev_isi, evL_nil, evL_cons, wR, PD.R.bind, PD.RL.bindR, PD.RL.bindN, PD.RI.bindR, PD.R.bindI, PD.RT.bindR, PD.RT.bind, optR, optB, PD.okR, optT, okI, negR, outR, callR, slR, lcR, itD, ofR, PD.R.toS, PD.RT.toS, PD.RI.toS, PD.RA.toS, startR, rd, PD.Rho.at, imm, immL, imm1, tnt, mkT, inOk, argS, giveS, PD.E.asV, PD.EL.one, PD.Sl.of, truth, outOf, bop, cop, ltD, leD, subD, addD, mulD, fdivD, modD, powD, ixop, lenD, biop, put, putTg, putAll, wipeR, PD.E.isOmit, List.map_cons, List.map_nil, List.length_cons, List.length_nil, List.set_cons_zero, List.set_cons_succ, List.set_nil, List.getD_cons_zero, List.getD_cons_succ, List.cons_append, List.nil_append, List.replicate, Option.getD, ownAt, chgS, appD, extD, remD, revD, augI, isTy, killV, killS, at1, ia, ir, ii, l1, l2]) (by simpa using hl)
    rw [List.filter_eq_self.mpr (fun _ _ => rfl)] at e
    have e2 : (V.map rowD).map (fun d => match d with
        | .tuple xs => .tuple (tkD a :: xs)
        | d => d) = (V.map (a :: ·)).map rowD := by
      rw [List.map_map, List.map_map]
      rfl
    rw [e2] at e
    rw [if_pos h]
    have q : ((r.length : Int) == (ts.length : Int) - 3) = true := by simp; omega
    have i2 := imm_rows (F ++ V.map (a :: ·))
    have e3 : F.map rowD ++ (V.map (a :: ·)).map rowD = (F ++ V.map (a :: ·)).map rowD := by simp
    have l3 : (F.map rowD).length + ((V.map (a :: ·)).map rowD).length ≤ lineN := by simpa using hF
    have q2 : ((r.map PyData.int).length : Int) = (r.length : Int) := by simp
    have q3 : ((ts.map PyData.int).length : Int) = (ts.length : Int) := by simp
    unfold ifA
    unfold rhoA at e ⊢
    generalize (V.map (a :: ·)).map rowD = MV at *
    generalize (F ++ V.map (a :: ·)).map rowD = MFV at *
    generalize F.map rowD = MF at *
    generalize r.map PyData.int = MR at *
    generalize ts.map PyData.int = MT at *
    generalize setsV = SV at *
    simp [xl_nil, xl_cons, x_set, x_aug, x_app, x_rem, x_ext, x_setT, x_ex, x_ret, x_ret0, x_pass, x_brk, x_cnt, x_if, x_raise, x_try, ev_def, evT_def, ev_v, ev_c, ev_g, ev_bin, ev_neg, ev_cmp, ev_chain, ev_and, ev_or, ev_one, ev_not, ev_ife, ev_ix, ev_sl, ev_rev, ev_tup, ev_lst, ev_call, ev_bi, ev_me, ev_isi, evL_nil, evL_cons, wR, PD.R.bind, PD.RL.bindR, PD.RL.bindN, PD.RI.bindR, PD.R.bindI, PD.RT.bindR, PD.RT.bind, optR, optB, PD.okR, optT, okI, negR, outR, callR, slR, lcR, itD, ofR, PD.R.toS, PD.RT.toS, PD.RI.toS, PD.RA.toS, startR, rd, PD.Rho.at, imm, immL, imm1, tnt, mkT, inOk, argS, giveS, PD.E.asV, PD.EL.one, PD.Sl.of, truth, outOf, bop, cop, ltD, leD, subD, addD, mulD, fdivD, modD, powD, ixop, lenD, biop, put, putTg, putAll, wipeR, PD.E.isOmit, List.map_cons, List.map_nil, List.length_cons, List.length_nil, List.set_cons_zero, List.set_cons_succ, List.set_nil, List.getD_cons_zero, List.getD_cons_succ, List.cons_append, List.nil_append, List.replicate, Option.getD, ownAt, chgS, appD, extD, remD, revD, augI, isTy, killV, killS, eqD, sh_int, PyData.eqv, q2, q3, q, e, l3, e3, i2]
  · rw [if_neg h, List.append_nil]
    have q : ((r.length : Int) == (ts.length : Int) - 3) = false := by simp; omega
    have q2 : ((r.map PyData.int).length : Int) = (r.length : Int) := by simp
    have q3 : ((ts.map PyData.int).length : Int) = (ts.length : Int) := by simp
    unfold ifA rhoA
    generalize r.map PyData.int = MR at *
    generalize ts.map PyData.int = MT at *
    generalize setsV = SV at *
    simp [xl_nil, xl_cons, x_set, x_aug, x_app, x_rem, x_ext, x_setT, x_ex, x_ret, x_ret0, x_pass, x_brk, x_cnt, x_if, x_raise, x_try, ev_def, evT_def, ev_v, ev_c, ev_g, ev_bin, ev_neg, ev_cmp, ev_chain, ev_and, ev_or, ev_one, ev_not, ev_ife, ev_ix, ev_sl, ev_rev, ev_tup, ev_lst, ev_call, ev_bi, ev_me, ev_isi, evL_nil, evL_cons, wR, PD.R.bind, PD.RL.bindR, PD.RL.bindN, PD.RI.bindR, PD.R.bindI, PD.RT.bindR, PD.RT.bind, optR, optB, PD.okR, optT, okI, negR, outR, callR, slR, lcR, itD, ofR, PD.R.toS, PD.RT.toS, PD.RI.toS, PD.RA.toS, startR, rd, PD.Rho.at, imm, immL, imm1, tnt, mkT, inOk, argS, giveS, PD.E.asV, PD.EL.one, PD.Sl.of, truth, outOf, bop, cop, ltD, leD, subD, addD, mulD, fdivD, modD, powD, ixop, lenD, biop, put, putTg, putAll, wipeR, PD.E.isOmit, List.map_cons, List.map_nil, List.length_cons, List.length_nil, List.set_cons_zero, List.set_cons_succ, List.set_nil, List.getD_cons_zero, List.getD_cons_succ, List.cons_append, List.nil_append, List.replicate, Option.getD, ownAt, chgS, appD, extD, remD, revD, augI, isTy, killV, killS, eqD, sh_int, PyData.eqv, q2, q3, q]
theorem bodyA_ok (T : Tab) (cS cT cA : Nat) (hT : HasA T cS cT) (rec_ : List Int → Nat → List (List Tk)) (ts : List Int) (f : Int) (i : Nat) (hi : i < 33) (F : List (List Tk)) (s5 s6 : Sl)
    (hF : F.length + 40000 ≤ lineN) (hr : ∀ r : List Int, r.length + 3 = ts.length → T.fn cA [.list (r.map .int), .int i] = .ret (.list ((rec_ r i).map rowD)) .none ∧ (rec_ r i).length ≤ 40000 ∧ ∀ R ∈ rec_ r i, R.length ≤ 100) :
    ∃ s5' s6', exSL T (bodyA cT cA) (rhoA ts f (.own (.list (F.map rowD))) (.own (.list setsV)) (.own (.int i)) s5 s6 .un) = .nx (rhoA ts f (.own (.list ((F ++ allG rec_ ts i).map rowD))) (.own (.list setsV)) (.own (.int i)) s5' s6' .un) := by
  obtain ⟨a, ha⟩ : ∃ a, tkL[i]? = some a := ⟨_, List.getElem?_eq_getElem (by rw [tkL_len]; exact hi)⟩
  have hm : a ∈ tkL := List.mem_of_getElem? ha
  have ht := hT.tl a hm
  have at1 := at_sets ha
  obtain ⟨g', lk⟩ := loopK T ts f (.list (F.map rowD)) (.list setsV) (.int i) none .un rfl (tilesOf a) ts s6
  have e1 : exS T (.set 5 (.bi .list (.cons (.v 0) .nil))) (rhoA ts f (.own (.list (F.map rowD))) (.own (.list setsV)) (.own (.int i)) s5 s6 .un) = .nx (rhoA ts f (.own (.list (F.map rowD))) (.own (.list setsV)) (.own (.int i)) (.own (.list (ts.map .int))) s6 .un) := by
    have i0 := immL_int ts
    unfold rhoA
    generalize ts.map PyData.int = MT at *
    generalize setsV = SV at *
    simp [xl_nil, xl_cons, x_set, x_aug, x_app, x_rem, x_ext, x_setT, x_ex, x_ret, x_ret0, x_pass, x_brk, x_cnt, x_if, x_raise, x_try, ev_def, evT_def, ev_v, ev_c, ev_g, ev_bin, ev_neg, ev_cmp, ev_chain, ev_and, ev_or, ev_one, ev_not, ev_ife, ev_ix, ev_sl, ev_rev, ev_tup, ev_lst, ev_call, ev_bi, ev_me, ev_isi, evL_nil, evL_cons, wR, PD.R.bind, PD.RL.bindR, PD.RL.bindN, PD.RI.bindR, PD.R.bindI, PD.RT.bindR, PD.RT.bind, optR, optB, PD.okR, optT, okI, negR, outR, callR, slR, lcR, itD, ofR, PD.R.toS, PD.RT.toS, PD.RI.toS, PD.RA.toS, startR, rd, PD.Rho.at, imm, immL, imm1, tnt, mkT, inOk, argS, giveS, PD.E.asV, PD.EL.one, PD.Sl.of, truth, outOf, bop, cop, ltD, leD, subD, addD, mulD, fdivD, modD, powD, ixop, lenD, biop, put, putTg, putAll, wipeR, PD.E.isOmit, List.map_cons, List.map_nil, List.length_cons, List.length_nil, List.set_cons_zero, List.set_cons_succ, List.set_nil, List.getD_cons_zero, List.getD_cons_succ, List.cons_append, List.nil_append, List.replicate, Option.getD, ownAt, chgS, appD, extD, remD, revD, augI, isTy, killV, killS, listD, i0]
  have e2 : exS T (.for_ (.one 6) (.ex (.call cT (.cons (.ix (.v 3) (.v 4)) .nil))) bodyK) (rhoA ts f (.own (.list (F.map rowD))) (.own (.list setsV)) (.own (.int i)) (.own (.list (ts.map .int))) s6 .un) = .nx (rhoA ts f (.own (.list (F.map rowD))) (.own (.list setsV)) (.own (.int i)) (.own (.list ((take3 ts a).map .int))) g' .un) := by
    rw [x_for]
    have ei : evI T (.ex (.call cT (.cons (.ix (.v 3) (.v 4)) .nil))) (rhoA ts f (.own (.list (F.map rowD))) (.own (.list setsV)) (.own (.int i)) (.own (.list (ts.map .int))) s6 .un) = .ok ((tilesOf a).map .int) none := by
      have ia : imm (tkD a) = true := rfl
      have i0 := immL_int (tilesOf a)
      unfold rhoA
      generalize ts.map PyData.int = MT at *
      generalize (tilesOf a).map PyData.int = MA at *
      generalize tkD a = td at *
      generalize setsV = SV at *
      simp [xl_nil, xl_cons, x_set, x_aug, x_app, x_rem, x_ext, x_setT, x_ex, x_ret, x_ret0, x_pass, x_brk, x_cnt, x_if, x_raise, x_try, ev_def, evT_def, ev_v, ev_c, ev_g, ev_bin, ev_neg, ev_cmp, ev_chain, ev_and, ev_or, ev_one, ev_not, ev_ife, ev_ix, ev_sl, ev_rev, ev_tup, ev_lst, ev_call, ev_bi, ev_me, ev_isi, evL_nil, evL_cons, wR, PD.R.bind, PD.RL.bindR, PD.RL.bindN, PD.RI.bindR, PD.R.bindI, PD.RT.bindR, PD.RT.bind, optR, optB, PD.okR, optT, okI, negR, outR, callR, slR, lcR, itD, ofR, PD.R.toS, PD.RT.toS, PD.RI.toS, PD.RA.toS, startR, rd, PD.Rho.at, imm, immL, imm1, tnt, mkT, inOk, argS, giveS, PD.E.asV, PD.EL.one, PD.Sl.of, truth, outOf, bop, cop, ltD, leD, subD, addD, mulD, fdivD, modD, powD, ixop, lenD, biop, put, putTg, putAll, wipeR, PD.E.isOmit, List.map_cons, List.map_nil, List.length_cons, List.length_nil, List.set_cons_zero, List.set_cons_succ, List.set_nil, List.getD_cons_zero, List.getD_cons_succ, List.cons_append, List.nil_append, List.replicate, Option.getD, ownAt, chgS, appD, extD, remD, revD, augI, isTy, killV, killS, evI, hT.io, at1, ia, ht, i0]
    rw [ei]
    exact lk
  refine ⟨.own (.list ((take3 ts a).map .int)), g', ?_⟩
  have e3 := ifA_ok T cA hT.io ts (take3 ts a) f i a ha F (if (take3 ts a).length + 3 = ts.length then rec_ (take3 ts a) i else []) g' (by
    split
    · have := (hr _ (by assumption)).2.1; omega
    · simp; omega) (fun R hR => by
    split at hR
    · exact (hr _ (by assumption)).2.2 R hR
    · simp at hR) (by
    split
    · have := (hr _ (by assumption)).2.1; unfold lineN; omega
    · simp) (fun h => by rw [if_pos h]; exact (hr _ h).1)
  have e4 : (if (take3 ts a).length + 3 = ts.length then (if (take3 ts a).length + 3 = ts.length then rec_ (take3 ts a) i else []).map (a :: ·) else []) = allG rec_ ts i := by
    unfold allG
    rw [ha]
    by_cases h : (take3 ts a).length + 3 = ts.length
    · simp [h]
    · simp [h]
  rw [e4] at e3
  unfold bodyA
  simp only [xl_cons, xl_nil, e1, e2, e3]
end PL
set_option maxHeartbeats 4000000
namespace PL
open PySem PD PF
theorem allG_len (rec_ : List Int → Nat → List (List Tk)) (ts : List Int) (i : Nat) (hr : ∀ r : List Int, r.length + 3 = ts.length → (rec_ r i).length ≤ 1100) : (allG rec_ ts i).length ≤ 1100 := by
  unfold allG
  split
  · split
    · rename_i h
      simpa using hr _ h
    · simp
  · simp
theorem loopA (T : Tab) (cS cT cA : Nat) (hT : HasA T cS cT) (rec_ : List Int → Nat → List (List Tk)) (ts : List Int) (f : Int) (t : Tn)
    (hr : ∀ (i : Nat), i < 33 → ∀ r : List Int, r.length + 3 = ts.length → T.fn cA [.list (r.map .int), .int i] = .ret (.list ((rec_ r i).map rowD)) .none ∧ (rec_ r i).length ≤ 1100 ∧ ∀ R ∈ rec_ r i, R.length ≤ 100) :
    ∀ (is : List Nat) (F : List (List Tk)) (s4 s5 s6 : Sl), (∀ i ∈ is, i < 33) → F.length + 1100 * is.length ≤ 100000 →
    ∃ s4' s5' s6', forL (exSL T (bodyA cT cA)) (.one 4) t (is.map fun i => .int (i : Nat)) (rhoA ts f (.own (.list (F.map rowD))) (.own (.list setsV)) s4 s5 s6 .un) = .nx (rhoA ts f (.own (.list ((F ++ is.flatMap (allG rec_ ts)).map rowD))) (.own (.list setsV)) s4' s5' s6' .un)
  | [], F, s4, s5, s6, _, _ => ⟨s4, s5, s6, by simp [forL]⟩
  | i :: is, F, s4, s5, s6, hi, hl => by
    simp only [List.length_cons] at hl
    have hi0 := hi i (by simp)
    obtain ⟨s5', s6', st⟩ := bodyA_ok T cS cT cA hT rec_ ts f i hi0 F s5 s6 (by unfold lineN; omega) (fun r h => ⟨(hr i hi0 r h).1, by have := (hr i hi0 r h).2.1; omega, (hr i hi0 r h).2.2⟩)
    have gl := allG_len rec_ ts i fun r h => (hr i hi0 r h).2.1
    obtain ⟨a, b, c, ih⟩ := loopA T cS cT cA hT rec_ ts f t hr is (F ++ allG rec_ ts i) (.own (.int i)) s5' s6' (fun j hj => hi j (List.mem_cons_of_mem _ hj)) (by rw [List.length_append]; omega)
    refine ⟨a, b, c, ?_⟩
    have pt : ∀ tt : Tn, putTg (rhoA ts f (.own (.list (F.map rowD))) (.own (.list setsV)) s4 s5 s6 .un) (.one 4) (.int (i : Nat)) tt = some (rhoA ts f (.own (.list (F.map rowD))) (.own (.list setsV)) (.own (.int i)) s5 s6 .un) := fun tt => by
      unfold rhoA; simp [putTg, put, imm]
    rw [List.map_cons, forL, pt]
    dsimp only
    rw [st]
    dsimp only
    rw [ih, List.flatMap_cons, List.append_assoc]
theorem range33 (f : Nat) (hf : f ≤ 33) : rangeL (f : Int) 33 = ((List.range (33 - f)).map (f + ·)).map fun i => .int (i : Nat) := by
  unfold rangeL
  have : ((33 : Int) - f).toNat = 33 - f := by omega
  rw [this, List.map_map]
  refine List.map_congr_left fun i _ => ?_
  simp
theorem rangeOk33 (f : Nat) (hf : f ≤ 33) : rangeOk (f : Int) 33 = true := by
  unfold rangeOk
  simp only [Bool.and_eq_true, decide_eq_true_eq]
  omega
end PL
set_option maxHeartbeats 4000000
namespace PL
open PySem PD PF
theorem evi_rng (T : Tab) (ts : List Int) (f : Int) (SV : List PyData) (ro : rangeOk f 33 = true) : evI T (.rng2 (.v 1) (.c (.int 33))) (rhoA ts f (.own (.list [])) (.own (.list SV)) .un .un .un .un) = .ok (rangeL f 33) none := by
  have e1 : (evB T (.v 1) (rhoA ts f (.own (.list [])) (.own (.list SV)) .un .un .un .un)).1 = .ok (.int f) none := rfl
  show ((evB T (.v 1) (rhoA ts f (.own (.list [])) (.own (.list SV)) .un .un .un .un)).1.bindI fun x _ => (evB T (.c (.int 33)) (rhoA ts f (.own (.list [])) (.own (.list SV)) .un .un .un .un)).1.bindI fun y _ => rng2D x y) = _
  rw [e1]
  show rngI f 33 = _
  unfold rngI
  rw [if_pos ro]
end PL
set_option maxHeartbeats 4000000
namespace PL
open PySem PD PF
theorem forA_ok (T : Tab) (cS cT cA : Nat) (hT : HasA T cS cT) (rec_ : List Int → Nat → List (List Tk)) (ts : List Int) (f : Nat) (hf : f ≤ 33)
    (hr : ∀ (i : Nat), i < 33 → ∀ r : List Int, r.length + 3 = ts.length → T.fn cA [.list (r.map .int), .int i] = .ret (.list ((rec_ r i).map rowD)) .none ∧ (rec_ r i).length ≤ 1100 ∧ ∀ R ∈ rec_ r i, R.length ≤ 100) :
    ∃ a b c, exS T (.for_ (.one 4) (.rng2 (.v 1) (.c (.int 33))) (bodyA cT cA)) (rhoA ts f (.own (.list [])) (.own (.list setsV)) .un .un .un .un) = .nx (rhoA ts f (.own (.list ((((List.range (33 - f)).map (f + ·)).flatMap (allG rec_ ts)).map rowD))) (.own (.list setsV)) a b c .un) := by
  have hin : ∀ i ∈ (List.range (33 - f)).map (f + ·), i < 33 := fun i hi => by
    obtain ⟨j, hj, rfl⟩ := List.mem_map.mp hi
    have := List.mem_range.mp hj
    omega
  have hlen : ((List.range (33 - f)).map (f + ·)).length ≤ 33 := by
    rw [List.length_map, List.length_range]
    omega
  have rl := range33 f hf
  have ro := rangeOk33 f hf
  generalize (List.range (33 - f)).map (f + ·) = is at *
  obtain ⟨a, b, c, lp⟩ := loopA T cS cT cA hT rec_ ts f none hr is [] .un .un .un hin (by rw [List.length_nil]; omega)
  rw [← rl, List.nil_append, List.map_nil] at lp
  refine ⟨a, b, c, ?_⟩
  have ei := evi_rng T ts f setsV ro
  generalize setsV = SV at *
  generalize rangeL (f : Int) 33 = RL0 at *
  rw [x_for, ei]
  have z : (RI.ok RL0 none).toS (rhoA ts f (.own (.list [])) (.own (.list SV)) .un .un .un .un) (fun ds t => forL (exSL T (bodyA cT cA)) (.one 4) t ds (lockR (rhoA ts f (.own (.list [])) (.own (.list SV)) .un .un .un .un) (Option.getD t []))) = forL (exSL T (bodyA cT cA)) (.one 4) none RL0 (rhoA ts f (.own (.list [])) (.own (.list SV)) .un .un .un .un) := rfl
  rw [z]
  exact lp
end PL
set_option maxHeartbeats 4000000
namespace PL
open PySem PD PF
theorem all_step (T : Tab) (cS cT cA : Nat) (hT : HasA T cS cT) (rec_ : List Int → Nat → List (List Tk)) (ts : List Int) (f : Nat) (hf : f ≤ 33)
    (hr : ∀ (i : Nat), i < 33 → ∀ r : List Int, r.length + 3 = ts.length → T.fn cA [.list (r.map .int), .int i] = .ret (.list ((rec_ r i).map rowD)) .none ∧ (rec_ r i).length ≤ 1100 ∧ ∀ R ∈ rec_ r i, R.length ≤ 100) :
    outOf (exSL T (sl__law_all_76c748 cS cT cA) (startR 8 [.list (ts.map .int), .int f])) = .ret (.list ((if ts = [] then [[]] else ((List.range (33 - f)).map (f + ·)).flatMap (allG rec_ ts)).map rowD)) .none := by
  have sh0 : SeqAt.shaped (.list []) = true := by decide +kernel
  have sh := shL_int ts
  have ee : PyData.eqv (.list (ts.map .int)) (.list []) = decide (ts = []) := by
    show PyData.eqvAll (ts.map .int) ([].map .int) = _
    rw [eqvAll_int]
  have l0 : 0 ≤ lineN := by decide
  have l1 : 1 ≤ lineN := by decide
  have st0 : startR 8 [.list (ts.map .int), .int f] = rhoA ts f .un .un .un .un .un .un := rfl
  rw [st0]
  by_cases h : ts = []
  · subst h
    unfold sl__law_all_76c748 rhoA rowD
    simp [xl_nil, xl_cons, x_set, x_aug, x_app, x_rem, x_ext, x_setT, x_ex, x_ret, x_ret0, x_pass, x_brk, x_cnt, x_if, x_raise, x_try, ev_def, evT_def, ev_v, ev_c, ev_g, ev_bin, ev_neg, ev_cmp, ev_chain, ev_and, ev_or, ev_one, ev_not, ev_ife, ev_ix, ev_sl, ev_rev, ev_tup, ev_lst, ev_call, ev_bi, ev_me, ev_isi, evL_nil, evL_cons, wR, PD.R.bind, PD.RL.bindR, PD.RL.bindN, PD.RI.bindR, PD.R.bindI, PD.RT.bindR, PD.RT.bind, optR, optB, PD.okR, optT, okI, negR, outR, callR, slR, lcR, itD, ofR, PD.R.toS, PD.RT.toS, PD.RI.toS, PD.RA.toS, startR, rd, PD.Rho.at, imm, immL, imm1, tnt, mkT, inOk, argS, giveS, PD.E.asV, PD.EL.one, PD.Sl.of, truth, outOf, bop, cop, ltD, leD, subD, addD, mulD, fdivD, modD, powD, ixop, lenD, biop, put, putTg, putAll, wipeR, PD.E.isOmit, List.map_cons, List.map_nil, List.length_cons, List.length_nil, List.set_cons_zero, List.set_cons_succ, List.set_nil, List.getD_cons_zero, List.getD_cons_succ, List.cons_append, List.nil_append, List.replicate, Option.getD, ownAt, chgS, appD, extD, remD, revD, augI, isTy, killV, killS, eqD, sh0, PyData.eqv, PyData.eqvAll, l1]
  · rw [if_neg h]
    rw [decide_eq_false h] at ee
    obtain ⟨a, b, c, fo⟩ := forA_ok T cS cT cA hT rec_ ts f hf hr
    have sets := hT.sets
    have ss := setsV_imm
    have e1 : exS T (.ife (.cmp .eq (.v 0) (.lst .nil)) (.cons (.ret (.lst (.cons (.tup .nil) .nil))) .nil) .nil) (rhoA ts f .un .un .un .un .un .un) = .nx (rhoA ts f .un .un .un .un .un .un) := by
      unfold rhoA
      generalize ts.map PyData.int = MT at *
      generalize (f : Int) = ff
      simp [xl_nil, xl_cons, x_set, x_aug, x_app, x_rem, x_ext, x_setT, x_ex, x_ret, x_ret0, x_pass, x_brk, x_cnt, x_if, x_raise, x_try, ev_def, evT_def, ev_v, ev_c, ev_g, ev_bin, ev_neg, ev_cmp, ev_chain, ev_and, ev_or, ev_one, ev_not, ev_ife, ev_ix, ev_sl, ev_rev, ev_tup, ev_lst, ev_call, ev_bi, ev_me, ev_isi, evL_nil, evL_cons, wR, PD.R.bind, PD.RL.bindR, PD.RL.bindN, PD.RI.bindR, PD.R.bindI, PD.RT.bindR, PD.RT.bind, optR, optB, PD.okR, optT, okI, negR, outR, callR, slR, lcR, itD, ofR, PD.R.toS, PD.RT.toS, PD.RI.toS, PD.RA.toS, startR, rd, PD.Rho.at, imm, immL, imm1, tnt, mkT, inOk, argS, giveS, PD.E.asV, PD.EL.one, PD.Sl.of, truth, outOf, bop, cop, ltD, leD, subD, addD, mulD, fdivD, modD, powD, ixop, lenD, biop, put, putTg, putAll, wipeR, PD.E.isOmit, List.map_cons, List.map_nil, List.length_cons, List.length_nil, List.set_cons_zero, List.set_cons_succ, List.set_nil, List.getD_cons_zero, List.getD_cons_succ, List.cons_append, List.nil_append, List.replicate, Option.getD, ownAt, chgS, appD, extD, remD, revD, augI, isTy, killV, killS, eqD, sh0, sh, ee, l0]
    have e2 : exS T (.set 2 (.lst .nil)) (rhoA ts f .un .un .un .un .un .un) = .nx (rhoA ts f (.own (.list [])) .un .un .un .un .un) := by
      unfold rhoA
      generalize ts.map PyData.int = MT at *
      generalize (f : Int) = ff
      simp [xl_nil, xl_cons, x_set, x_aug, x_app, x_rem, x_ext, x_setT, x_ex, x_ret, x_ret0, x_pass, x_brk, x_cnt, x_if, x_raise, x_try, ev_def, evT_def, ev_v, ev_c, ev_g, ev_bin, ev_neg, ev_cmp, ev_chain, ev_and, ev_or, ev_one, ev_not, ev_ife, ev_ix, ev_sl, ev_rev, ev_tup, ev_lst, ev_call, ev_bi, ev_me, ev_isi, evL_nil, evL_cons, wR, PD.R.bind, PD.RL.bindR, PD.RL.bindN, PD.RI.bindR, PD.R.bindI, PD.RT.bindR, PD.RT.bind, optR, optB, PD.okR, optT, okI, negR, outR, callR, slR, lcR, itD, ofR, PD.R.toS, PD.RT.toS, PD.RI.toS, PD.RA.toS, startR, rd, PD.Rho.at, imm, immL, imm1, tnt, mkT, inOk, argS, giveS, PD.E.asV, PD.EL.one, PD.Sl.of, truth, outOf, bop, cop, ltD, leD, subD, addD, mulD, fdivD, modD, powD, ixop, lenD, biop, put, putTg, putAll, wipeR, PD.E.isOmit, List.map_cons, List.map_nil, List.length_cons, List.length_nil, List.set_cons_zero, List.set_cons_succ, List.set_nil, List.getD_cons_zero, List.getD_cons_succ, List.cons_append, List.nil_append, List.replicate, Option.getD, ownAt, chgS, appD, extD, remD, revD, augI, isTy, killV, killS, l0]
    have e3 : exS T (.set 3 (.call cS .nil)) (rhoA ts f (.own (.list [])) .un .un .un .un .un) = .nx (rhoA ts f (.own (.list [])) (.own (.list setsV)) .un .un .un .un) := by
      unfold rhoA
      generalize ts.map PyData.int = MT at *
      generalize (f : Int) = ff
      generalize setsV = SV at *
      simp [xl_nil, xl_cons, x_set, x_aug, x_app, x_rem, x_ext, x_setT, x_ex, x_ret, x_ret0, x_pass, x_brk, x_cnt, x_if, x_raise, x_try, ev_def, evT_def, ev_v, ev_c, ev_g, ev_bin, ev_neg, ev_cmp, ev_chain, ev_and, ev_or, ev_one, ev_not, ev_ife, ev_ix, ev_sl, ev_rev, ev_tup, ev_lst, ev_call, ev_bi, ev_me, ev_isi, evL_nil, evL_cons, wR, PD.R.bind, PD.RL.bindR, PD.RL.bindN, PD.RI.bindR, PD.R.bindI, PD.RT.bindR, PD.RT.bind, optR, optB, PD.okR, optT, okI, negR, outR, callR, slR, lcR, itD, ofR, PD.R.toS, PD.RT.toS, PD.RI.toS, PD.RA.toS, startR, rd, PD.Rho.at, imm, immL, imm1, tnt, mkT, inOk, argS, giveS, PD.E.asV, PD.EL.one, PD.Sl.of, truth, outOf, bop, cop, ltD, leD, subD, addD, mulD, fdivD, modD, powD, ixop, lenD, biop, put, putTg, putAll, wipeR, PD.E.isOmit, List.map_cons, List.map_nil, List.length_cons, List.length_nil, List.set_cons_zero, List.set_cons_succ, List.set_nil, List.getD_cons_zero, List.getD_cons_succ, List.cons_append, List.nil_append, List.replicate, Option.getD, ownAt, chgS, appD, extD, remD, revD, augI, isTy, killV, killS, hT.io, sets, ss]
    generalize ((List.range (33 - f)).map (f + ·)).flatMap (allG rec_ ts) = RS0 at *
    have i2 := imm_rows RS0
    have e5 : exS T (.ret (.v 2)) (rhoA ts f (.own (.list (RS0.map rowD))) (.own (.list setsV)) a b c .un) = .rt (.list (RS0.map rowD)) (((killV (rhoA ts f (.own (.list (RS0.map rowD))) (.own (.list setsV)) a b c .un) 2).set 2 .un)) := by
      rfl
    have eq : sl__law_all_76c748 cS cT cA = .cons (.ife (.cmp .eq (.v 0) (.lst .nil)) (.cons (.ret (.lst (.cons (.tup .nil) .nil))) .nil) .nil) (.cons (.set 2 (.lst .nil)) (.cons (.set 3 (.call cS .nil)) (.cons (.for_ (.one 4) (.rng2 (.v 1) (.c (.int 33))) (bodyA cT cA)) (.cons (.ret (.v 2)) .nil)))) := rfl
    rw [eq]
    rw [xl_cons, e1]
    dsimp only
    rw [xl_cons, e2]
    dsimp only
    rw [xl_cons, e3]
    dsimp only
    rw [xl_cons, fo]
    dsimp only
    rw [xl_cons, e5]
    dsimp only
    rfl
end PL
set_option maxHeartbeats 4000000
namespace PL
open PySem PD PF
theorem fold_len : ∀ (ks ts : List Int), ts.length ≤ (ks.foldl List.erase ts).length + ks.length
  | [], ts => by simp
  | k :: ks, ts => by
    have ih := fold_len ks (ts.erase k)
    rw [List.foldl_cons, List.length_cons]
    have := List.length_erase_le (a := k) (l := ts)
    have h2 : ts.length ≤ (ts.erase k).length + 1 := by
      by_cases m : k ∈ ts
      · rw [List.length_erase_of_mem m]; omega
      · rw [List.erase_of_not_mem m]; omega
    omega
theorem fold_perm : ∀ (ks ts : List Int), (ks.foldl List.erase ts).length + ks.length = ts.length → ts.Perm (ks ++ ks.foldl List.erase ts)
  | [], ts, _ => by simp
  | k :: ks, ts, h => by
    rw [List.foldl_cons, List.length_cons] at h
    have l := fold_len ks (ts.erase k)
    by_cases m : k ∈ ts
    · have e := List.length_erase_of_mem m
      have hp : 0 < ts.length := List.length_pos_of_mem m
      have ih := fold_perm ks (ts.erase k) (by omega)
      rw [List.foldl_cons, List.cons_append]
      exact (List.perm_cons_erase m).trans (ih.cons k)
    · rw [List.erase_of_not_mem m] at l h
      omega
theorem fold_of_perm : ∀ (ks ts r : List Int), ts.Perm (ks ++ r) → (ks.foldl List.erase ts).Perm r
  | [], ts, r, h => by simpa using h
  | k :: ks, ts, r, h => by
    rw [List.foldl_cons]
    refine fold_of_perm ks (ts.erase k) r ?_
    have := h.erase k
    rw [List.cons_append, List.erase_cons_head] at this
    exact this
end PL
set_option maxHeartbeats 4000000
namespace PL
open PySem PD PF
theorem tk_three : ∀ a ∈ tkL, (tilesOf a).length = 3 := by decide +kernel
/-- the places rise -/
theorem tk_sorted : (tkL.map fun a => leTk a a) = List.replicate 33 true := by decide +kernel
theorem tk_le : ((List.range 33).all fun i => (List.range 33).all fun j => match tkL[i]?, tkL[j]? with
    | some a, some b => leTk a b == decide (i ≤ j)
    | _, _ => false) = true := by decide +kernel
theorem tk_le_iff {i j : Nat} {a b : Tk} (hi : tkL[i]? = some a) (hj : tkL[j]? = some b) : leTk a b = decide (i ≤ j) := by
  have l : tkL.length = 33 := tkL_len
  have h1 := (List.getElem?_eq_some_iff.mp hi).1
  have h2 := (List.getElem?_eq_some_iff.mp hj).1
  have q := List.all_eq_true.mp tk_le i (List.mem_range.mpr (by omega))
  have q2 := List.all_eq_true.mp q j (List.mem_range.mpr (by omega))
  rw [hi, hj] at q2
  exact eq_of_beq q2
/-- a row: places not below f, rising, that make up ts -/
def Row (ts : List Int) (f : Nat) (R : List Tk) : Prop := (∀ a ∈ R, ∃ i, f ≤ i ∧ tkL[i]? = some a) ∧ (R.Pairwise fun a b => leTk a b = true) ∧ (tilesR R).Perm ts
theorem row_len {ts : List Int} {f : Nat} {R : List Tk} (h : Row ts f R) : ts.length = 3 * R.length := by
  rw [← h.2.2.length_eq]
  have : ∀ S : List Tk, (∀ a ∈ S, a ∈ tkL) → (tilesR S).length = 3 * S.length := fun S => by
    induction S with
    | nil => intro _; rfl
    | cons a S ih =>
      intro hS
      have h1 := tk_three a (hS a (by simp))
      have h2 := ih fun b hb => hS b (List.mem_cons_of_mem _ hb)
      unfold tilesR at h2 ⊢
      rw [List.flatMap_cons, List.length_append, h1, h2, List.length_cons]
      omega
  exact this R fun a ha => let ⟨i, _, e⟩ := h.1 a ha; List.mem_of_getElem? e
theorem all_mem : ∀ (n : Nat) (ts : List Int) (f : Nat) (R : List Tk), ts.length ≤ 3 * n → f ≤ 33 → (R ∈ allV n ts f ↔ Row ts f R)
  | 0, ts, f, R, hl, hf => by
    have e : ts = [] := List.length_eq_zero_iff.mp (by omega)
    subst e
    unfold allV
    rw [if_pos rfl]
    constructor
    · intro h
      simp at h
      subst h
      exact ⟨by simp, List.Pairwise.nil, List.Perm.refl _⟩
    · intro h
      have := row_len h
      have : R = [] := List.length_eq_zero_iff.mp (by simp at this; omega)
      simp [this]
  | n + 1, ts, f, R, hl, hf => by
    unfold allV
    by_cases e : ts = []
    · subst e
      rw [if_pos rfl]
      constructor
      · intro h
        simp at h
        subst h
        exact ⟨by simp, List.Pairwise.nil, List.Perm.refl _⟩
      · intro h
        have := row_len h
        have : R = [] := List.length_eq_zero_iff.mp (by simp at this; omega)
        simp [this]
    · rw [if_neg e, List.mem_flatMap]
      constructor
      · rintro ⟨i, hi, hR⟩
        obtain ⟨j, hj, rfl⟩ := List.mem_map.mp hi
        have hj := List.mem_range.mp hj
        unfold allG at hR
        split at hR
        · rename_i a ha
          split at hR
          · rename_i h3
            obtain ⟨R', hR', rfl⟩ := List.mem_map.mp hR
            have am := List.mem_of_getElem? ha
            have r := (all_mem n (take3 ts a) (f + j) R' (by omega) (by omega)).mp hR'
            refine ⟨fun b hb => ?_, List.pairwise_cons.mpr ⟨fun b hb => ?_, r.2.1⟩, ?_⟩
            · rcases List.mem_cons.mp hb with z | z
              · subst z; exact ⟨f + j, by omega, ha⟩
              · obtain ⟨k, k1, k2⟩ := r.1 b z
                exact ⟨k, by omega, k2⟩
            · obtain ⟨k, k1, k2⟩ := r.1 b hb
              rw [tk_le_iff ha k2]
              simpa using k1
            · have p := fold_perm (tilesOf a) ts (by rw [tk_three a am]; exact h3)
              exact ((r.2.2.append_left (tilesOf a)).trans p.symm)
          · simp at hR
        · simp at hR
      · intro h
        cases R with
        | nil =>
          have := row_len h
          exact absurd (List.length_eq_zero_iff.mp (by simpa using this)) e
        | cons a R' =>
          obtain ⟨i, i1, i2⟩ := h.1 a (by simp)
          have hi := (List.getElem?_eq_some_iff.mp i2).1
          rw [tkL_len] at hi
          have am := List.mem_of_getElem? i2
          obtain ⟨p1, p2⟩ := List.pairwise_cons.mp h.2.1
          have fp : (take3 ts a).Perm (tilesR R') := fold_of_perm (tilesOf a) ts (tilesR R') h.2.2.symm
          have hln := h.2.2.length_eq
          have h3 : (take3 ts a).length + 3 = ts.length := by
            rw [fp.length_eq, ← hln]
            have := tk_three a am
            show (tilesR R').length + 3 = ((a :: R').flatMap tilesOf).length
            rw [List.flatMap_cons, List.length_append, this]
            show (tilesR R').length + 3 = 3 + (tilesR R').length
            omega
          refine ⟨i, List.mem_map.mpr ⟨i - f, List.mem_range.mpr (by omega), by omega⟩, ?_⟩
          unfold allG
          rw [i2]
          dsimp only
          rw [if_pos h3]
          refine List.mem_map.mpr ⟨R', (all_mem n (take3 ts a) i R' (by omega) (by omega)).mpr ⟨fun b hb => ?_, p2, fp.symm⟩, rfl⟩
          obtain ⟨k, k1, k2⟩ := h.1 b (List.mem_cons_of_mem _ hb)
          have := p1 b hb
          rw [tk_le_iff i2 k2] at this
          exact ⟨k, by simpa using this, k2⟩
end PL
set_option maxHeartbeats 4000000
namespace PL
open PySem PD PF
abbrev Pt := Int × List Tk
def ptD (q : Pt) : PyData := .tuple [.int q.1, rowD q.2]
theorem imm_pt (q : Pt) : imm (ptD q) = true := by
  have := imm_row q.2
  simp [ptD, imm, immL, this]
theorem imm_pts (Q : List Pt) : immL (Q.map ptD) = true := by
  rw [immL_iff]
  intro x hx
  obtain ⟨a, _, rfl⟩ := List.mem_map.mp hx
  exact imm_pt a
/-- the partings with the pair p -/
def partG (V : List Int → List (List Tk)) (hs : List Int) (p : Int) : List Pt := if p ∈ hs.erase p then (V ((hs.erase p).erase p)).map fun R => (p, R) else []
def rhoP (hs : List Int) (F : PyData) (p : Sl) (r s : Sl) : Rho := [.own (.tuple (hs.map .int)), .own F, p, r, s]
def ifP (cA : Nat) : S := .ife (.cmp .in_ (.v 2) (.v 3))
    (.cons (.mut .remove 3 (.cons (.v 2) .nil))
    (.cons (.set 1 (.bin .add (.v 1) (.lc (.tup (.cons (.v 2) (.cons (.v 4) .nil))) (.one 4) (.ex (.call cA (.cons (.v 3) (.cons (.c (.int 0)) .nil)))) .omit [("_law_sets_here", 4)])))
    .nil))
    .nil
def bodyP (cA : Nat) : SL := (.cons (.set 3 (.bi .list (.cons (.v 0) .nil)))
   (.cons (.mut .remove 3 (.cons (.v 2) .nil))
   (.cons (ifP cA) .nil)))
theorem setP_ok (T : Tab) (cA : Nat) (io : ∀ f, T.io f = false) (hs r : List Int) (p : Int) (F : List Pt) (V : List (List Tk)) (hF : F.length + V.length ≤ lineN) (hl : V.length ≤ lineN)
    (hr : T.fn cA [.list (r.map .int), .int 0] = .ret (.list (V.map rowD)) .none) :
    exS T (.set 1 (.bin .add (.v 1) (.lc (.tup (.cons (.v 2) (.cons (.v 4) .nil))) (.one 4) (.ex (.call cA (.cons (.v 3) (.cons (.c (.int 0)) .nil)))) .omit [("_law_sets_here", 4)]))) (rhoP hs (.list (F.map ptD)) (.own (.int p)) (.own (.list (r.map .int))) .un) =
      .nx (rhoP hs (.list ((F ++ V.map fun R => (p, R)).map ptD)) (.own (.int p)) (.own (.list (r.map .int))) .un) := by
  have i1 := imm_rows V
  have e := lc_ev (T := T) (elt := .tup (.cons (.v 2) (.cons (.v 4) .nil))) (tg := .one 4) (it := .ex (.call cA (.cons (.v 3) (.cons (.c (.int 0)) .nil)))) (cond := .omit) (own := [("_law_sets_here", 4)])
    (ρ := rhoP hs (.list (F.map ptD)) (.own (.int p)) (.own (.list (r.map .int))) .un) (ds := V.map rowD) (t := none) (fun _ => true) (fun d => .tuple [.int p, d]) (by
      unfold rhoP
      generalize r.map PyData.int = MR at *
      simp [xl_nil, xl_cons, x_set, x_aug, x_app, x_rem, x_ext, x_setT, x_ex, x_ret, x_ret0, x_pass, x_brk, x_cnt, x_if, x_raise, x_try, ev_def, evT_def, ev_v, ev_c, ev_g, ev_bin, ev_neg, ev_cmp, ev_chain, ev_and, ev_or, ev_one, ev_not, ev_ife, ev_ix, ev_sl, ev_rev, ev_tup, ev_lst, ev_call, ev_bi, ev_me, ev_isi, evL_nil, evL_cons, wR, PD.R.bind, PD.RL.bindR, PD.RL.bindN, PD.RI.bindR, PD.R.bindI, PD.RT.bindR, PD.RT.bind, optR, optB, PD.okR, optT, okI, negR, outR, callR, slR, lcR, itD, ofR, PD.R.toS, PD.RT.toS, PD.RI.toS, PD.RA.toS, startR, rd, PD.Rho.at, imm, immL, imm1, tnt, mkT, inOk, argS, giveS, PD.E.asV, PD.EL.one, PD.Sl.of, truth, outOf, bop, cop, ltD, leD, subD, addD, mulD, fdivD, modD, powD, ixop, lenD, biop, put, putTg, putAll, wipeR, PD.E.isOmit, List.map_cons, List.map_nil, List.length_cons, List.length_nil, List.set_cons_zero, List.set_cons_succ, List.set_nil, List.getD_cons_zero, List.getD_cons_succ, List.cons_append, List.nil_append, List.replicate, Option.getD, ownAt, chgS, appD, extD, remD, revD, augI, isTy, killV, killS, evI, io, hr, i1]) (fun d hd => by
      obtain ⟨R, hR, rfl⟩ := List.mem_map.mp hd
      have ir := imm_row R
      refine ⟨rhoP hs (.list (F.map ptD)) (.own (.int p)) (.own (.list (r.map .int))) (.own (rowD R)), by unfold rhoP; simp [putTg, put, wipeR, imm_row], by simp [E.isOmit], fun _ => ?_⟩
      have l2 : 2 ≤ lineN := by decide
      unfold rhoP
      generalize rowD R = rd0 at *
      simp [xl_nil, xl_cons, x_set, x_aug, x_app, x_rem, x_ext, x_setT, x_ex, x_ret, x_ret0, x_pass, x_brk, x_cnt, x_if, x_raise, x_try, ev_def, evT_def, ev_v, ev_c, ev_g, ev_bin, ev_neg, ev_cmp, ev_chain, ev_and, ev_or, ev_one, ev_not, ev_ife, ev_ix, ev_sl, ev_rev, ev_tup, ev_lst, ev_call, ev_bi, ev_me, ev_isi, evL_nil, evL_cons, wR, PD.R.bind, PD.RL.bindR, PD.RL.bindN, PD.RI.bindR, PD.R.bindI, PD.RT.bindR, PD.RT.bind, optR, optB, PD.okR, optT, okI, negR, outR, callR, slR, lcR, itD, ofR, PD.R.toS, PD.RT.toS, PD.RI.toS, PD.RA.toS, startR, rd, PD.Rho.at, imm, immL, imm1, tnt, mkT, inOk, argS, giveS, PD.E.asV, PD.EL.one, PD.Sl.of, truth, outOf, bop, cop, ltD, leD, subD, addD, mulD, fdivD, modD, powD, ixop, lenD, biop, put, putTg, putAll, wipeR, PD.E.isOmit, List.map_cons, List.map_nil, List.length_cons, List.length_nil, List.set_cons_zero, List.set_cons_succ, List.set_nil, List.getD_cons_zero, List.getD_cons_succ, List.cons_append, List.nil_append, List.replicate, Option.getD, ownAt, chgS, appD, extD, remD, revD, augI, isTy, killV, killS, ir, l2]) (by simpa using hl)
  rw [List.filter_eq_self.mpr (fun _ _ => rfl)] at e
  have e2 : (V.map rowD).map (fun d => PyData.tuple [.int p, d]) = (V.map fun R => (p, R)).map ptD := by
    rw [List.map_map, List.map_map]
    rfl
  rw [e2] at e
  have i2 := imm_pts (F ++ V.map fun R => (p, R))
  have e3 : F.map ptD ++ (V.map fun R => (p, R)).map ptD = (F ++ V.map fun R => (p, R)).map ptD := by simp
  have l3 : (F.map ptD).length + ((V.map fun R => (p, R)).map ptD).length ≤ lineN := by simpa using hF
  unfold rhoP at e ⊢
  generalize (V.map fun R => (p, R)).map ptD = MV at *
  generalize (F ++ V.map fun R => (p, R)).map ptD = MFV at *
  generalize F.map ptD = MF at *
  generalize r.map PyData.int = MR at *
  generalize hs.map PyData.int = MH at *
  simp [xl_nil, xl_cons, x_set, x_aug, x_app, x_rem, x_ext, x_setT, x_ex, x_ret, x_ret0, x_pass, x_brk, x_cnt, x_if, x_raise, x_try, ev_def, evT_def, ev_v, ev_c, ev_g, ev_bin, ev_neg, ev_cmp, ev_chain, ev_and, ev_or, ev_one, ev_not, ev_ife, ev_ix, ev_sl, ev_rev, ev_tup, ev_lst, ev_call, ev_bi, ev_me, ev_isi, evL_nil, evL_cons, wR, PD.R.bind, PD.RL.bindR, PD.RL.bindN, PD.RI.bindR, PD.R.bindI, PD.RT.bindR, PD.RT.bind, optR, optB, PD.okR, optT, okI, negR, outR, callR, slR, lcR, itD, ofR, PD.R.toS, PD.RT.toS, PD.RI.toS, PD.RA.toS, startR, rd, PD.Rho.at, imm, immL, imm1, tnt, mkT, inOk, argS, giveS, PD.E.asV, PD.EL.one, PD.Sl.of, truth, outOf, bop, cop, ltD, leD, subD, addD, mulD, fdivD, modD, powD, ixop, lenD, biop, put, putTg, putAll, wipeR, PD.E.isOmit, List.map_cons, List.map_nil, List.length_cons, List.length_nil, List.set_cons_zero, List.set_cons_succ, List.set_nil, List.getD_cons_zero, List.getD_cons_succ, List.cons_append, List.nil_append, List.replicate, Option.getD, ownAt, chgS, appD, extD, remD, revD, augI, isTy, killV, killS, e, l3, e3, i2]
end PL
set_option maxHeartbeats 4000000
namespace PL
open PySem PD PF
theorem bodyP_ok (T : Tab) (cA : Nat) (io : ∀ f, T.io f = false) (hs : List Int) (p : Int) (hp : p ∈ hs) (F : List Pt) (V : List Int → List (List Tk)) (s3 : Sl) (hF : F.length + 40000 ≤ lineN)
    (hr : p ∈ hs.erase p → T.fn cA [.list (((hs.erase p).erase p).map .int), .int 0] = .ret (.list ((V ((hs.erase p).erase p)).map rowD)) .none) (hl : (V ((hs.erase p).erase p)).length ≤ 40000) :
    ∃ s3', exSL T (bodyP cA) (rhoP hs (.list (F.map ptD)) (.own (.int p)) s3 .un) = .nx (rhoP hs (.list ((F ++ partG V hs p).map ptD)) (.own (.int p)) s3' .un) := by
  have e1 : exS T (.set 3 (.bi .list (.cons (.v 0) .nil))) (rhoP hs (.list (F.map ptD)) (.own (.int p)) s3 .un) = .nx (rhoP hs (.list (F.map ptD)) (.own (.int p)) (.own (.list (hs.map .int))) .un) := by
    have i0 := immL_int hs
    unfold rhoP
    generalize hs.map PyData.int = MH at *
    simp [xl_nil, xl_cons, x_set, x_aug, x_app, x_rem, x_ext, x_setT, x_ex, x_ret, x_ret0, x_pass, x_brk, x_cnt, x_if, x_raise, x_try, ev_def, evT_def, ev_v, ev_c, ev_g, ev_bin, ev_neg, ev_cmp, ev_chain, ev_and, ev_or, ev_one, ev_not, ev_ife, ev_ix, ev_sl, ev_rev, ev_tup, ev_lst, ev_call, ev_bi, ev_me, ev_isi, evL_nil, evL_cons, wR, PD.R.bind, PD.RL.bindR, PD.RL.bindN, PD.RI.bindR, PD.R.bindI, PD.RT.bindR, PD.RT.bind, optR, optB, PD.okR, optT, okI, negR, outR, callR, slR, lcR, itD, ofR, PD.R.toS, PD.RT.toS, PD.RI.toS, PD.RA.toS, startR, rd, PD.Rho.at, imm, immL, imm1, tnt, mkT, inOk, argS, giveS, PD.E.asV, PD.EL.one, PD.Sl.of, truth, outOf, bop, cop, ltD, leD, subD, addD, mulD, fdivD, modD, powD, ixop, lenD, biop, put, putTg, putAll, wipeR, PD.E.isOmit, List.map_cons, List.map_nil, List.length_cons, List.length_nil, List.set_cons_zero, List.set_cons_succ, List.set_nil, List.getD_cons_zero, List.getD_cons_succ, List.cons_append, List.nil_append, List.replicate, Option.getD, ownAt, chgS, appD, extD, remD, revD, augI, isTy, killV, killS, listD, i0]
  have rm : ∀ r : List Int, p ∈ r → exS T (.mut .remove 3 (.cons (.v 2) .nil)) (rhoP hs (.list (F.map ptD)) (.own (.int p)) (.own (.list (r.map .int))) .un) = .nx (rhoP hs (.list (F.map ptD)) (.own (.int p)) (.own (.list ((r.erase p).map .int))) .un) := fun r hm => by
    have as := asInts_map r
    unfold rhoP
    generalize hs.map PyData.int = MH at *
    simp [xl_nil, xl_cons, x_set, x_aug, x_app, x_rem, x_ext, x_setT, x_ex, x_ret, x_ret0, x_pass, x_brk, x_cnt, x_if, x_raise, x_try, ev_def, evT_def, ev_v, ev_c, ev_g, ev_bin, ev_neg, ev_cmp, ev_chain, ev_and, ev_or, ev_one, ev_not, ev_ife, ev_ix, ev_sl, ev_rev, ev_tup, ev_lst, ev_call, ev_bi, ev_me, ev_isi, evL_nil, evL_cons, wR, PD.R.bind, PD.RL.bindR, PD.RL.bindN, PD.RI.bindR, PD.R.bindI, PD.RT.bindR, PD.RT.bind, optR, optB, PD.okR, optT, okI, negR, outR, callR, slR, lcR, itD, ofR, PD.R.toS, PD.RT.toS, PD.RI.toS, PD.RA.toS, startR, rd, PD.Rho.at, imm, immL, imm1, tnt, mkT, inOk, argS, giveS, PD.E.asV, PD.EL.one, PD.Sl.of, truth, outOf, bop, cop, ltD, leD, subD, addD, mulD, fdivD, modD, powD, ixop, lenD, biop, put, putTg, putAll, wipeR, PD.E.isOmit, List.map_cons, List.map_nil, List.length_cons, List.length_nil, List.set_cons_zero, List.set_cons_succ, List.set_nil, List.getD_cons_zero, List.getD_cons_succ, List.cons_append, List.nil_append, List.replicate, Option.getD, ownAt, chgS, appD, extD, remD, revD, augI, isTy, killV, killS, hm, as]
  have e2 := rm hs hp
  unfold partG
  by_cases m : p ∈ hs.erase p
  · rw [if_pos m]
    have e3 := rm (hs.erase p) m
    have e4 := setP_ok T cA io hs ((hs.erase p).erase p) p F (V ((hs.erase p).erase p)) (by omega) (by unfold lineN; omega) (hr m)
    have ai := any_int (hs.erase p) p
    have ec : evT T (.cmp .in_ (.v 2) (.v 3)) (rhoP hs (.list (F.map ptD)) (.own (.int p)) (.own (.list ((hs.erase p).map .int))) .un) = .ok true := by
      unfold rhoP
      generalize hs.map PyData.int = MH at *
      simp [xl_nil, xl_cons, x_set, x_aug, x_app, x_rem, x_ext, x_setT, x_ex, x_ret, x_ret0, x_pass, x_brk, x_cnt, x_if, x_raise, x_try, ev_def, evT_def, ev_v, ev_c, ev_g, ev_bin, ev_neg, ev_cmp, ev_chain, ev_and, ev_or, ev_one, ev_not, ev_ife, ev_ix, ev_sl, ev_rev, ev_tup, ev_lst, ev_call, ev_bi, ev_me, ev_isi, evL_nil, evL_cons, wR, PD.R.bind, PD.RL.bindR, PD.RL.bindN, PD.RI.bindR, PD.R.bindI, PD.RT.bindR, PD.RT.bind, optR, optB, PD.okR, optT, okI, negR, outR, callR, slR, lcR, itD, ofR, PD.R.toS, PD.RT.toS, PD.RI.toS, PD.RA.toS, startR, rd, PD.Rho.at, imm, immL, imm1, tnt, mkT, inOk, argS, giveS, PD.E.asV, PD.EL.one, PD.Sl.of, truth, outOf, bop, cop, ltD, leD, subD, addD, mulD, fdivD, modD, powD, ixop, lenD, biop, put, putTg, putAll, wipeR, PD.E.isOmit, List.map_cons, List.map_nil, List.length_cons, List.length_nil, List.set_cons_zero, List.set_cons_succ, List.set_nil, List.getD_cons_zero, List.getD_cons_succ, List.cons_append, List.nil_append, List.replicate, Option.getD, ownAt, chgS, appD, extD, remD, revD, augI, isTy, killV, killS, inD, sh_int, shL_int, ai, m]
    refine ⟨.own (.list (((hs.erase p).erase p).map .int)), ?_⟩
    have e5 : exS T (ifP cA) (rhoP hs (.list (F.map ptD)) (.own (.int p)) (.own (.list ((hs.erase p).map .int))) .un) = .nx (rhoP hs (.list ((F ++ (V ((hs.erase p).erase p)).map fun R => (p, R)).map ptD)) (.own (.int p)) (.own (.list (((hs.erase p).erase p).map .int))) .un) := by
      unfold ifP
      rw [x_if, ec]
      show exSL T _ _ = _
      rw [xl_cons, e3]
      dsimp only
      rw [xl_cons, e4]
      rfl
    unfold bodyP
    rw [xl_cons, e1]
    dsimp only
    rw [xl_cons, e2]
    dsimp only
    rw [xl_cons, e5]
    rfl
  · rw [if_neg m, List.append_nil]
    have ai := any_int (hs.erase p) p
    have ec : evT T (.cmp .in_ (.v 2) (.v 3)) (rhoP hs (.list (F.map ptD)) (.own (.int p)) (.own (.list ((hs.erase p).map .int))) .un) = .ok false := by
      unfold rhoP
      generalize hs.map PyData.int = MH at *
      simp [xl_nil, xl_cons, x_set, x_aug, x_app, x_rem, x_ext, x_setT, x_ex, x_ret, x_ret0, x_pass, x_brk, x_cnt, x_if, x_raise, x_try, ev_def, evT_def, ev_v, ev_c, ev_g, ev_bin, ev_neg, ev_cmp, ev_chain, ev_and, ev_or, ev_one, ev_not, ev_ife, ev_ix, ev_sl, ev_rev, ev_tup, ev_lst, ev_call, ev_bi, ev_me, ev_isi, evL_nil, evL_cons, wR, PD.R.bind, PD.RL.bindR, PD.RL.bindN, PD.RI.bindR, PD.R.bindI, PD.RT.bindR, PD.RT.bind, optR, optB, PD.okR, optT, okI, negR, outR, callR, slR, lcR, itD, ofR, PD.R.toS, PD.RT.toS, PD.RI.toS, PD.RA.toS, startR, rd, PD.Rho.at, imm, immL, imm1, tnt, mkT, inOk, argS, giveS, PD.E.asV, PD.EL.one, PD.Sl.of, truth, outOf, bop, cop, ltD, leD, subD, addD, mulD, fdivD, modD, powD, ixop, lenD, biop, put, putTg, putAll, wipeR, PD.E.isOmit, List.map_cons, List.map_nil, List.length_cons, List.length_nil, List.set_cons_zero, List.set_cons_succ, List.set_nil, List.getD_cons_zero, List.getD_cons_succ, List.cons_append, List.nil_append, List.replicate, Option.getD, ownAt, chgS, appD, extD, remD, revD, augI, isTy, killV, killS, inD, sh_int, shL_int, ai, m]
    refine ⟨.own (.list ((hs.erase p).map .int)), ?_⟩
    have e5 : exS T (ifP cA) (rhoP hs (.list (F.map ptD)) (.own (.int p)) (.own (.list ((hs.erase p).map .int))) .un) = .nx (rhoP hs (.list (F.map ptD)) (.own (.int p)) (.own (.list ((hs.erase p).map .int))) .un) := by
      unfold ifP
      rw [x_if, ec]
      rfl
    unfold bodyP
    rw [xl_cons, e1]
    dsimp only
    rw [xl_cons, e2]
    dsimp only
    rw [xl_cons, e5]
    rfl
end PL
set_option maxHeartbeats 4000000
namespace PL
open PySem PD PF
def uniq (hs : List Int) : List Int := sortI (dupFree hs)
def partV (V : List Int → List (List Tk)) (hs : List Int) : List Pt := (uniq hs).flatMap (partG V hs)
theorem partG_len (V : List Int → List (List Tk)) (hs : List Int) (p : Int) (n : Nat) (h : (V ((hs.erase p).erase p)).length ≤ n) : (partG V hs p).length ≤ n := by
  unfold partG
  split
  · simpa using h
  · simp
theorem loopP (T : Tab) (cA : Nat) (io : ∀ f, T.io f = false) (hs : List Int) (V : List Int → List (List Tk)) (t : Tn)
    (hr : ∀ p ∈ hs, (p ∈ hs.erase p → T.fn cA [.list (((hs.erase p).erase p).map .int), .int 0] = .ret (.list ((V ((hs.erase p).erase p)).map rowD)) .none) ∧ (V ((hs.erase p).erase p)).length ≤ 40000) :
    ∀ (ps : List Int) (F : List Pt) (s2 s3 : Sl), (∀ p ∈ ps, p ∈ hs) → F.length + 40000 * ps.length ≤ 1000000 →
    ∃ s2' s3', forL (exSL T (bodyP cA)) (.one 2) t (ps.map .int) (rhoP hs (.list (F.map ptD)) s2 s3 .un) = .nx (rhoP hs (.list ((F ++ ps.flatMap (partG V hs)).map ptD)) s2' s3' .un)
  | [], F, s2, s3, _, _ => ⟨s2, s3, by simp [forL]⟩
  | p :: ps, F, s2, s3, hp, hl => by
    simp only [List.length_cons] at hl
    have hm := hp p (by simp)
    obtain ⟨s3', st⟩ := bodyP_ok T cA io hs p hm F V s3 (by unfold lineN; omega) (hr p hm).1 (hr p hm).2
    have gl := partG_len V hs p 40000 (hr p hm).2
    obtain ⟨a, b, ih⟩ := loopP T cA io hs V t hr ps (F ++ partG V hs p) (.own (.int p)) s3' (fun q hq => hp q (List.mem_cons_of_mem _ hq)) (by rw [List.length_append]; omega)
    refine ⟨a, b, ?_⟩
    have pt : ∀ tt : Tn, putTg (rhoP hs (.list (F.map ptD)) s2 s3 .un) (.one 2) (.int p) tt = some (rhoP hs (.list (F.map ptD)) (.own (.int p)) s3 .un) := fun tt => by
      unfold rhoP; simp [putTg, put, imm]
    rw [List.map_cons, forL, pt]
    dsimp only
    rw [st]
    dsimp only
    rw [ih, List.flatMap_cons, List.append_assoc]
end PL
set_option maxHeartbeats 4000000
namespace PL
open PySem PD PF
theorem uniq_len (hs : List Int) : (uniq hs).length ≤ hs.length := by
  unfold uniq sortI
  rw [(List.mergeSort_perm _ _).length_eq]
  induction hs with
  | nil => simp [dupFree]
  | cons x r ih =>
    simp only [dupFree, List.length_cons]
    have := List.length_filter_le (fun y => decide (y ≠ x)) (dupFree r)
    omega
theorem parts_ok (T : Tab) (cA : Nat) (io : ∀ f, T.io f = false) (hs : List Int) (hh : hs.length ≤ 11) (V : List Int → List (List Tk))
    (hr : ∀ p ∈ hs, (p ∈ hs.erase p → T.fn cA [.list (((hs.erase p).erase p).map .int), .int 0] = .ret (.list ((V ((hs.erase p).erase p)).map rowD)) .none) ∧ (V ((hs.erase p).erase p)).length ≤ 40000) :
    outOf (exSL T (sl__law_partings_a189fe cA) (startR 5 [.tuple (hs.map .int)])) = .ret (.list ((partV V hs).map ptD)) .none := by
  have ul := uniq_len hs
  have mem : ∀ p ∈ uniq hs, p ∈ hs := fun p hp => uniq_mem.mp hp
  have ss : sortedSetD [.tuple (hs.map .int)] = some (.list ((uniq hs).map .int)) := by
    unfold sortedSetD
    dsimp only
    rw [if_pos (by simp; omega), asInts_map]
    rfl
  have l0 : 0 ≤ lineN := by decide
  have st0 : startR 5 [.tuple (hs.map .int)] = [.own (.tuple (hs.map .int)), .un, .un, .un, .un] := by
    have i0 := immL_int hs
    generalize hs.map PyData.int = MH at *
    simp [xl_nil, xl_cons, x_set, x_aug, x_app, x_rem, x_ext, x_setT, x_ex, x_ret, x_ret0, x_pass, x_brk, x_cnt, x_if, x_raise, x_try, ev_def, evT_def, ev_v, ev_c, ev_g, ev_bin, ev_neg, ev_cmp, ev_chain, ev_and, ev_or, ev_one, ev_not, ev_ife, ev_ix, ev_sl, ev_rev, ev_tup, ev_lst, ev_call, ev_bi, ev_me, ev_isi, evL_nil, evL_cons, wR, PD.R.bind, PD.RL.bindR, PD.RL.bindN, PD.RI.bindR, PD.R.bindI, PD.RT.bindR, PD.RT.bind, optR, optB, PD.okR, optT, okI, negR, outR, callR, slR, lcR, itD, ofR, PD.R.toS, PD.RT.toS, PD.RI.toS, PD.RA.toS, startR, rd, PD.Rho.at, imm, immL, imm1, tnt, mkT, inOk, argS, giveS, PD.E.asV, PD.EL.one, PD.Sl.of, truth, outOf, bop, cop, ltD, leD, subD, addD, mulD, fdivD, modD, powD, ixop, lenD, biop, put, putTg, putAll, wipeR, PD.E.isOmit, List.map_cons, List.map_nil, List.length_cons, List.length_nil, List.set_cons_zero, List.set_cons_succ, List.set_nil, List.getD_cons_zero, List.getD_cons_succ, List.cons_append, List.nil_append, List.replicate, Option.getD, ownAt, chgS, appD, extD, remD, revD, augI, isTy, killV, killS, i0]
  have e1 : exS T (.set 1 (.lst .nil)) [.own (.tuple (hs.map .int)), .un, .un, .un, .un] = .nx (rhoP hs (.list []) .un .un .un) := by
    unfold rhoP
    generalize hs.map PyData.int = MH at *
    simp [xl_nil, xl_cons, x_set, x_aug, x_app, x_rem, x_ext, x_setT, x_ex, x_ret, x_ret0, x_pass, x_brk, x_cnt, x_if, x_raise, x_try, ev_def, evT_def, ev_v, ev_c, ev_g, ev_bin, ev_neg, ev_cmp, ev_chain, ev_and, ev_or, ev_one, ev_not, ev_ife, ev_ix, ev_sl, ev_rev, ev_tup, ev_lst, ev_call, ev_bi, ev_me, ev_isi, evL_nil, evL_cons, wR, PD.R.bind, PD.RL.bindR, PD.RL.bindN, PD.RI.bindR, PD.R.bindI, PD.RT.bindR, PD.RT.bind, optR, optB, PD.okR, optT, okI, negR, outR, callR, slR, lcR, itD, ofR, PD.R.toS, PD.RT.toS, PD.RI.toS, PD.RA.toS, startR, rd, PD.Rho.at, imm, immL, imm1, tnt, mkT, inOk, argS, giveS, PD.E.asV, PD.EL.one, PD.Sl.of, truth, outOf, bop, cop, ltD, leD, subD, addD, mulD, fdivD, modD, powD, ixop, lenD, biop, put, putTg, putAll, wipeR, PD.E.isOmit, List.map_cons, List.map_nil, List.length_cons, List.length_nil, List.set_cons_zero, List.set_cons_succ, List.set_nil, List.getD_cons_zero, List.getD_cons_succ, List.cons_append, List.nil_append, List.replicate, Option.getD, ownAt, chgS, appD, extD, remD, revD, augI, isTy, killV, killS, l0]
  obtain ⟨a, b, lp⟩ := loopP T cA io hs V none hr (uniq hs) [] .un .un mem (by simp; omega)
  rw [List.nil_append, List.map_nil] at lp
  have ei : evI T (.ex (.bi .sortedSet (.cons (.v 0) .nil))) (rhoP hs (.list []) .un .un .un) = .ok ((uniq hs).map .int) none := by
    have i0 := immL_int hs
    have i1 := immL_int (uniq hs)
    unfold rhoP
    generalize (uniq hs).map PyData.int = MU at *
    generalize hs.map PyData.int = MH at *
    simp [xl_nil, xl_cons, x_set, x_aug, x_app, x_rem, x_ext, x_setT, x_ex, x_ret, x_ret0, x_pass, x_brk, x_cnt, x_if, x_raise, x_try, ev_def, evT_def, ev_v, ev_c, ev_g, ev_bin, ev_neg, ev_cmp, ev_chain, ev_and, ev_or, ev_one, ev_not, ev_ife, ev_ix, ev_sl, ev_rev, ev_tup, ev_lst, ev_call, ev_bi, ev_me, ev_isi, evL_nil, evL_cons, wR, PD.R.bind, PD.RL.bindR, PD.RL.bindN, PD.RI.bindR, PD.R.bindI, PD.RT.bindR, PD.RT.bind, optR, optB, PD.okR, optT, okI, negR, outR, callR, slR, lcR, itD, ofR, PD.R.toS, PD.RT.toS, PD.RI.toS, PD.RA.toS, startR, rd, PD.Rho.at, imm, immL, imm1, tnt, mkT, inOk, argS, giveS, PD.E.asV, PD.EL.one, PD.Sl.of, truth, outOf, bop, cop, ltD, leD, subD, addD, mulD, fdivD, modD, powD, ixop, lenD, biop, put, putTg, putAll, wipeR, PD.E.isOmit, List.map_cons, List.map_nil, List.length_cons, List.length_nil, List.set_cons_zero, List.set_cons_succ, List.set_nil, List.getD_cons_zero, List.getD_cons_succ, List.cons_append, List.nil_append, List.replicate, Option.getD, ownAt, chgS, appD, extD, remD, revD, augI, isTy, killV, killS, evI, i0, i1, ss]
  have e2 : exS T (.for_ (.one 2) (.ex (.bi .sortedSet (.cons (.v 0) .nil))) (bodyP cA)) (rhoP hs (.list []) .un .un .un) = .nx (rhoP hs (.list ((partV V hs).map ptD)) a b .un) := by
    rw [x_for, ei]
    exact lp
  generalize partV V hs = Q at *
  have i2 := imm_pts Q
  have e3 : exS T (.ret (.v 1)) (rhoP hs (.list (Q.map ptD)) a b .un) = .rt (.list (Q.map ptD)) ((killV (rhoP hs (.list (Q.map ptD)) a b .un) 1).set 1 .un) := rfl
  have eq : sl__law_partings_a189fe cA = .cons (.set 1 (.lst .nil)) (.cons (.for_ (.one 2) (.ex (.bi .sortedSet (.cons (.v 0) .nil))) (bodyP cA)) (.cons (.ret (.v 1)) .nil)) := rfl
  rw [eq, st0, xl_cons, e1]
  dsimp only
  rw [xl_cons, e2]
  dsimp only
  rw [xl_cons, e3]
  rfl
end PL
set_option maxHeartbeats 4000000
namespace PL
open PySem PD PF
theorem part_mem {n : Nat} {hs : List Int} {p : Int} {R : List Tk} (hl : hs.length ≤ 3 * n + 2) : (p, R) ∈ partV (fun ts => allV n ts 0) hs ↔ (∀ a ∈ R, a ∈ tkL) ∧ (R.Pairwise fun a b => leTk a b = true) ∧ (p :: p :: tilesR R).Perm hs := by
  have row : ∀ ts : List Int, Row ts 0 R ↔ (∀ a ∈ R, a ∈ tkL) ∧ (R.Pairwise fun a b => leTk a b = true) ∧ (tilesR R).Perm ts := fun ts => by
    unfold Row
    refine and_congr (forall_congr' fun a => forall_congr' fun _ => ?_) Iff.rfl
    constructor
    · rintro ⟨i, _, e⟩; exact List.mem_of_getElem? e
    · intro h
      obtain ⟨i, e⟩ := List.mem_iff_getElem?.mp h
      exact ⟨i, Nat.zero_le _, e⟩
  unfold partV
  rw [List.mem_flatMap]
  constructor
  · rintro ⟨q, hq, h⟩
    have hq : q ∈ hs := uniq_mem.mp hq
    unfold partG at h
    split at h
    · rename_i m
      obtain ⟨R', hR', e⟩ := List.mem_map.mp h
      cases e
      have l1 := List.length_erase_of_mem hq
      have l2 := List.length_erase_of_mem m
      obtain ⟨r1, r2, r3⟩ := (row _).mp ((all_mem n _ 0 R (by omega) (by omega)).mp hR')
      refine ⟨r1, r2, ?_⟩
      exact ((r3.cons p).cons p).trans (((List.perm_cons_erase m).symm.cons p).trans (List.perm_cons_erase hq).symm)
    · simp at h
  · rintro ⟨r1, r2, r3⟩
    have hq : p ∈ hs := r3.mem_iff.mp (by simp)
    have e1 : (p :: tilesR R).Perm (hs.erase p) := by
      have := r3.erase p
      rwa [List.erase_cons_head] at this
    have m : p ∈ hs.erase p := e1.mem_iff.mp (by simp)
    have e2 : (tilesR R).Perm ((hs.erase p).erase p) := by
      have := e1.erase p
      rwa [List.erase_cons_head] at this
    refine ⟨p, uniq_mem.mpr hq, ?_⟩
    unfold partG
    rw [if_pos m]
    have l1 := List.length_erase_of_mem hq
    have l2 := List.length_erase_of_mem m
    exact List.mem_map.mpr ⟨R, (all_mem n _ 0 R (by omega) (by omega)).mpr ((row _).mpr ⟨r1, r2, e2⟩), rfl⟩
end PL
set_option maxHeartbeats 4000000
namespace PL
open PySem PD PF
theorem isset_mem (a : Tk) : isSet a = true ↔ a ∈ tkL := by
  obtain ⟨s, k⟩ := a
  unfold isSet tkL begins isKind
  simp only [Bool.and_eq_true, Bool.or_eq_true, decide_eq_true_eq, List.mem_append, List.mem_map, List.mem_filter, List.mem_range, Prod.mk.injEq]
  constructor
  · rintro ⟨⟨h1, h2⟩, h3 | ⟨h3, h4, h5⟩⟩
    · exact .inr ⟨k, ⟨k.toNat, by omega, by omega⟩, h3.symm, rfl⟩
    · exact .inl ⟨k, ⟨⟨k.toNat, by omega, by omega⟩, h5⟩, h3.symm, rfl⟩
  · rintro (⟨j, ⟨⟨i, h1, h2⟩, h3⟩, h4, h5⟩ | ⟨j, ⟨i, h1, h2⟩, h4, h5⟩)
    · subst h5
      exact ⟨⟨by omega, by omega⟩, .inr ⟨h4.symm, by omega, h3⟩⟩
    · subst h5
      exact ⟨⟨by omega, by omega⟩, .inl h4.symm⟩
theorem tkL_good {a : Tk} (h : a ∈ tkL) : okS a.1 := by
  have := (isset_mem a).mpr h
  unfold isSet at this
  simp only [Bool.and_eq_true, Bool.or_eq_true, decide_eq_true_eq] at this
  rcases this.2 with e | ⟨e, _⟩
  · rw [e]; exact okS_three
  · rw [e]; exact okS_run
/-- two lists in order of the same ints -/
theorem srt_eq_iff {ns hs : List Int} (h : hs.Pairwise (· ≤ ·)) : srt ns = hs ↔ ns.Perm hs := by
  constructor
  · intro e
    rw [← e]
    exact (srt_perm ns).symm
  · intro p
    have : (srt ns).Perm hs := (srt_perm ns).trans p
    exact this.eq_of_pairwise (fun a b _ _ h1 h2 => by omega) (srt_sorted ns) h
theorem sorted_pairwise : ∀ {ns : List Int}, sortedB ns = true → ns.Pairwise (· ≤ ·)
  | [], _ => List.Pairwise.nil
  | [_], _ => by simp
  | a :: b :: r, h => by
    unfold sortedB at h
    simp only [Bool.and_eq_true, decide_eq_true_eq] at h
    have ih := sorted_pairwise h.2
    refine List.pairwise_cons.mpr ⟨fun x hx => ?_, ih⟩
    rcases List.mem_cons.mp hx with e | hx
    · subst e; exact h.1
    · have := (List.pairwise_cons.mp ih).1 x hx
      omega
/-- what a parting of the hand is, both ways -/
theorem form_iff {hs : List Int} (hh : isHand hs = true) (p : Int) (R : List Tk) : (isKind (.int p) && (R.all isSet && rising R) && decide (srt (p :: p :: tilesR R) = hs)) = decide ((p, R) ∈ partV (fun ts => allV 3 ts 0) hs) := by
  obtain ⟨h1, h2, h3, h4, h5⟩ := hand_iff.mp hh
  have hp := sorted_pairwise h2
  rw [Bool.eq_iff_iff, decide_eq_true_eq, part_mem (n := 3) (by omega)]
  simp only [Bool.and_eq_true, decide_eq_true_eq, List.all_eq_true, rising_iff, srt_eq_iff hp]
  constructor
  · rintro ⟨⟨_, a, b⟩, c⟩
    exact ⟨fun x hx => (isset_mem x).mp (a x hx), b, c⟩
  · rintro ⟨a, b, c⟩
    refine ⟨⟨?_, fun x hx => (isset_mem x).mpr (a x hx), b⟩, c⟩
    have := h1 p (c.mem_iff.mp (by simp))
    simp [isKind, this.1, this.2]
end PL
set_option maxHeartbeats 4000000
namespace PL
open PySem PD PF
def V3 (ts : List Int) : List (List Tk) := allV 3 ts 0
theorem part_in {hs : List Int} (hh : isHand hs = true) {q : Pt} (h : q ∈ partV V3 hs) : goodR q.2 ∧ q.2.length ≤ 3 := by
  obtain ⟨h1, h2, h3, h4, h5⟩ := hand_iff.mp hh
  obtain ⟨p, R⟩ := q
  have := (part_mem (n := 3) (by omega)).mp h
  refine ⟨fun a ha => tkL_good (this.1 a ha), ?_⟩
  unfold partV at h
  obtain ⟨p', _, h'⟩ := List.mem_flatMap.mp h
  unfold partG at h'
  split at h'
  · obtain ⟨R', hR', e⟩ := List.mem_map.mp h'
    cases e
    exact (all_small 3 _ 0).2 _ hR'
  · simp at h'
structure HasM (T : Tab) (cC cH cS cP cM cI : Nat) : Prop where
  io : ∀ f, T.io f = false
  cell : ∀ (ns : List Int) (k : Nat), T.fn cC [scr ns, .int k] = .ret (.int (ns.getD k 0)) .none
  seed : ∀ s k : Int, T.fn cS [.int s, .int k] = .ret (.int (seedV s k)) .none
  hand : ∀ (s w : Int) (m : Nat), 1 ≤ m ∧ m ≤ 11 → ∃ ns : List Int, isHand ns = true ∧ ns.length = m ∧ T.fn cH [.int s, .int m, .int w] = .ret (.tuple (ns.map .int)) .none
  mix : ∀ c p m : Int, 0 < p → p < 2147483647 → 0 < m → T.fn cM [.int c, .int p, .int m] = .ret (.int (mixV c p m)) .none
  parts : ∀ hs : List Int, isHand hs = true → T.fn cP [.tuple (hs.map .int)] = .ret (.list ((partV V3 hs).map ptD)) .none
  isF : ∀ hs : List Int, isHand hs = true → ∀ (p : Int) (R : List Tk), goodR R → R.length < 100 → T.fn cI [.tuple (hs.map .int), ptD (p, R)] = .ret (.bool (decide ((p, R) ∈ partV V3 hs))) .none
  isN : ∀ hs : List Int, isHand hs = true → ∀ d, NoForm d → T.fn cI [.tuple (hs.map .int), d] = .ret (.bool false) .none
theorem eqv_pt (a b : Pt) : PyData.eqv (ptD a) (ptD b) = decide (a = b) := by
  obtain ⟨p, R⟩ := a
  obtain ⟨q, S⟩ := b
  unfold ptD rowD
  simp only [PyData.eqv, PyData.eqvAll, eqvAll_tks, Bool.and_true]
  have : ∀ i j : Int, PyData.eqv (.int i) (.int j) = decide (i = j) := fun i j => by
    have := eqvAll_int [i] [j]
    simpa [PyData.eqvAll] using this
  rw [Bool.eq_iff_iff]
  simp [PyData.eqv, Prod.mk.injEq]
def inQ (hs : List Int) (d : PyData) : Bool := ((partV V3 hs).map ptD).any fun z => PyData.eqv z d
theorem inQ_pt (hs : List Int) (q : Pt) : inQ hs (ptD q) = decide (q ∈ partV V3 hs) := by
  unfold inQ
  rw [List.any_map, Bool.eq_iff_iff]
  simp [eqv_pt]
theorem inQ_no (hs : List Int) (d : PyData) (h : ∀ q : Pt, PyData.eqv (ptD q) d = false) : inQ hs d = false := by
  unfold inQ
  rw [List.any_map]
  rw [List.any_eq_false]
  intro q _
  simp [h q]
end PL
set_option maxHeartbeats 4000000
namespace PL
open PySem PD PF
theorem sh_pt {p : Int} {R : List Tk} (h : goodR R) : SeqAt.shaped (ptD (p, R)) = true := by
  have d := dep_tks (R := R)
  have l := lay_tks h
  unfold SeqAt.shaped ptD rowD
  rw [Bool.and_eq_true, decide_eq_true_eq]
  refine ⟨by simp [PyData.canLay0, PyData.canLayAll0, l], ?_⟩
  simp only [PyData.depth, PyData.depthAll]
  omega
theorem lay_pts : ∀ {Q : List Pt}, (∀ q ∈ Q, goodR q.2) → PyData.canLayAll0 (Q.map ptD) = true
  | [], _ => rfl
  | q :: Q, h => by
    have l := lay_tks (h q (by simp))
    simp [PyData.canLayAll0, PyData.canLay0, ptD, rowD, l, lay_pts fun a ha => h a (List.mem_cons_of_mem _ ha)]
theorem dep_pts : ∀ {Q : List Pt}, PyData.depthAll (Q.map ptD) ≤ 3
  | [] => by simp [PyData.depthAll]
  | q :: Q => by
    have d := dep_tks (R := q.2)
    have ih := dep_pts (Q := Q)
    simp only [List.map_cons, PyData.depthAll, ptD, rowD, PyData.depth]
    omega
theorem sh_pts {Q : List Pt} (h : ∀ q ∈ Q, goodR q.2) : SeqAt.shaped (.list (Q.map ptD)) = true := by
  have d := dep_pts (Q := Q)
  unfold SeqAt.shaped
  rw [Bool.and_eq_true, decide_eq_true_eq]
  refine ⟨by simp [PyData.canLay0, lay_pts h], ?_⟩
  simp only [PyData.depth]
  omega
/-- what the law asks of a thing, and gets -/
def OKd (T : Tab) (cI : Nat) (hs : List Int) (d : PyData) : Prop := ∃ B, T.fn cI [.tuple (hs.map .int), d] = .ret (.bool B) .none ∧ SeqAt.shaped d = true ∧
  ((inQ hs d = false ∧ B = false) ∨ ∃ x, ixop d (.int 0) = some x ∧ imm x = true ∧ ((x = .bool true ∧ B = false) ∨ ∃ i, x = .int i ∧ B = inQ hs d))
section
variable {T : Tab} {cC cH cS cP cM cI : Nat} (hT : HasM T cC cH cS cP cM cI) {hs : List Int} (hh : isHand hs = true)
include hT hh
theorem okd_pt (p : Int) (R : List Tk) (h : goodR R) (l : R.length < 100) : OKd T cI hs (ptD (p, R)) := by
  refine ⟨_, hT.isF hs hh p R h l, sh_pt h, .inr ⟨.int p, rfl, rfl, .inr ⟨p, rfl, ?_⟩⟩⟩
  rw [inQ_pt]
theorem okd_no (d : PyData) (h : NoForm d) (s : SeqAt.shaped d = true) (q : ∀ q : Pt, PyData.eqv (ptD q) d = false) : OKd T cI hs d :=
  ⟨false, hT.isN hs hh d h, s, .inl ⟨inQ_no hs d q, rfl⟩⟩
end
def odds3 (p : Int) (R : List Tk) : List PyData := [ptD (p, R), .tuple [.int p, .list (R.map tkD)], ptD (p, R.reverse), ptD (21, R), .tuple [.bool true, rowD R], .none, .list [.int p, rowD R],
  ptD (p, R ++ [(("run" : Str), (4 : Int))]), ptD (p, R ++ [(("two" : Str), (3 : Int))]), .tuple [.int p, rowD R, .tuple []], ptD (p, R.drop 1)]
theorem goodR_sub {R S : List Tk} (h : goodR R) (hs : ∀ a ∈ S, a ∈ R) : goodR S := fun a ha => h a (hs a ha)
theorem odds3_ok {T : Tab} {cC cH cS cP cM cI : Nat} (hT : HasM T cC cH cS cP cM cI) {hs : List Int} (hh : isHand hs = true) (p : Int) (R : List Tk) (hR : goodR R) (hl : R.length ≤ 3) : ∀ d ∈ odds3 p R, OKd T cI hs d := by
  have l := lay_tks hR
  have dp := dep_tks (R := R)
  intro d hd
  unfold odds3 at hd
  simp only [List.mem_cons, List.not_mem_nil, or_false] at hd
  rcases hd with rfl | rfl | rfl | rfl | rfl | rfl | rfl | rfl | rfl | rfl | rfl
  · exact okd_pt hT hh p R hR (by omega)
  · refine okd_no hT hh _ (.inner p R) ?_ fun q => ?_
    · unfold SeqAt.shaped
      rw [Bool.and_eq_true, decide_eq_true_eq]
      refine ⟨by simp [PyData.canLay0, PyData.canLayAll0, l], ?_⟩
      simp only [PyData.depth, PyData.depthAll]
      omega
    · simp [ptD, rowD, PyData.eqv, PyData.eqvAll]
  · exact okd_pt hT hh p R.reverse (goodR_sub hR fun a ha => by simpa using ha) (by rw [List.length_reverse]; omega)
  · exact okd_pt hT hh 21 R hR (by omega)
  · refine ⟨false, hT.isN hs hh _ (.kind (.bool true) R rfl rfl rfl), ?_, .inr ⟨.bool true, rfl, rfl, .inl ⟨rfl, rfl⟩⟩⟩
    unfold SeqAt.shaped
    rw [Bool.and_eq_true, decide_eq_true_eq]
    refine ⟨by simp [PyData.canLay0, PyData.canLayAll0, rowD, l], ?_⟩
    simp only [PyData.depth, PyData.depthAll, rowD]
    omega
  · exact okd_no hT hh _ .non rfl fun q => by simp [ptD, PyData.eqv]
  · refine okd_no hT hh _ (.lst _) ?_ fun q => ?_
    · unfold SeqAt.shaped
      rw [Bool.and_eq_true, decide_eq_true_eq]
      refine ⟨by simp [PyData.canLay0, PyData.canLayAll0, rowD, l], ?_⟩
      simp only [PyData.depth, PyData.depthAll, rowD]
      omega
    · simp [ptD, rowD, PyData.eqv, PyData.eqvAll]
  · refine okd_pt hT hh p _ (fun a ha => ?_) (by simp; omega)
    rcases List.mem_append.mp ha with z | z
    · exact hR a z
    · rw [List.mem_singleton.mp z]; exact okS_run
  · refine okd_pt hT hh p _ (fun a ha => ?_) (by simp; omega)
    rcases List.mem_append.mp ha with z | z
    · exact hR a z
    · rw [List.mem_singleton.mp z]; exact okS_two
  · refine okd_no hT hh _ (.len p R) ?_ fun q => ?_
    · unfold SeqAt.shaped
      rw [Bool.and_eq_true, decide_eq_true_eq]
      refine ⟨by simp [PyData.canLay0, PyData.canLayAll0, rowD, l], ?_⟩
      simp only [PyData.depth, PyData.depthAll, rowD]
      omega
    · simp [ptD, rowD, PyData.eqv, PyData.eqvAll]
  · exact okd_pt hT hh p _ (goodR_sub hR fun a ha => List.mem_of_mem_drop ha) (by rw [List.length_drop]; omega)
end PL
set_option maxHeartbeats 4000000
namespace PL
open PySem PD PF
def rhoM (ns : List Int) (m : Int) (hs : List Int) (c d e f g h : Sl) : Rho := [.vw [] (scr ns), .own (.int m), .own (.tuple (hs.map .int)), c, d, e, f, g, h]
def ms1 (cC : Nat) : S := .set 1 (.ix (.lst (.cons (.c (.int 2)) (.cons (.c (.int 5)) (.cons (.c (.int 8)) (.cons (.c (.int 11)) .nil))))) (.bin .mod (.call cC (.cons (.v 0) (.cons (.c (.int 0)) .nil))) (.c (.int 4))))
def ms2 (cC cH cS : Nat) : S := .set 2 (.call cH (.cons (.call cS (.cons (.call cC (.cons (.v 0) (.cons (.c (.int 1)) .nil))) (.cons (.c (.int 0)) .nil))) (.cons (.v 1) (.cons (.c (.int 2)) .nil))))
def ms3 (cC cH cS cP : Nat) : S := .set 3 (.bin .add (.bin .add (.call cP (.cons (.v 2) .nil)) (.call cP (.cons (.call cH (.cons (.call cS (.cons (.call cC (.cons (.v 0) (.cons (.c (.int 3)) .nil))) (.cons (.c (.int 1)) .nil))) (.cons (.v 1) (.cons (.c (.int 2)) .nil)))) .nil))) (.lst (.cons (.tup (.cons (.c (.int 3)) (.cons (.tup .nil) .nil))) .nil)))
def ms4 (cC cM : Nat) : S := .setT [4, 5] (.ix (.v 3) (.call cM (.cons (.call cC (.cons (.v 0) (.cons (.c (.int 2)) .nil))) (.cons (.c (.int 9949)) (.cons (.bi .len (.cons (.v 3) .nil)) .nil)))))
def ms5 : S := .set 6 (.lst (.cons (.tup (.cons (.v 4) (.cons (.v 5) .nil))) (.cons (.tup (.cons (.v 4) (.cons (.bi .list (.cons (.v 5) .nil)) .nil))) (.cons (.tup (.cons (.v 4) (.cons (.rev (.v 5)) .nil))) (.cons (.tup (.cons (.c (.int 21)) (.cons (.v 5) .nil))) (.cons (.tup (.cons (.c (.bool true)) (.cons (.v 5) .nil))) (.cons (.c .none) (.cons (.lst (.cons (.v 4) (.cons (.v 5) .nil))) .nil))))))))
def ms6 : S := .set 6 (.bin .add (.v 6) (.lst (.cons (.tup (.cons (.v 4) (.cons (.bin .add (.v 5) (.tup (.cons (.tup (.cons (.c (.str "run")) (.cons (.c (.int 4)) .nil))) .nil))) .nil))) (.cons (.tup (.cons (.v 4) (.cons (.bin .add (.v 5) (.tup (.cons (.tup (.cons (.c (.str "two")) (.cons (.c (.int 3)) .nil))) .nil))) .nil))) (.cons (.tup (.cons (.v 4) (.cons (.v 5) (.cons (.tup .nil) .nil)))) (.cons (.tup (.cons (.v 4) (.cons (.sl (.v 5) (.c (.int 1)) .omit) .nil))) .nil))))))
def ms7 (cC : Nat) : S := .set 7 (.ix (.v 6) (.bin .mod (.call cC (.cons (.v 0) (.cons (.c (.int 4)) .nil))) (.c (.int 11))))
def ms8 (cI : Nat) : S := .set 8 (.call cI (.cons (.v 2) (.cons (.v 7) .nil)))
def ms9 (cP : Nat) : S := .ret (.and2 (.isi (.v 8) .bool) (.one (.cmp .eq (.v 8) (.and2 (.cmp .in_ (.v 7) (.call cP (.cons (.v 2) .nil))) (.one (.cmp .isnot (.ix (.v 7) (.c (.int 0))) (.c (.bool true))))))))
theorem lawM_eq (cC cH cS cP cM cI : Nat) : sl_law_d04ccc cC cH cS cP cM cI = .cons (ms1 cC) (.cons (ms2 cC cH cS) (.cons (ms3 cC cH cS cP) (.cons (ms4 cC cM) (.cons ms5 (.cons ms6 (.cons (ms7 cC) (.cons (ms8 cI) (.cons (ms9 cP) .nil)))))))) := rfl
section
variable {T : Tab} {cC cH cS cP cM cI : Nat} (hT : HasM T cC cH cS cP cM cI) (ns : List Int)
include hT
theorem m1_ok : ∃ m : Nat, (m = 2 ∨ m = 5 ∨ m = 8 ∨ m = 11) ∧ exS T (ms1 cC) (startR 9 [scr ns]) = .nx [.vw [] (scr ns), .own (.int m), .un, .un, .un, .un, .un, .un, .un] := by
  have c0 : T.fn cC [scr ns, .int 0] = .ret (.int (ns.getD 0 0)) .none := hT.cell ns 0
  have b1 := Int.emod_nonneg (ns.getD 0 0) (show (4 : Int) ≠ 0 by decide)
  have b2 := Int.emod_lt_of_pos (ns.getD 0 0) (show (0 : Int) < 4 by decide)
  have f1 : (ns.getD 0 0).fmod 4 = ns.getD 0 0 % 4 := fm _ _ (by decide)
  have q : 4 ≤ lineN := by decide
  generalize ns.getD 0 0 = v at *
  have : v % 4 = 0 ∨ v % 4 = 1 ∨ v % 4 = 2 ∨ v % 4 = 3 := by omega
  rcases this with e | e | e | e
  · exact ⟨2, by simp, by unfold ms1; simp [xl_nil, xl_cons, x_set, x_aug, x_app, x_rem, x_ext, x_setT, x_ex, x_ret, x_ret0, x_pass, x_brk, x_cnt, x_if, x_raise, x_try, ev_def, evT_def, ev_v, ev_c, ev_g, ev_bin, ev_neg, ev_cmp, ev_chain, ev_and, ev_or, ev_one, ev_not, ev_ife, ev_ix, ev_sl, ev_rev, ev_tup, ev_lst, ev_call, ev_bi, ev_me, ev_isi, evL_nil, evL_cons, wR, PD.R.bind, PD.RL.bindR, PD.RL.bindN, PD.RI.bindR, PD.R.bindI, PD.RT.bindR, PD.RT.bind, optR, optB, PD.okR, optT, okI, negR, outR, callR, slR, lcR, itD, ofR, PD.R.toS, PD.RT.toS, PD.RI.toS, PD.RA.toS, startR, rd, PD.Rho.at, imm, immL, imm1, tnt, mkT, inOk, argS, giveS, PD.E.asV, PD.EL.one, PD.Sl.of, truth, outOf, bop, cop, ltD, leD, subD, addD, mulD, fdivD, modD, powD, ixop, lenD, biop, put, putTg, putAll, wipeR, PD.E.isOmit, List.map_cons, List.map_nil, List.length_cons, List.length_nil, List.set_cons_zero, List.set_cons_succ, List.set_nil, List.getD_cons_zero, List.getD_cons_succ, List.cons_append, List.nil_append, List.replicate, Option.getD, ownAt, chgS, appD, extD, remD, revD, augI, isTy, killV, killS, hT.io, imm_scr, c0, f1, e, atN, q]⟩
  · exact ⟨5, by simp, by unfold ms1; simp [xl_nil, xl_cons, x_set, x_aug, x_app, x_rem, x_ext, x_setT, x_ex, x_ret, x_ret0, x_pass, x_brk, x_cnt, x_if, x_raise, x_try, ev_def, evT_def, ev_v, ev_c, ev_g, ev_bin, ev_neg, ev_cmp, ev_chain, ev_and, ev_or, ev_one, ev_not, ev_ife, ev_ix, ev_sl, ev_rev, ev_tup, ev_lst, ev_call, ev_bi, ev_me, ev_isi, evL_nil, evL_cons, wR, PD.R.bind, PD.RL.bindR, PD.RL.bindN, PD.RI.bindR, PD.R.bindI, PD.RT.bindR, PD.RT.bind, optR, optB, PD.okR, optT, okI, negR, outR, callR, slR, lcR, itD, ofR, PD.R.toS, PD.RT.toS, PD.RI.toS, PD.RA.toS, startR, rd, PD.Rho.at, imm, immL, imm1, tnt, mkT, inOk, argS, giveS, PD.E.asV, PD.EL.one, PD.Sl.of, truth, outOf, bop, cop, ltD, leD, subD, addD, mulD, fdivD, modD, powD, ixop, lenD, biop, put, putTg, putAll, wipeR, PD.E.isOmit, List.map_cons, List.map_nil, List.length_cons, List.length_nil, List.set_cons_zero, List.set_cons_succ, List.set_nil, List.getD_cons_zero, List.getD_cons_succ, List.cons_append, List.nil_append, List.replicate, Option.getD, ownAt, chgS, appD, extD, remD, revD, augI, isTy, killV, killS, hT.io, imm_scr, c0, f1, e, atN, q]⟩
  · exact ⟨8, by simp, by unfold ms1; simp [xl_nil, xl_cons, x_set, x_aug, x_app, x_rem, x_ext, x_setT, x_ex, x_ret, x_ret0, x_pass, x_brk, x_cnt, x_if, x_raise, x_try, ev_def, evT_def, ev_v, ev_c, ev_g, ev_bin, ev_neg, ev_cmp, ev_chain, ev_and, ev_or, ev_one, ev_not, ev_ife, ev_ix, ev_sl, ev_rev, ev_tup, ev_lst, ev_call, ev_bi, ev_me, ev_isi, evL_nil, evL_cons, wR, PD.R.bind, PD.RL.bindR, PD.RL.bindN, PD.RI.bindR, PD.R.bindI, PD.RT.bindR, PD.RT.bind, optR, optB, PD.okR, optT, okI, negR, outR, callR, slR, lcR, itD, ofR, PD.R.toS, PD.RT.toS, PD.RI.toS, PD.RA.toS, startR, rd, PD.Rho.at, imm, immL, imm1, tnt, mkT, inOk, argS, giveS, PD.E.asV, PD.EL.one, PD.Sl.of, truth, outOf, bop, cop, ltD, leD, subD, addD, mulD, fdivD, modD, powD, ixop, lenD, biop, put, putTg, putAll, wipeR, PD.E.isOmit, List.map_cons, List.map_nil, List.length_cons, List.length_nil, List.set_cons_zero, List.set_cons_succ, List.set_nil, List.getD_cons_zero, List.getD_cons_succ, List.cons_append, List.nil_append, List.replicate, Option.getD, ownAt, chgS, appD, extD, remD, revD, augI, isTy, killV, killS, hT.io, imm_scr, c0, f1, e, atN, q]⟩
  · exact ⟨11, by simp, by unfold ms1; simp [xl_nil, xl_cons, x_set, x_aug, x_app, x_rem, x_ext, x_setT, x_ex, x_ret, x_ret0, x_pass, x_brk, x_cnt, x_if, x_raise, x_try, ev_def, evT_def, ev_v, ev_c, ev_g, ev_bin, ev_neg, ev_cmp, ev_chain, ev_and, ev_or, ev_one, ev_not, ev_ife, ev_ix, ev_sl, ev_rev, ev_tup, ev_lst, ev_call, ev_bi, ev_me, ev_isi, evL_nil, evL_cons, wR, PD.R.bind, PD.RL.bindR, PD.RL.bindN, PD.RI.bindR, PD.R.bindI, PD.RT.bindR, PD.RT.bind, optR, optB, PD.okR, optT, okI, negR, outR, callR, slR, lcR, itD, ofR, PD.R.toS, PD.RT.toS, PD.RI.toS, PD.RA.toS, startR, rd, PD.Rho.at, imm, immL, imm1, tnt, mkT, inOk, argS, giveS, PD.E.asV, PD.EL.one, PD.Sl.of, truth, outOf, bop, cop, ltD, leD, subD, addD, mulD, fdivD, modD, powD, ixop, lenD, biop, put, putTg, putAll, wipeR, PD.E.isOmit, List.map_cons, List.map_nil, List.length_cons, List.length_nil, List.set_cons_zero, List.set_cons_succ, List.set_nil, List.getD_cons_zero, List.getD_cons_succ, List.cons_append, List.nil_append, List.replicate, Option.getD, ownAt, chgS, appD, extD, remD, revD, augI, isTy, killV, killS, hT.io, imm_scr, c0, f1, e, atN, q]⟩
theorem m2_ok (m : Nat) (hm : 1 ≤ m ∧ m ≤ 11) : ∃ hs, isHand hs = true ∧ hs.length = m ∧ exS T (ms2 cC cH cS) [.vw [] (scr ns), .own (.int m), .un, .un, .un, .un, .un, .un, .un] = .nx (rhoM ns m hs .un .un .un .un .un .un) := by
  have c1 : T.fn cC [scr ns, .int 1] = .ret (.int (ns.getD 1 0)) .none := hT.cell ns 1
  obtain ⟨hs, hh, hl, he⟩ := hT.hand (seedV (ns.getD 1 0) 0) 2 m hm
  refine ⟨hs, hh, hl, ?_⟩
  have i0 := immL_int hs
  unfold rhoM ms2
  generalize ns.getD 1 0 = v at *
  generalize hs.map PyData.int = MH at *
  simp [xl_nil, xl_cons, x_set, x_aug, x_app, x_rem, x_ext, x_setT, x_ex, x_ret, x_ret0, x_pass, x_brk, x_cnt, x_if, x_raise, x_try, ev_def, evT_def, ev_v, ev_c, ev_g, ev_bin, ev_neg, ev_cmp, ev_chain, ev_and, ev_or, ev_one, ev_not, ev_ife, ev_ix, ev_sl, ev_rev, ev_tup, ev_lst, ev_call, ev_bi, ev_me, ev_isi, evL_nil, evL_cons, wR, PD.R.bind, PD.RL.bindR, PD.RL.bindN, PD.RI.bindR, PD.R.bindI, PD.RT.bindR, PD.RT.bind, optR, optB, PD.okR, optT, okI, negR, outR, callR, slR, lcR, itD, ofR, PD.R.toS, PD.RT.toS, PD.RI.toS, PD.RA.toS, startR, rd, PD.Rho.at, imm, immL, imm1, tnt, mkT, inOk, argS, giveS, PD.E.asV, PD.EL.one, PD.Sl.of, truth, outOf, bop, cop, ltD, leD, subD, addD, mulD, fdivD, modD, powD, ixop, lenD, biop, put, putTg, putAll, wipeR, PD.E.isOmit, List.map_cons, List.map_nil, List.length_cons, List.length_nil, List.set_cons_zero, List.set_cons_succ, List.set_nil, List.getD_cons_zero, List.getD_cons_succ, List.cons_append, List.nil_append, List.replicate, Option.getD, ownAt, chgS, appD, extD, remD, revD, augI, isTy, killV, killS, hT.io, imm_scr, c1, hT.seed, he, i0]
theorem m3_ok (m : Nat) (hm : 1 ≤ m ∧ m ≤ 11) (hs : List Int) (hh : isHand hs = true) : ∃ hs2, isHand hs2 = true ∧ exS T (ms3 cC cH cS cP) (rhoM ns m hs .un .un .un .un .un .un) = .nx (rhoM ns m hs (.own (.list ((partV V3 hs ++ partV V3 hs2 ++ [(3, [])]).map ptD))) .un .un .un .un .un) := by
  have c1 : T.fn cC [scr ns, .int 3] = .ret (.int (ns.getD 3 0)) .none := hT.cell ns 3
  obtain ⟨hs2, hh2, hl, he⟩ := hT.hand (seedV (ns.getD 3 0) 1) 2 m hm
  refine ⟨hs2, hh2, ?_⟩
  have i0 := immL_int hs
  have i2 := immL_int hs2
  have p1 := hT.parts hs hh
  have p2 := hT.parts hs2 hh2
  have j1 := imm_pts (partV V3 hs)
  have j2 := imm_pts (partV V3 hs2)
  have pl : ∀ hs : List Int, isHand hs = true → (partV V3 hs).length ≤ 11 * 40000 := fun hs hh => by
    obtain ⟨h1, h2, h3, h4, h5⟩ := hand_iff.mp hh
    unfold partV
    have sum : ∀ is : List Int, (is.flatMap (partG V3 hs)).length ≤ is.length * 40000 := fun is => by
      induction is with
      | nil => simp
      | cons i is ih =>
        rw [List.flatMap_cons, List.length_append, List.length_cons, Nat.succ_mul]
        have := partG_len V3 hs i 40000 (by have := (all_small 3 ((hs.erase i).erase i) 0).1; unfold V3; omega)
        omega
    have := sum (uniq hs)
    have := uniq_len hs
    omega
  have l1 := pl hs hh
  have l2 := pl hs2 hh2
  have e : (partV V3 hs).map ptD ++ (partV V3 hs2).map ptD ++ [.tuple [.int 3, .tuple []]] = (partV V3 hs ++ partV V3 hs2 ++ [(3, [])]).map ptD := by simp [ptD, rowD]
  rw [← e]
  have l3 : ((partV V3 hs).map ptD).length ≤ 440000 := by simpa using l1
  have l4 : ((partV V3 hs2).map ptD).length ≤ 440000 := by simpa using l2
  have q1 : ((partV V3 hs).map ptD).length + ((partV V3 hs2).map ptD).length ≤ lineN := by unfold lineN; omega
  have q2 : ((partV V3 hs).map ptD).length + ((partV V3 hs2).map ptD).length + 1 ≤ lineN := by unfold lineN; omega
  have q3 : 2 ≤ lineN := by decide
  have q4 : 0 ≤ lineN := by decide
  have q5 : 1 ≤ lineN := by decide
  unfold rhoM ms3
  clear l1 l2 l3 l4 pl e
  generalize ns.getD 3 0 = v at *
  generalize (partV V3 hs).map ptD = P1 at *
  generalize (partV V3 hs2).map ptD = P2 at *
  generalize hs.map PyData.int = MH at *
  generalize hs2.map PyData.int = MH2 at *
  simp [xl_nil, xl_cons, x_set, x_aug, x_app, x_rem, x_ext, x_setT, x_ex, x_ret, x_ret0, x_pass, x_brk, x_cnt, x_if, x_raise, x_try, ev_def, evT_def, ev_v, ev_c, ev_g, ev_bin, ev_neg, ev_cmp, ev_chain, ev_and, ev_or, ev_one, ev_not, ev_ife, ev_ix, ev_sl, ev_rev, ev_tup, ev_lst, ev_call, ev_bi, ev_me, ev_isi, evL_nil, evL_cons, wR, PD.R.bind, PD.RL.bindR, PD.RL.bindN, PD.RI.bindR, PD.R.bindI, PD.RT.bindR, PD.RT.bind, optR, optB, PD.okR, optT, okI, negR, outR, callR, slR, lcR, itD, ofR, PD.R.toS, PD.RT.toS, PD.RI.toS, PD.RA.toS, startR, rd, PD.Rho.at, imm, immL, imm1, tnt, mkT, inOk, argS, giveS, PD.E.asV, PD.EL.one, PD.Sl.of, truth, outOf, bop, cop, ltD, leD, subD, addD, mulD, fdivD, modD, powD, ixop, lenD, biop, put, putTg, putAll, wipeR, PD.E.isOmit, List.map_cons, List.map_nil, List.length_cons, List.length_nil, List.set_cons_zero, List.set_cons_succ, List.set_nil, List.getD_cons_zero, List.getD_cons_succ, List.cons_append, List.nil_append, List.replicate, Option.getD, ownAt, chgS, appD, extD, remD, revD, augI, isTy, killV, killS, hT.io, imm_scr, c1, hT.seed, he, i0, i2, p1, p2, j1, j2, q1, q2, q3, q4, q5, immL_append]
theorem m4_ok (m : Int) (hs : List Int) (S : List Pt) (hS : 0 < S.length) : ∃ q ∈ S, exS T (ms4 cC cM) (rhoM ns m hs (.own (.list (S.map ptD))) .un .un .un .un .un) = .nx (rhoM ns m hs (.own (.list (S.map ptD))) (.own (.int q.1)) (.own (rowD q.2)) .un .un .un) := by
  have c2 : T.fn cC [scr ns, .int 2] = .ret (.int (ns.getD 2 0)) .none := hT.cell ns 2
  have mx := hT.mix (ns.getD 2 0) 9949 S.length (by decide) (by decide) (by omega)
  have mr := mix_rng (ns.getD 2 0) 9949 S.length (by omega)
  have e0 : ((S.map ptD).length : Int) = S.length := by simp
  generalize mixV (ns.getD 2 0) 9949 S.length = i at *
  have hx : i.toNat < S.length := by omega
  have a1 : atN (S.map ptD) i = some (ptD S[i.toNat]) := by
    unfold atN
    rw [if_pos mr.1]
    simp [hx]
  refine ⟨S[i.toNat], List.getElem_mem hx, ?_⟩
  generalize S[i.toNat] = q at *
  have i1 := imm_pts S
  have ip := imm_pt q
  have ir := imm_row q.2
  unfold rhoM ms4
  rw [show ptD q = .tuple [.int q.1, rowD q.2] from rfl] at a1 ip
  generalize ns.getD 2 0 = v at *
  generalize rowD q.2 = RQ at *
  rw [← e0] at mx
  generalize S.map ptD = MS at *
  generalize hs.map PyData.int = MH at *
  simp [xl_nil, xl_cons, x_set, x_aug, x_app, x_rem, x_ext, x_setT, x_ex, x_ret, x_ret0, x_pass, x_brk, x_cnt, x_if, x_raise, x_try, ev_def, evT_def, ev_v, ev_c, ev_g, ev_bin, ev_neg, ev_cmp, ev_chain, ev_and, ev_or, ev_one, ev_not, ev_ife, ev_ix, ev_sl, ev_rev, ev_tup, ev_lst, ev_call, ev_bi, ev_me, ev_isi, evL_nil, evL_cons, wR, PD.R.bind, PD.RL.bindR, PD.RL.bindN, PD.RI.bindR, PD.R.bindI, PD.RT.bindR, PD.RT.bind, optR, optB, PD.okR, optT, okI, negR, outR, callR, slR, lcR, itD, ofR, PD.R.toS, PD.RT.toS, PD.RI.toS, PD.RA.toS, startR, rd, PD.Rho.at, imm, immL, imm1, tnt, mkT, inOk, argS, giveS, PD.E.asV, PD.EL.one, PD.Sl.of, truth, outOf, bop, cop, ltD, leD, subD, addD, mulD, fdivD, modD, powD, ixop, lenD, biop, put, putTg, putAll, wipeR, PD.E.isOmit, List.map_cons, List.map_nil, List.length_cons, List.length_nil, List.set_cons_zero, List.set_cons_succ, List.set_nil, List.getD_cons_zero, List.getD_cons_succ, List.cons_append, List.nil_append, List.replicate, Option.getD, ownAt, chgS, appD, extD, remD, revD, augI, isTy, killV, killS, hT.io, imm_scr, c2, mx, a1, i1, ip, ir]
end
end PL
set_option maxHeartbeats 4000000
namespace PL
open PySem PD PF
def oddsA (p : Int) (R : List Tk) : List PyData := [ptD (p, R), .tuple [.int p, .list (R.map tkD)], ptD (p, R.reverse), ptD (21, R), .tuple [.bool true, rowD R], .none, .list [.int p, rowD R]]
def oddsB (p : Int) (R : List Tk) : List PyData := [ptD (p, R ++ [(("run" : Str), (4 : Int))]), ptD (p, R ++ [(("two" : Str), (3 : Int))]), .tuple [.int p, rowD R, .tuple []], ptD (p, R.drop 1)]
theorem odds_ab (p : Int) (R : List Tk) : odds3 p R = oddsA p R ++ oddsB p R := rfl
section
variable {T : Tab} {cC cH cS cP cM cI : Nat} (hT : HasM T cC cH cS cP cM cI) (ns : List Int) (m : Int) (hs : List Int) (c : Sl) (p : Int) (R : List Tk) (hl : R.length ≤ 3)
theorem m5_ok : exS T ms5 (rhoM ns m hs c (.own (.int p)) (.own (rowD R)) .un .un .un) = .nx (rhoM ns m hs c (.own (.int p)) (.own (rowD R)) (.own (.list (oddsA p R))) .un .un) := by
  have ir := imm_tks R
  have irr := imm_tks R.reverse
  have er : R.reverse.map tkD = (R.map tkD).reverse := by simp
  have q2 : 2 ≤ lineN := by decide
  have q7 : 7 ≤ lineN := by decide
  rw [er] at irr
  unfold rhoM ms5 oddsA ptD rowD
  dsimp only
  rw [er]
  generalize R.map tkD = MR at *
  generalize hs.map PyData.int = MH at *
  simp [xl_nil, xl_cons, x_set, x_aug, x_app, x_rem, x_ext, x_setT, x_ex, x_ret, x_ret0, x_pass, x_brk, x_cnt, x_if, x_raise, x_try, ev_def, evT_def, ev_v, ev_c, ev_g, ev_bin, ev_neg, ev_cmp, ev_chain, ev_and, ev_or, ev_one, ev_not, ev_ife, ev_ix, ev_sl, ev_rev, ev_tup, ev_lst, ev_call, ev_bi, ev_me, ev_isi, evL_nil, evL_cons, wR, PD.R.bind, PD.RL.bindR, PD.RL.bindN, PD.RI.bindR, PD.R.bindI, PD.RT.bindR, PD.RT.bind, optR, optB, PD.okR, optT, okI, negR, outR, callR, slR, lcR, itD, ofR, PD.R.toS, PD.RT.toS, PD.RI.toS, PD.RA.toS, startR, rd, PD.Rho.at, imm, immL, imm1, tnt, mkT, inOk, argS, giveS, PD.E.asV, PD.EL.one, PD.Sl.of, truth, outOf, bop, cop, ltD, leD, subD, addD, mulD, fdivD, modD, powD, ixop, lenD, biop, put, putTg, putAll, wipeR, PD.E.isOmit, List.map_cons, List.map_nil, List.length_cons, List.length_nil, List.set_cons_zero, List.set_cons_succ, List.set_nil, List.getD_cons_zero, List.getD_cons_succ, List.cons_append, List.nil_append, List.replicate, Option.getD, ownAt, chgS, appD, extD, remD, revD, augI, isTy, killV, killS, ir, irr, q2, q7, listD]
include hl
theorem m6_ok : exS T ms6 (rhoM ns m hs c (.own (.int p)) (.own (rowD R)) (.own (.list (oddsA p R))) .un .un) = .nx (rhoM ns m hs c (.own (.int p)) (.own (rowD R)) (.vw [6] (.list (odds3 p R))) .un .un) := by
  have ir := imm_tks R
  have i1 := imm_tks (R ++ [(("run" : Str), (4 : Int))])
  have i2 := imm_tks (R ++ [(("two" : Str), (3 : Int))])
  have i3 := imm_tks (R.drop 1)
  have er1 : (R.map tkD) ++ [.tuple [.str "run", .int 4]] = (R ++ [(("run" : Str), (4 : Int))]).map tkD := by simp [tkD]
  have er2 : (R.map tkD) ++ [.tuple [.str "two", .int 3]] = (R ++ [(("two" : Str), (3 : Int))]).map tkD := by simp [tkD]
  have er3 : cutL (R.map tkD) (some (1 : Int)) none = (R.drop 1).map tkD := by
    unfold cutL slIx
    simp [List.map_drop]
    cases R with
    | nil => simp
    | cons a r =>
      simp only [List.length_cons, List.map_cons, List.drop_succ_cons, List.drop_zero]
      rw [show min 1 (r.length + 1) = 1 by omega]
      simp only [List.drop_succ_cons, List.drop_zero]
      exact List.take_of_length_le (by simp)
  have la : (R.map tkD).length + 1 ≤ lineN := by simp; unfold lineN; omega
  have q1 : 1 ≤ lineN := by decide
  have q2 : 2 ≤ lineN := by decide
  have q3 : 3 ≤ lineN := by decide
  have q4 : 4 ≤ lineN := by decide
  have q0 : 0 ≤ lineN := by decide
  have ab := odds_ab p R
  have lA : (oddsA p R).length = 7 := rfl
  have nA : immL (oddsA p R) = false := by simp [oddsA, immL, imm]
  have nAB : immL (odds3 p R) = false := by simp [odds3, immL, imm]
  have q11 : 7 + 4 ≤ lineN := by decide
  unfold oddsB ptD rowD at ab
  rw [← er1, ← er2] at ab
  rw [← er1] at i1
  rw [← er2] at i2
  rw [ab] at nAB ⊢
  generalize oddsA p R = OA at *
  dsimp only at *
  unfold rhoM ms6 rowD
  generalize (R.drop 1).map tkD = MD at *
  generalize R.map tkD = MR at *
  generalize hs.map PyData.int = MH at *
  simp [xl_nil, xl_cons, x_set, x_aug, x_app, x_rem, x_ext, x_setT, x_ex, x_ret, x_ret0, x_pass, x_brk, x_cnt, x_if, x_raise, x_try, ev_def, evT_def, ev_v, ev_c, ev_g, ev_bin, ev_neg, ev_cmp, ev_chain, ev_and, ev_or, ev_one, ev_not, ev_ife, ev_ix, ev_sl, ev_rev, ev_tup, ev_lst, ev_call, ev_bi, ev_me, ev_isi, evL_nil, evL_cons, wR, PD.R.bind, PD.RL.bindR, PD.RL.bindN, PD.RI.bindR, PD.R.bindI, PD.RT.bindR, PD.RT.bind, optR, optB, PD.okR, optT, okI, negR, outR, callR, slR, lcR, itD, ofR, PD.R.toS, PD.RT.toS, PD.RI.toS, PD.RA.toS, startR, rd, PD.Rho.at, imm, immL, imm1, tnt, mkT, inOk, argS, giveS, PD.E.asV, PD.EL.one, PD.Sl.of, truth, outOf, bop, cop, ltD, leD, subD, addD, mulD, fdivD, modD, powD, ixop, lenD, biop, put, putTg, putAll, wipeR, PD.E.isOmit, List.map_cons, List.map_nil, List.length_cons, List.length_nil, List.set_cons_zero, List.set_cons_succ, List.set_nil, List.getD_cons_zero, List.getD_cons_succ, List.cons_append, List.nil_append, List.replicate, Option.getD, ownAt, chgS, appD, extD, remD, revD, augI, isTy, killV, killS, ir, i1, i2, i3, q0, q1, q2, q3, q4, la, slop, partOf, er3, lA, nA, q11, nAB, immL_append]
end
section
variable {T : Tab} {cC cH cS cP cM cI : Nat} (hT : HasM T cC cH cS cP cM cI) (ns : List Int) (m : Int) (hs : List Int) (hh : isHand hs = true) (c : Sl) (p : Int) (R : List Tk) (hR : goodR R) (hl : R.length ≤ 3)
include hT hh hR hl
theorem m79_ok : ∃ ρ', exSL T (.cons (ms7 cC) (.cons (ms8 cI) (.cons (ms9 cP) .nil))) (rhoM ns m hs c (.own (.int p)) (.own (rowD R)) (.vw [6] (.list (odds3 p R))) .un .un) = .rt (.bool true) ρ' := by
  have cl : T.fn cC [scr ns, .int 4] = .ret (.int (ns.getD 4 0)) .none := hT.cell ns 4
  have b1 := Int.emod_nonneg (ns.getD 4 0) (show (11 : Int) ≠ 0 by decide)
  have b2 := Int.emod_lt_of_pos (ns.getD 4 0) (show (0 : Int) < 11 by decide)
  have f5 : (ns.getD 4 0).fmod 11 = ns.getD 4 0 % 11 := fm _ _ (by decide)
  have hx : (ns.getD 4 0 % 11).toNat < (odds3 p R).length := by show _ < 11; omega
  have a1 : atN (odds3 p R) (ns.getD 4 0 % 11) = some (odds3 p R)[(ns.getD 4 0 % 11).toNat] := by
    unfold atN
    rw [if_pos b1]
    simp [hx]
  have hm : (odds3 p R)[(ns.getD 4 0 % 11).toNat] ∈ odds3 p R := List.getElem_mem hx
  obtain ⟨B, o1, o2, o3⟩ := odds3_ok hT hh p R hR hl _ hm
  have nAB : immL (odds3 p R) = false := by simp [odds3, immL, imm]
  generalize (odds3 p R)[(ns.getD 4 0 % 11).toNat] = d at *
  generalize odds3 p R = OD at *
  generalize ns.getD 4 0 = v at *
  have i0 := immL_int hs
  have hQ : ∀ q ∈ partV V3 hs, goodR q.2 := fun q hq => (part_in hh hq).1
  have sQ := sh_pts hQ
  have iQ := imm_pts (partV V3 hs)
  have pp := hT.parts hs hh
  unfold inQ at o3
  generalize (partV V3 hs).map ptD = MQ at *
  generalize rowD R = RD at *
  have iB : ∀ b c : Bool, PyData.eqv (.bool b) (.bool c) = (b == c) := fun b c => by cases b <;> cases c <;> rfl
  have sB : ∀ b : Bool, SeqAt.shaped (.bool b) = true := fun b => by cases b <;> rfl
  have e7 : exS T (ms7 cC) (rhoM ns m hs c (.own (.int p)) (.own RD) (.vw [6] (.list OD)) .un .un) = .nx (rhoM ns m hs c (.own (.int p)) (.own RD) (.vw [6] (.list OD)) (Sl.of d (some [6, 6])) .un) := by
    unfold rhoM ms7
    by_cases im : imm d = true
    · simp [xl_nil, xl_cons, x_set, x_aug, x_app, x_rem, x_ext, x_setT, x_ex, x_ret, x_ret0, x_pass, x_brk, x_cnt, x_if, x_raise, x_try, ev_def, evT_def, ev_v, ev_c, ev_g, ev_bin, ev_neg, ev_cmp, ev_chain, ev_and, ev_or, ev_one, ev_not, ev_ife, ev_ix, ev_sl, ev_rev, ev_tup, ev_lst, ev_call, ev_bi, ev_me, ev_isi, evL_nil, evL_cons, wR, PD.R.bind, PD.RL.bindR, PD.RL.bindN, PD.RI.bindR, PD.R.bindI, PD.RT.bindR, PD.RT.bind, optR, optB, PD.okR, optT, okI, negR, outR, callR, slR, lcR, itD, ofR, PD.R.toS, PD.RT.toS, PD.RI.toS, PD.RA.toS, startR, rd, PD.Rho.at, imm, immL, imm1, tnt, mkT, inOk, argS, giveS, PD.E.asV, PD.EL.one, PD.Sl.of, truth, outOf, bop, cop, ltD, leD, subD, addD, mulD, fdivD, modD, powD, ixop, lenD, biop, put, putTg, putAll, wipeR, PD.E.isOmit, List.map_cons, List.map_nil, List.length_cons, List.length_nil, List.set_cons_zero, List.set_cons_succ, List.set_nil, List.getD_cons_zero, List.getD_cons_succ, List.cons_append, List.nil_append, List.replicate, Option.getD, ownAt, chgS, appD, extD, remD, revD, augI, isTy, killV, killS, hT.io, imm_scr, cl, f5, a1, nAB, im]
    · simp [xl_nil, xl_cons, x_set, x_aug, x_app, x_rem, x_ext, x_setT, x_ex, x_ret, x_ret0, x_pass, x_brk, x_cnt, x_if, x_raise, x_try, ev_def, evT_def, ev_v, ev_c, ev_g, ev_bin, ev_neg, ev_cmp, ev_chain, ev_and, ev_or, ev_one, ev_not, ev_ife, ev_ix, ev_sl, ev_rev, ev_tup, ev_lst, ev_call, ev_bi, ev_me, ev_isi, evL_nil, evL_cons, wR, PD.R.bind, PD.RL.bindR, PD.RL.bindN, PD.RI.bindR, PD.R.bindI, PD.RT.bindR, PD.RT.bind, optR, optB, PD.okR, optT, okI, negR, outR, callR, slR, lcR, itD, ofR, PD.R.toS, PD.RT.toS, PD.RI.toS, PD.RA.toS, startR, rd, PD.Rho.at, imm, immL, imm1, tnt, mkT, inOk, argS, giveS, PD.E.asV, PD.EL.one, PD.Sl.of, truth, outOf, bop, cop, ltD, leD, subD, addD, mulD, fdivD, modD, powD, ixop, lenD, biop, put, putTg, putAll, wipeR, PD.E.isOmit, List.map_cons, List.map_nil, List.length_cons, List.length_nil, List.set_cons_zero, List.set_cons_succ, List.set_nil, List.getD_cons_zero, List.getD_cons_succ, List.cons_append, List.nil_append, List.replicate, Option.getD, ownAt, chgS, appD, extD, remD, revD, augI, isTy, killV, killS, hT.io, imm_scr, cl, f5, a1, nAB, im]
  have e8 : exS T (ms8 cI) (rhoM ns m hs c (.own (.int p)) (.own RD) (.vw [6] (.list OD)) (Sl.of d (some [6, 6])) .un) = .nx (rhoM ns m hs c (.own (.int p)) (.own RD) (.vw [6] (.list OD)) (Sl.of d (some [6, 6])) (.own (.bool B))) := by
    unfold rhoM ms8
    generalize hs.map PyData.int = MH at *
    by_cases im : imm d = true
    · simp [xl_nil, xl_cons, x_set, x_aug, x_app, x_rem, x_ext, x_setT, x_ex, x_ret, x_ret0, x_pass, x_brk, x_cnt, x_if, x_raise, x_try, ev_def, evT_def, ev_v, ev_c, ev_g, ev_bin, ev_neg, ev_cmp, ev_chain, ev_and, ev_or, ev_one, ev_not, ev_ife, ev_ix, ev_sl, ev_rev, ev_tup, ev_lst, ev_call, ev_bi, ev_me, ev_isi, evL_nil, evL_cons, wR, PD.R.bind, PD.RL.bindR, PD.RL.bindN, PD.RI.bindR, PD.R.bindI, PD.RT.bindR, PD.RT.bind, optR, optB, PD.okR, optT, okI, negR, outR, callR, slR, lcR, itD, ofR, PD.R.toS, PD.RT.toS, PD.RI.toS, PD.RA.toS, startR, rd, PD.Rho.at, imm, immL, imm1, tnt, mkT, inOk, argS, giveS, PD.E.asV, PD.EL.one, PD.Sl.of, truth, outOf, bop, cop, ltD, leD, subD, addD, mulD, fdivD, modD, powD, ixop, lenD, biop, put, putTg, putAll, wipeR, PD.E.isOmit, List.map_cons, List.map_nil, List.length_cons, List.length_nil, List.set_cons_zero, List.set_cons_succ, List.set_nil, List.getD_cons_zero, List.getD_cons_succ, List.cons_append, List.nil_append, List.replicate, Option.getD, ownAt, chgS, appD, extD, remD, revD, augI, isTy, killV, killS, hT.io, i0, o1, im]
    · simp [xl_nil, xl_cons, x_set, x_aug, x_app, x_rem, x_ext, x_setT, x_ex, x_ret, x_ret0, x_pass, x_brk, x_cnt, x_if, x_raise, x_try, ev_def, evT_def, ev_v, ev_c, ev_g, ev_bin, ev_neg, ev_cmp, ev_chain, ev_and, ev_or, ev_one, ev_not, ev_ife, ev_ix, ev_sl, ev_rev, ev_tup, ev_lst, ev_call, ev_bi, ev_me, ev_isi, evL_nil, evL_cons, wR, PD.R.bind, PD.RL.bindR, PD.RL.bindN, PD.RI.bindR, PD.R.bindI, PD.RT.bindR, PD.RT.bind, optR, optB, PD.okR, optT, okI, negR, outR, callR, slR, lcR, itD, ofR, PD.R.toS, PD.RT.toS, PD.RI.toS, PD.RA.toS, startR, rd, PD.Rho.at, imm, immL, imm1, tnt, mkT, inOk, argS, giveS, PD.E.asV, PD.EL.one, PD.Sl.of, truth, outOf, bop, cop, ltD, leD, subD, addD, mulD, fdivD, modD, powD, ixop, lenD, biop, put, putTg, putAll, wipeR, PD.E.isOmit, List.map_cons, List.map_nil, List.length_cons, List.length_nil, List.set_cons_zero, List.set_cons_succ, List.set_nil, List.getD_cons_zero, List.getD_cons_succ, List.cons_append, List.nil_append, List.replicate, Option.getD, ownAt, chgS, appD, extD, remD, revD, augI, isTy, killV, killS, hT.io, i0, o1, im]
  have e9 : exS T (ms9 cP) (rhoM ns m hs c (.own (.int p)) (.own RD) (.vw [6] (.list OD)) (Sl.of d (some [6, 6])) (.own (.bool B))) = .rt (.bool true) (rhoM ns m hs c (.own (.int p)) (.own RD) (.vw [6] (.list OD)) (Sl.of d (some [6, 6])) (.own (.bool B))) := by
    unfold rhoM ms9
    generalize hs.map PyData.int = MH at *
    rcases o3 with ⟨n1, rfl⟩ | ⟨x, x1, x2, x3⟩
    · by_cases im : imm d = true
      · simp [xl_nil, xl_cons, x_set, x_aug, x_app, x_rem, x_ext, x_setT, x_ex, x_ret, x_ret0, x_pass, x_brk, x_cnt, x_if, x_raise, x_try, ev_def, evT_def, ev_v, ev_c, ev_g, ev_bin, ev_neg, ev_cmp, ev_chain, ev_and, ev_or, ev_one, ev_not, ev_ife, ev_ix, ev_sl, ev_rev, ev_tup, ev_lst, ev_call, ev_bi, ev_me, ev_isi, evL_nil, evL_cons, wR, PD.R.bind, PD.RL.bindR, PD.RL.bindN, PD.RI.bindR, PD.R.bindI, PD.RT.bindR, PD.RT.bind, optR, optB, PD.okR, optT, okI, negR, outR, callR, slR, lcR, itD, ofR, PD.R.toS, PD.RT.toS, PD.RI.toS, PD.RA.toS, startR, rd, PD.Rho.at, imm, immL, imm1, tnt, mkT, inOk, argS, giveS, PD.E.asV, PD.EL.one, PD.Sl.of, truth, outOf, bop, cop, ltD, leD, subD, addD, mulD, fdivD, modD, powD, ixop, lenD, biop, put, putTg, putAll, wipeR, PD.E.isOmit, List.map_cons, List.map_nil, List.length_cons, List.length_nil, List.set_cons_zero, List.set_cons_succ, List.set_nil, List.getD_cons_zero, List.getD_cons_succ, List.cons_append, List.nil_append, List.replicate, Option.getD, ownAt, chgS, appD, extD, remD, revD, augI, isTy, killV, killS, hT.io, i0, im, pp, iQ, inD, o2, sQ, n1, eqD, sB, iB]
      · simp [xl_nil, xl_cons, x_set, x_aug, x_app, x_rem, x_ext, x_setT, x_ex, x_ret, x_ret0, x_pass, x_brk, x_cnt, x_if, x_raise, x_try, ev_def, evT_def, ev_v, ev_c, ev_g, ev_bin, ev_neg, ev_cmp, ev_chain, ev_and, ev_or, ev_one, ev_not, ev_ife, ev_ix, ev_sl, ev_rev, ev_tup, ev_lst, ev_call, ev_bi, ev_me, ev_isi, evL_nil, evL_cons, wR, PD.R.bind, PD.RL.bindR, PD.RL.bindN, PD.RI.bindR, PD.R.bindI, PD.RT.bindR, PD.RT.bind, optR, optB, PD.okR, optT, okI, negR, outR, callR, slR, lcR, itD, ofR, PD.R.toS, PD.RT.toS, PD.RI.toS, PD.RA.toS, startR, rd, PD.Rho.at, imm, immL, imm1, tnt, mkT, inOk, argS, giveS, PD.E.asV, PD.EL.one, PD.Sl.of, truth, outOf, bop, cop, ltD, leD, subD, addD, mulD, fdivD, modD, powD, ixop, lenD, biop, put, putTg, putAll, wipeR, PD.E.isOmit, List.map_cons, List.map_nil, List.length_cons, List.length_nil, List.set_cons_zero, List.set_cons_succ, List.set_nil, List.getD_cons_zero, List.getD_cons_succ, List.cons_append, List.nil_append, List.replicate, Option.getD, ownAt, chgS, appD, extD, remD, revD, augI, isTy, killV, killS, hT.io, i0, im, pp, iQ, inD, o2, sQ, n1, eqD, sB, iB]
    · cases hq : MQ.any fun z => PyData.eqv z d with
      | false =>
        have hB : B = false := by
          rcases x3 with ⟨_, h⟩ | ⟨_, _, h⟩
          · exact h
          · rw [h, hq]
        subst hB
        by_cases im : imm d = true
        · simp [xl_nil, xl_cons, x_set, x_aug, x_app, x_rem, x_ext, x_setT, x_ex, x_ret, x_ret0, x_pass, x_brk, x_cnt, x_if, x_raise, x_try, ev_def, evT_def, ev_v, ev_c, ev_g, ev_bin, ev_neg, ev_cmp, ev_chain, ev_and, ev_or, ev_one, ev_not, ev_ife, ev_ix, ev_sl, ev_rev, ev_tup, ev_lst, ev_call, ev_bi, ev_me, ev_isi, evL_nil, evL_cons, wR, PD.R.bind, PD.RL.bindR, PD.RL.bindN, PD.RI.bindR, PD.R.bindI, PD.RT.bindR, PD.RT.bind, optR, optB, PD.okR, optT, okI, negR, outR, callR, slR, lcR, itD, ofR, PD.R.toS, PD.RT.toS, PD.RI.toS, PD.RA.toS, startR, rd, PD.Rho.at, imm, immL, imm1, tnt, mkT, inOk, argS, giveS, PD.E.asV, PD.EL.one, PD.Sl.of, truth, outOf, bop, cop, ltD, leD, subD, addD, mulD, fdivD, modD, powD, ixop, lenD, biop, put, putTg, putAll, wipeR, PD.E.isOmit, List.map_cons, List.map_nil, List.length_cons, List.length_nil, List.set_cons_zero, List.set_cons_succ, List.set_nil, List.getD_cons_zero, List.getD_cons_succ, List.cons_append, List.nil_append, List.replicate, Option.getD, ownAt, chgS, appD, extD, remD, revD, augI, isTy, killV, killS, hT.io, i0, im, pp, iQ, inD, o2, sQ, hq, eqD, sB, iB]
        · simp [xl_nil, xl_cons, x_set, x_aug, x_app, x_rem, x_ext, x_setT, x_ex, x_ret, x_ret0, x_pass, x_brk, x_cnt, x_if, x_raise, x_try, ev_def, evT_def, ev_v, ev_c, ev_g, ev_bin, ev_neg, ev_cmp, ev_chain, ev_and, ev_or, ev_one, ev_not, ev_ife, ev_ix, ev_sl, ev_rev, ev_tup, ev_lst, ev_call, ev_bi, ev_me, ev_isi, evL_nil, evL_cons, wR, PD.R.bind, PD.RL.bindR, PD.RL.bindN, PD.RI.bindR, PD.R.bindI, PD.RT.bindR, PD.RT.bind, optR, optB, PD.okR, optT, okI, negR, outR, callR, slR, lcR, itD, ofR, PD.R.toS, PD.RT.toS, PD.RI.toS, PD.RA.toS, startR, rd, PD.Rho.at, imm, immL, imm1, tnt, mkT, inOk, argS, giveS, PD.E.asV, PD.EL.one, PD.Sl.of, truth, outOf, bop, cop, ltD, leD, subD, addD, mulD, fdivD, modD, powD, ixop, lenD, biop, put, putTg, putAll, wipeR, PD.E.isOmit, List.map_cons, List.map_nil, List.length_cons, List.length_nil, List.set_cons_zero, List.set_cons_succ, List.set_nil, List.getD_cons_zero, List.getD_cons_succ, List.cons_append, List.nil_append, List.replicate, Option.getD, ownAt, chgS, appD, extD, remD, revD, augI, isTy, killV, killS, hT.io, i0, im, pp, iQ, inD, o2, sQ, hq, eqD, sB, iB]
      | true =>
        have hx : ∀ s8 : Sl, evB T (.ix (.v 7) (.c (.int 0))) [Sl.vw [] (scr ns), .own (.int m), .own (.tuple MH), c, .own (.int p), .own RD, .vw [6] (.list OD), Sl.of d (some [6, 6]), s8] = wR (.ok x none) := fun s8 => by
          by_cases im : imm d = true
          · simp [xl_nil, xl_cons, x_set, x_aug, x_app, x_rem, x_ext, x_setT, x_ex, x_ret, x_ret0, x_pass, x_brk, x_cnt, x_if, x_raise, x_try, ev_def, evT_def, ev_v, ev_c, ev_g, ev_bin, ev_neg, ev_cmp, ev_chain, ev_and, ev_or, ev_one, ev_not, ev_ife, ev_sl, ev_rev, ev_tup, ev_lst, ev_call, ev_bi, ev_me, ev_isi, evL_nil, evL_cons, wR, PD.R.bind, PD.RL.bindR, PD.RL.bindN, PD.RI.bindR, PD.R.bindI, PD.RT.bindR, PD.RT.bind, optR, optB, PD.okR, optT, okI, negR, outR, callR, slR, lcR, itD, ofR, PD.R.toS, PD.RT.toS, PD.RI.toS, PD.RA.toS, startR, rd, PD.Rho.at, imm, immL, imm1, tnt, mkT, inOk, argS, giveS, PD.E.asV, PD.EL.one, PD.Sl.of, truth, outOf, bop, cop, ltD, leD, subD, addD, mulD, fdivD, modD, powD, lenD, biop, put, putTg, putAll, wipeR, PD.E.isOmit, List.map_cons, List.map_nil, List.length_cons, List.length_nil, List.set_cons_zero, List.set_cons_succ, List.set_nil, List.getD_cons_zero, List.getD_cons_succ, List.cons_append, List.nil_append, List.replicate, Option.getD, ownAt, chgS, appD, extD, remD, revD, augI, isTy, killV, killS, ev_ix, im, x1, x2]
          · simp [xl_nil, xl_cons, x_set, x_aug, x_app, x_rem, x_ext, x_setT, x_ex, x_ret, x_ret0, x_pass, x_brk, x_cnt, x_if, x_raise, x_try, ev_def, evT_def, ev_v, ev_c, ev_g, ev_bin, ev_neg, ev_cmp, ev_chain, ev_and, ev_or, ev_one, ev_not, ev_ife, ev_sl, ev_rev, ev_tup, ev_lst, ev_call, ev_bi, ev_me, ev_isi, evL_nil, evL_cons, wR, PD.R.bind, PD.RL.bindR, PD.RL.bindN, PD.RI.bindR, PD.R.bindI, PD.RT.bindR, PD.RT.bind, optR, optB, PD.okR, optT, okI, negR, outR, callR, slR, lcR, itD, ofR, PD.R.toS, PD.RT.toS, PD.RI.toS, PD.RA.toS, startR, rd, PD.Rho.at, imm, immL, imm1, tnt, mkT, inOk, argS, giveS, PD.E.asV, PD.EL.one, PD.Sl.of, truth, outOf, bop, cop, ltD, leD, subD, addD, mulD, fdivD, modD, powD, lenD, biop, put, putTg, putAll, wipeR, PD.E.isOmit, List.map_cons, List.map_nil, List.length_cons, List.length_nil, List.set_cons_zero, List.set_cons_succ, List.set_nil, List.getD_cons_zero, List.getD_cons_succ, List.cons_append, List.nil_append, List.replicate, Option.getD, ownAt, chgS, appD, extD, remD, revD, augI, isTy, killV, killS, ev_ix, im, x1, x2]
        rcases x3 with ⟨rfl, rfl⟩ | ⟨i, rfl, h⟩
        · by_cases im : imm d = true
          · simp only [Sl.of, im, if_true] at hx
            simp [xl_nil, xl_cons, x_set, x_aug, x_app, x_rem, x_ext, x_setT, x_ex, x_ret, x_ret0, x_pass, x_brk, x_cnt, x_if, x_raise, x_try, ev_def, evT_def, ev_v, ev_c, ev_g, ev_bin, ev_neg, ev_cmp, ev_chain, ev_and, ev_or, ev_one, ev_not, ev_ife, ev_sl, ev_rev, ev_tup, ev_lst, ev_call, ev_bi, ev_me, ev_isi, evL_nil, evL_cons, wR, PD.R.bind, PD.RL.bindR, PD.RL.bindN, PD.RI.bindR, PD.R.bindI, PD.RT.bindR, PD.RT.bind, optR, optB, PD.okR, optT, okI, negR, outR, callR, slR, lcR, itD, ofR, PD.R.toS, PD.RT.toS, PD.RI.toS, PD.RA.toS, startR, rd, PD.Rho.at, imm, immL, imm1, tnt, mkT, inOk, argS, giveS, PD.E.asV, PD.EL.one, PD.Sl.of, truth, outOf, bop, cop, ltD, leD, subD, addD, mulD, fdivD, modD, powD, lenD, biop, put, putTg, putAll, wipeR, PD.E.isOmit, List.map_cons, List.map_nil, List.length_cons, List.length_nil, List.set_cons_zero, List.set_cons_succ, List.set_nil, List.getD_cons_zero, List.getD_cons_succ, List.cons_append, List.nil_append, List.replicate, Option.getD, ownAt, chgS, appD, extD, remD, revD, augI, isTy, killV, killS, hx, hT.io, i0, im, pp, iQ, inD, o2, sQ, hq, eqD, sB, iB, isD]
          · simp only [Sl.of, im, if_false, Bool.false_eq_true] at hx
            simp [xl_nil, xl_cons, x_set, x_aug, x_app, x_rem, x_ext, x_setT, x_ex, x_ret, x_ret0, x_pass, x_brk, x_cnt, x_if, x_raise, x_try, ev_def, evT_def, ev_v, ev_c, ev_g, ev_bin, ev_neg, ev_cmp, ev_chain, ev_and, ev_or, ev_one, ev_not, ev_ife, ev_sl, ev_rev, ev_tup, ev_lst, ev_call, ev_bi, ev_me, ev_isi, evL_nil, evL_cons, wR, PD.R.bind, PD.RL.bindR, PD.RL.bindN, PD.RI.bindR, PD.R.bindI, PD.RT.bindR, PD.RT.bind, optR, optB, PD.okR, optT, okI, negR, outR, callR, slR, lcR, itD, ofR, PD.R.toS, PD.RT.toS, PD.RI.toS, PD.RA.toS, startR, rd, PD.Rho.at, imm, immL, imm1, tnt, mkT, inOk, argS, giveS, PD.E.asV, PD.EL.one, PD.Sl.of, truth, outOf, bop, cop, ltD, leD, subD, addD, mulD, fdivD, modD, powD, lenD, biop, put, putTg, putAll, wipeR, PD.E.isOmit, List.map_cons, List.map_nil, List.length_cons, List.length_nil, List.set_cons_zero, List.set_cons_succ, List.set_nil, List.getD_cons_zero, List.getD_cons_succ, List.cons_append, List.nil_append, List.replicate, Option.getD, ownAt, chgS, appD, extD, remD, revD, augI, isTy, killV, killS, hx, hT.io, i0, im, pp, iQ, inD, o2, sQ, hq, eqD, sB, iB, isD]
        · rw [hq] at h
          subst h
          by_cases im : imm d = true
          · simp only [Sl.of, im, if_true] at hx
            simp [xl_nil, xl_cons, x_set, x_aug, x_app, x_rem, x_ext, x_setT, x_ex, x_ret, x_ret0, x_pass, x_brk, x_cnt, x_if, x_raise, x_try, ev_def, evT_def, ev_v, ev_c, ev_g, ev_bin, ev_neg, ev_cmp, ev_chain, ev_and, ev_or, ev_one, ev_not, ev_ife, ev_sl, ev_rev, ev_tup, ev_lst, ev_call, ev_bi, ev_me, ev_isi, evL_nil, evL_cons, wR, PD.R.bind, PD.RL.bindR, PD.RL.bindN, PD.RI.bindR, PD.R.bindI, PD.RT.bindR, PD.RT.bind, optR, optB, PD.okR, optT, okI, negR, outR, callR, slR, lcR, itD, ofR, PD.R.toS, PD.RT.toS, PD.RI.toS, PD.RA.toS, startR, rd, PD.Rho.at, imm, immL, imm1, tnt, mkT, inOk, argS, giveS, PD.E.asV, PD.EL.one, PD.Sl.of, truth, outOf, bop, cop, ltD, leD, subD, addD, mulD, fdivD, modD, powD, lenD, biop, put, putTg, putAll, wipeR, PD.E.isOmit, List.map_cons, List.map_nil, List.length_cons, List.length_nil, List.set_cons_zero, List.set_cons_succ, List.set_nil, List.getD_cons_zero, List.getD_cons_succ, List.cons_append, List.nil_append, List.replicate, Option.getD, ownAt, chgS, appD, extD, remD, revD, augI, isTy, killV, killS, hx, hT.io, i0, im, pp, iQ, inD, o2, sQ, hq, eqD, sB, iB, isD]
          · simp only [Sl.of, im, if_false, Bool.false_eq_true] at hx
            simp [xl_nil, xl_cons, x_set, x_aug, x_app, x_rem, x_ext, x_setT, x_ex, x_ret, x_ret0, x_pass, x_brk, x_cnt, x_if, x_raise, x_try, ev_def, evT_def, ev_v, ev_c, ev_g, ev_bin, ev_neg, ev_cmp, ev_chain, ev_and, ev_or, ev_one, ev_not, ev_ife, ev_sl, ev_rev, ev_tup, ev_lst, ev_call, ev_bi, ev_me, ev_isi, evL_nil, evL_cons, wR, PD.R.bind, PD.RL.bindR, PD.RL.bindN, PD.RI.bindR, PD.R.bindI, PD.RT.bindR, PD.RT.bind, optR, optB, PD.okR, optT, okI, negR, outR, callR, slR, lcR, itD, ofR, PD.R.toS, PD.RT.toS, PD.RI.toS, PD.RA.toS, startR, rd, PD.Rho.at, imm, immL, imm1, tnt, mkT, inOk, argS, giveS, PD.E.asV, PD.EL.one, PD.Sl.of, truth, outOf, bop, cop, ltD, leD, subD, addD, mulD, fdivD, modD, powD, lenD, biop, put, putTg, putAll, wipeR, PD.E.isOmit, List.map_cons, List.map_nil, List.length_cons, List.length_nil, List.set_cons_zero, List.set_cons_succ, List.set_nil, List.getD_cons_zero, List.getD_cons_succ, List.cons_append, List.nil_append, List.replicate, Option.getD, ownAt, chgS, appD, extD, remD, revD, augI, isTy, killV, killS, hx, hT.io, i0, im, pp, iQ, inD, o2, sQ, hq, eqD, sB, iB, isD]
  refine ⟨rhoM ns m hs c (.own (.int p)) (.own RD) (.vw [6] (.list OD)) (Sl.of d (some [6, 6])) (.own (.bool B)), ?_⟩
  rw [xl_cons, e7]
  dsimp only
  rw [xl_cons, e8]
  dsimp only
  rw [xl_cons, e9]
end
end PL
set_option maxHeartbeats 4000000
namespace PL
open PySem PD PF
theorem lawM_ok (T : Tab) (cC cH cS cP cM cI : Nat) (hT : HasM T cC cH cS cP cM cI) (ns : List Int) : outOf (exSL T (sl_law_d04ccc cC cH cS cP cM cI) (startR 9 [scr ns])) = .ret (.bool true) .none := by
  obtain ⟨m, hm, e1⟩ := m1_ok hT ns
  have hm' : 1 ≤ m ∧ m ≤ 11 := by omega
  obtain ⟨hs, hh, hl, e2⟩ := m2_ok hT ns m hm'
  obtain ⟨hs2, hh2, e3⟩ := m3_ok hT ns m hm' hs hh
  obtain ⟨⟨p, R⟩, hq, e4⟩ := m4_ok hT ns (m : Int) hs (partV V3 hs ++ partV V3 hs2 ++ [(3, [])]) (by simp; omega)
  have gR : goodR R ∧ R.length ≤ 3 := by
    rcases List.mem_append.mp hq with z | z
    · rcases List.mem_append.mp z with z | z
      · exact part_in hh z
      · exact part_in hh2 z
    · have := List.mem_singleton.mp z
      cases this
      exact ⟨fun a ha => by simp at ha, by simp⟩
  have e5 := m5_ok (T := T) ns m hs (.own (.list ((partV V3 hs ++ partV V3 hs2 ++ [(3, [])]).map ptD))) p R
  have e6 := m6_ok (T := T) ns m hs (.own (.list ((partV V3 hs ++ partV V3 hs2 ++ [(3, [])]).map ptD))) p R gR.2
  obtain ⟨ρ', e7⟩ := m79_ok hT ns m hs hh (.own (.list ((partV V3 hs ++ partV V3 hs2 ++ [(3, [])]).map ptD))) p R gR.1 gR.2
  rw [lawM_eq, xl_cons, e1]
  dsimp only
  rw [xl_cons, e2]
  dsimp only
  rw [xl_cons, e3]
  dsimp only
  rw [xl_cons, e4]
  dsimp only
  rw [xl_cons, e5]
  dsimp only
  rw [xl_cons, e6]
  dsimp only
  rw [e7]
  rfl
end PL
set_option maxHeartbeats 4000000
namespace PL
open PySem PD PF
theorem tkL_sort {a : Tk} (h : a ∈ tkL) : a.1 = "run" ∨ a.1 = "three" := by
  have := (isset_mem a).mpr h
  unfold isSet at this
  simp only [Bool.and_eq_true, Bool.or_eq_true, decide_eq_true_eq] at this
  rcases this.2 with e | ⟨e, _⟩
  · exact .inr e
  · exact .inl e
theorem lawtiles_ok (T : Tab) (a : Tk) (h : a ∈ tkL) : outOf (exSL T sl__law_tiles_639140 (startR 1 [tkD a])) = .ret (.list ((tilesOf a).map .int)) .none := by
  have q3 : 3 ≤ lineN := by decide
  have q1 : 1 ≤ lineN := by decide
  have q9 : 1 * (3 : Int).toNat ≤ lineN := by decide
  have r3 : rep 3 [PyData.int a.2] = [.int a.2, .int a.2, .int a.2] := rfl
  have sr : SeqAt.shaped (.str "run") = true := okS_run
  have st : SeqAt.shaped (.str "three") = true := okS_three
  have ne : ("three" : Str) ≠ "run" := by decide +kernel
  have e1 : PyData.eqv (.str "run") (.str "run") = true := by rw [eqv_str]; simp
  have e2 : PyData.eqv (.str "three") (.str "run") = false := by rw [eqv_str]; simp [ne]
  obtain ⟨s, k⟩ := a
  unfold sl__law_tiles_639140
  rcases tkL_sort h with rfl | rfl
  · simp [xl_nil, xl_cons, x_set, x_aug, x_app, x_rem, x_ext, x_setT, x_ex, x_ret, x_ret0, x_pass, x_brk, x_cnt, x_if, x_raise, x_try, ev_def, evT_def, ev_v, ev_c, ev_g, ev_bin, ev_neg, ev_cmp, ev_chain, ev_and, ev_or, ev_one, ev_not, ev_ife, ev_ix, ev_sl, ev_rev, ev_tup, ev_lst, ev_call, ev_bi, ev_me, ev_isi, evL_nil, evL_cons, wR, PD.R.bind, PD.RL.bindR, PD.RL.bindN, PD.RI.bindR, PD.R.bindI, PD.RT.bindR, PD.RT.bind, optR, optB, PD.okR, optT, okI, negR, outR, callR, slR, lcR, itD, ofR, PD.R.toS, PD.RT.toS, PD.RI.toS, PD.RA.toS, startR, rd, PD.Rho.at, imm, immL, imm1, tnt, mkT, inOk, argS, giveS, PD.E.asV, PD.EL.one, PD.Sl.of, truth, outOf, bop, cop, ltD, leD, subD, addD, mulD, fdivD, modD, powD, ixop, lenD, biop, put, putTg, putAll, wipeR, PD.E.isOmit, List.map_cons, List.map_nil, List.length_cons, List.length_nil, List.set_cons_zero, List.set_cons_succ, List.set_nil, List.getD_cons_zero, List.getD_cons_succ, List.cons_append, List.nil_append, List.replicate, Option.getD, ownAt, chgS, appD, extD, remD, revD, augI, isTy, killV, killS, tkD, atN, eqD, sr, e1, q3, tilesOf]
  · dsimp only at r3
    simp [xl_nil, xl_cons, x_set, x_aug, x_app, x_rem, x_ext, x_setT, x_ex, x_ret, x_ret0, x_pass, x_brk, x_cnt, x_if, x_raise, x_try, ev_def, evT_def, ev_v, ev_c, ev_g, ev_bin, ev_neg, ev_cmp, ev_chain, ev_and, ev_or, ev_one, ev_not, ev_ife, ev_ix, ev_sl, ev_rev, ev_tup, ev_lst, ev_call, ev_bi, ev_me, ev_isi, evL_nil, evL_cons, wR, PD.R.bind, PD.RL.bindR, PD.RL.bindN, PD.RI.bindR, PD.R.bindI, PD.RT.bindR, PD.RT.bind, optR, optB, PD.okR, optT, okI, negR, outR, callR, slR, lcR, itD, ofR, PD.R.toS, PD.RT.toS, PD.RI.toS, PD.RA.toS, startR, rd, PD.Rho.at, imm, immL, imm1, tnt, mkT, inOk, argS, giveS, PD.E.asV, PD.EL.one, PD.Sl.of, truth, outOf, bop, cop, ltD, leD, subD, addD, mulD, fdivD, modD, powD, ixop, lenD, biop, put, putTg, putAll, wipeR, PD.E.isOmit, List.map_cons, List.map_nil, List.length_cons, List.length_nil, List.set_cons_zero, List.set_cons_succ, List.set_nil, List.getD_cons_zero, List.getD_cons_succ, List.cons_append, List.nil_append, List.replicate, Option.getD, ownAt, chgS, appD, extD, remD, revD, augI, isTy, killV, killS, tkD, atN, eqD, sr, st, e2, q1, tilesOf, ne, r3, q3, q9]
end PL
set_option maxHeartbeats 0
namespace K03
open PySem PySem.Spec PyProof.Rows L2
def top (i : Nat) : Stmt := PySem.Challenge.pw_tilehands_k03_is_parting.main.body.getD i (.Pass ⟨0, 0, 0, 0⟩)
def d0 : PD.FnI := ⟨"is_within", ["thing", "low", "high"], ["thing", "low", "high"], top 9, PF.sl_is_within_28da31 ⟩
theorem b0 : PD.BindOk d0 := fun _ _ _ _ _ _ us hl => match us, hl with | [_, _, _], _ => rfl
def d1 : PD.FnI := ⟨"is_kind", ["thing"], ["thing"], top 10, PF.sl_is_kind_527e9e 0 2⟩
theorem b1 : PD.BindOk d1 := fun _ _ _ _ _ _ us hl => match us, hl with | [_], _ => rfl
def d2 : PD.FnI := ⟨"are_tiles", ["thing"], ["thing", "one", "other"], top 11, PF.sl_are_tiles_abae20 1 3⟩
theorem b2 : PD.BindOk d2 := fun _ _ _ _ _ _ us hl => match us, hl with | [_], _ => rfl
def d3 : PD.FnI := ⟨"checked", ["hand"], ["hand"], top 12, PF.sl_checked_eba4db 2 4⟩
theorem b3 : PD.BindOk d3 := fun _ _ _ _ _ _ us hl => match us, hl with | [_], _ => rfl
def d4 : PD.FnI := ⟨"begins_run", ["kind"], ["kind"], top 13, PF.sl_begins_run_99955b 0 1⟩
theorem b4 : PD.BindOk d4 := fun _ _ _ _ _ _ us hl => match us, hl with | [_], _ => rfl
def d5 : PD.FnI := ⟨"tiles_of", ["one"], ["one", "sort", "kind"], top 14, PF.sl_tiles_of_7334a7 ⟩
theorem b5 : PD.BindOk d5 := fun _ _ _ _ _ _ us hl => match us, hl with | [_], _ => rfl
def d6 : PD.FnI := ⟨"is_set", ["thing"], ["thing"], top 16, PF.sl_is_set_56e43c 1 4⟩
theorem b6 : PD.BindOk d6 := fun _ _ _ _ _ _ us hl => match us, hl with | [_], _ => rfl
def d7 : PD.FnI := ⟨"is_form", ["thing"], ["thing", "one"], top 17, PF.sl_is_form_fb7cc3 1 6⟩
theorem b7 : PD.BindOk d7 := fun _ _ _ _ _ _ us hl => match us, hl with | [_], _ => rfl
def d8 : PD.FnI := ⟨"tiles_in", ["parting"], ["parting", "found", "one"], top 18, PF.sl_tiles_in_0e21f6 5⟩
theorem b8 : PD.BindOk d8 := fun _ _ _ _ _ _ us hl => match us, hl with | [_], _ => rfl
def d9 : PD.FnI := ⟨"is_parting", ["hand", "thing"], ["hand", "thing"], top 19, PF.sl_is_parting_e232ec 3 8 7⟩
theorem b9 : PD.BindOk d9 := fun _ _ _ _ _ _ us hl => match us, hl with | [_, _], _ => rfl
def d10 : PD.FnI := ⟨"_law_cell", ["_law_script", "_law_k"], ["_law_script", "_law_k"], top 21, PF.sl__law_cell_736ffd ⟩
theorem b10 : PD.BindOk d10 := fun _ _ _ _ _ _ us hl => match us, hl with | [_, _], _ => rfl
def d11 : PD.FnI := ⟨"_law_mix", ["_law_cell_here", "_law_prime", "_law_many"], ["_law_cell_here", "_law_prime", "_law_many"], top 22, PF.sl__law_mix_83d9e8 ⟩
theorem b11 : PD.BindOk d11 := fun _ _ _ _ _ _ us hl => match us, hl with | [_, _, _], _ => rfl
def d12 : PD.FnI := ⟨"_law_seed", ["_law_seed_here", "_law_k"], ["_law_seed_here", "_law_k"], top 23, PF.sl__law_seed_50671f ⟩
theorem b12 : PD.BindOk d12 := fun _ _ _ _ _ _ us hl => match us, hl with | [_, _], _ => rfl
def d13 : PD.FnI := ⟨"_law_pick", ["_law_seed_here", "_law_many"], ["_law_seed_here", "_law_many"], top 24, PF.sl__law_pick_3feff9 ⟩
theorem b13 : PD.BindOk d13 := fun _ _ _ _ _ _ us hl => match us, hl with | [_, _], _ => rfl
def d14 : PD.FnI := ⟨"_law_sets", [], ["_law_runs", "_law_kind"], top 25, PF.sl__law_sets_97e411 ⟩
theorem b14 : PD.BindOk d14 := fun _ _ _ _ _ _ us hl => match us, hl with | [], _ => rfl
def d15 : PD.FnI := ⟨"_law_tiles", ["_law_one"], ["_law_one"], top 26, PF.sl__law_tiles_639140 ⟩
theorem b15 : PD.BindOk d15 := fun _ _ _ _ _ _ us hl => match us, hl with | [_], _ => rfl
def d16 : PD.FnI := ⟨"_law_hand", ["_law_seed_here", "_law_size", "_law_way"], ["_law_seed_here", "_law_size", "_law_way", "_law_kinds", "_law_k", "_law_found", "_law_one"], top 27, PF.sl__law_hand_31719a 15 14 13 12⟩
theorem b16 : PD.BindOk d16 := fun _ _ _ _ _ _ us hl => match us, hl with | [_, _, _], _ => rfl
def d17 : PD.FnI := ⟨"_law_all", ["_law_tiles_here", "_law_first"], ["_law_tiles_here", "_law_first", "_law_found", "_law_some", "_law_at", "_law_rest", "_law_kind", "_law_row"], top 28, PF.sl__law_all_76c748 14 15 17⟩
theorem b17 : PD.BindOk d17 := fun _ _ _ _ _ _ us hl => match us, hl with | [_, _], _ => rfl
def d18 : PD.FnI := ⟨"_law_partings", ["_law_hand_here"], ["_law_hand_here", "_law_found", "_law_pair", "_law_rest", "_law_sets_here"], top 29, PF.sl__law_partings_a189fe 17⟩
theorem b18 : PD.BindOk d18 := fun _ _ _ _ _ _ us hl => match us, hl with | [_], _ => rfl
def d19 : PD.FnI := ⟨"law", ["_law_script"], ["_law_script", "_law_size", "_law_hand_here", "_law_some", "_law_pair", "_law_sets_here", "_law_odd", "_law_thing", "_law_found"], top 30, PF.sl_law_d04ccc 10 16 12 18 11 9⟩
theorem b19 : PD.BindOk d19 := fun _ _ _ _ _ _ us hl => match us, hl with | [_], _ => rfl
def D : List PD.FnI := [d0, d1, d2, d3, d4, d5, d6, d7, d8, d9, d10, d11, d12, d13, d14, d15, d16, d17, d18, d19]
def cs : List (Str × PyData) := [("RANKS", (.int 6)), ("SUITED", (.int 18)), ("KINDS", (.int 21)), ("MOST", (.int 4)), ("MOST_TILES", (.int 11))]
def G : PD.GT := ⟨D.map fun d => (d.name, d.ps.length, false), cs, ["len", "sorted", "list", "tuple", "int", "isinstance", "bool", "str", "range", "enumerate", "zip", "set"], ["TileError", "BadHand"]⟩
def prs : List (Str × Str × Bool) := [("TileError", "TileError", true), ("TileError", "BadHand", false), ("BadHand", "TileError", true), ("BadHand", "BadHand", true)]
theorem hb : ∀ d ∈ D, PD.BindOk d := PD.all_cons b0 (PD.all_cons b1 (PD.all_cons b2 (PD.all_cons b3 (PD.all_cons b4 (PD.all_cons b5 (PD.all_cons b6 (PD.all_cons b7 (PD.all_cons b8 (PD.all_cons b9 (PD.all_cons b10 (PD.all_cons b11 (PD.all_cons b12 (PD.all_cons b13 (PD.all_cons b14 (PD.all_cons b15 (PD.all_cons b16 (PD.all_cons b17 (PD.all_cons b18 (PD.all_cons b19 (PD.all_nil))))))))))))))))))))
theorem hok : ∀ d ∈ D, d.ok G = true := by decide +kernel
end K03
namespace K03
open PySem PD PL
noncomputable abbrev L (n : Nat) : Tab := PD.lev D (PD.subOf prs) (PD.conOf G) n
theorem io (n f : Nat) : (L n).io f = false := by rw [(lev_sub (D := D) (sub := PD.subOf prs) (consts := PD.conOf G) (k := n)).2.2]
theorem con (n k : Nat) : (L n).consts k = PD.conOf G k := by rw [(lev_sub (D := D) (sub := PD.subOf prs) (consts := PD.conOf G) (k := n)).2.1]
theorem f0 (n : Nat) (d : PyData) (h : noDict d = true) : (L (n + 1)).fn 0 [d, .int 0, .int 20] = .ret (.bool (isKind d)) .none := within_ok (L n) d h
theorem f1 (n : Nat) (d : PyData) (h : noDict d = true) : (L (n + 2)).fn 1 [d] = .ret (.bool (isKind d)) .none := kind_ok (L (n + 1)) 0 2 ⟨io _, f0 n, (con _ 2).trans rfl⟩ d h
theorem has2 (n : Nat) : Has2 (L (n + 2)) 1 3 := ⟨io _, f1 n, (con _ 3).trans rfl⟩
theorem f2 (n : Nat) (ns : List Int) (h : ns.length ≤ lineN) : (L (n + 3)).fn 2 [.tuple (ns.map .int)] = .ret (.bool (areT ns)) .none := are_ints (L (n + 2)) 1 3 (has2 n) ns h
theorem has3 (n : Nat) : Has3 (L (n + 3)) 2 4 := ⟨io _, f2 n, (con _ 4).trans rfl⟩
theorem f3 (n : Nat) (ns : List Int) (h : isHand ns = true) : (L (n + 4)).fn 3 [.tuple (ns.map .int)] = .ret (.tuple (ns.map .int)) .none := by
  have := checked_ok (L (n + 3)) 2 4 (has3 n) ns (by have := (isHand_len h).2; unfold lineN; omega)
  rw [if_pos h] at this
  exact this
theorem f4 (n : Nat) (k : Int) : (L (n + 1)).fn 4 [.int k] = .ret (.bool (begins k)) .none := begins_ok (L n) 0 1 ((con _ 0).trans rfl) ((con _ 1).trans rfl) k
theorem f5 (n : Nat) (a : Tk) (h : okS a.1) : (L (n + 1)).fn 5 [tkD a] = .ret (.list ((tilesOf a).map .int)) .none := tilesof_ok (L n) a h
theorem f6 (n : Nat) (a : Tk) (h : okS a.1) : (L (n + 3)).fn 6 [tkD a] = .ret (.bool (isSet a)) .none := isset_ok (L (n + 2)) 1 4 ⟨io _, f1 n, f4 (n + 1)⟩ a h
theorem has8 (n : Nat) : Has8 (L (n + 3)) 1 6 := ⟨io _, f1 (n + 1), f6 n⟩
theorem f7 (n : Nat) (p : Int) (R : List Tk) (hR : goodR R) (hl : R.length < 100) : (L (n + 4)).fn 7 [.tuple [.int p, .tuple (R.map tkD)]] = .ret (.bool (isKind (.int p) && (R.all isSet && rising R))) .none := isform_ok (L (n + 3)) 1 6 (has8 n) p R hR (by unfold lineN; omega)
theorem f7n (n : Nat) (d : PyData) (h : NoForm d) : (L (n + 4)).fn 7 [d] = .ret (.bool false) .none := noform_ok (L (n + 3)) 1 6 (has8 n) d h
theorem f8 (n : Nat) (p : Int) (R : List Tk) (hR : goodR R) (hl : R.length < 100) : (L (n + 2)).fn 8 [.tuple [.int p, .tuple (R.map tkD)]] = .ret (.tuple ((srt (p :: p :: tilesR R)).map .int)) .none := tilesin_ok (L (n + 1)) 5 (io _) (f5 n) p R hR hl
theorem has9 (n : Nat) : Has9 (L (n + 4)) 3 8 7 := ⟨io _, f3 n, f7 n, f7n n, f8 (n + 2)⟩
theorem hasD (n : Nat) : HasD (L (n + 1)) 15 14 13 12 := ⟨⟨io _, fun s k => seed_ok (L n) s k, fun s m h => pick_ok (L n) s m h⟩, sets_ok (L n), fun d hd => let ⟨ts, h1, h2, h3⟩ := tiles_ok hd; ⟨ts, h1, h2, h3 (L n)⟩⟩
theorem hasA (n : Nat) : HasA (L (n + 1)) 14 15 := ⟨io _, sets_ok (L n), fun a ha => lawtiles_ok (L n) a ha⟩
theorem f17 : ∀ (n k : Nat) (ts : List Int) (f : Nat), n ≤ 3 → ts.length ≤ 3 * n → f ≤ 33 → (L (n + 2 + k)).fn 17 [.list (ts.map .int), .int f] = .ret (.list ((allV n ts f).map rowD)) .none
  | 0, k, ts, f, _, hl, hf => by
    have := all_step (L (1 + k)) 14 15 17 (by rw [Nat.add_comm]; exact hasA k) (fun _ _ => []) ts f hf (fun i _ r hr => by omega)
    rw [show 0 + 2 + k = (1 + k) + 1 by omega]
    have ht : ts = [] := List.eq_nil_of_length_eq_zero (by omega)
    subst ht
    exact this
  | n + 1, k, ts, f, hn, hl, hf => by
    have := all_step (L (n + 2 + k)) 14 15 17 (by rw [show n + 2 + k = (n + 1 + k) + 1 by omega]; exact hasA (n + 1 + k)) (allV n) ts f hf (fun i hi r hr => by
      refine ⟨f17 n k r i (by omega) (by omega) (by omega), ?_, fun R hR => ?_⟩
      · have h := (all_small n r i).1
        have : 33 ^ n ≤ 33 ^ 2 := Nat.pow_le_pow_right (by decide) (by omega)
        omega
      · have := (all_small n r i).2 R hR
        omega)
    rw [show n + 1 + 2 + k = (n + 2 + k) + 1 by omega]
    exact this
theorem f18 (n : Nat) (hs : List Int) (hh : isHand hs = true) : (L (n + 6)).fn 18 [.tuple (hs.map .int)] = .ret (.list ((partV V3 hs).map ptD)) .none := by
  obtain ⟨h1, h2, h3, h4, h5⟩ := hand_iff.mp hh
  refine parts_ok (L (n + 5)) 17 (io _) hs h5 V3 fun p hp => ⟨fun m => ?_, ?_⟩
  · have l1 := List.length_erase_of_mem hp
    have l2 := List.length_erase_of_mem m
    have := f17 3 n ((hs.erase p).erase p) 0 (by omega) (by omega) (by omega)
    rw [show 3 + 2 + n = n + 5 by omega] at this
    exact this
  · have := (all_small 3 ((hs.erase p).erase p) 0).1
    unfold V3
    omega
theorem hasM (n : Nat) : HasM (L (n + 6)) 10 16 12 18 11 9 where
  io := io _
  cell := fun ns k => cell_ok (L (n + 5)) ns k
  seed := fun s k => seed_ok (L (n + 5)) s k
  hand := fun s w m hm => hand_ok (L (n + 5)) 15 14 13 12 (hasD (n + 4)) s w m hm
  mix := fun c p m h1 h2 h3 => mix_ok (L (n + 5)) c p m h1 h2 h3
  parts := f18 n
  isF := fun hs hh p R hR hl => by
    have := part_ok (L (n + 5)) 3 8 7 (has9 (n + 1)) hs hh p R hR hl
    rw [form_iff hh] at this
    exact this
  isN := fun hs hh d h => part_no (L (n + 5)) 3 8 7 (has9 (n + 1)) hs hh d h
theorem value : ∀ ns : List Int, ns.length ≤ 63 → ∃ io, (PD.lev D (PD.subOf prs) (PD.conOf G) 12).fn 19 [.dict [(.none, .list (ns.map .int))]] = .ret (.bool true) io := fun ns _ => ⟨_, lawM_ok (L 11) 10 16 12 18 11 9 (hasM 5) ns⟩
end K03
namespace K03
open PySem PySem.Spec PyProof.Rows L2
abbrev R : PySem.W.OpenRow := PySem.W.OpenLaw.row PySem.Challenge.rw_tilehands_k03_is_parting
abbrev loose : List Str := (["__name__", "TileError", "BadHand", "RANKS", "SUITED", "KINDS", "MOST", "MOST_TILES", "is_within", "is_kind", "are_tiles", "checked", "begins_run", "tiles_of", "is_set", "is_form", "tiles_in", "is_parting", "_law_cell", "_law_mix", "_law_seed", "_law_pick", "_law_sets", "_law_tiles", "_law_hand", "_law_all", "_law_partings"] : List Str)
def fa : List He.Fa := PD.faOf D G prs
def fn : List He.DefD := D.map PD.defD
abbrev hk : PySem.W.Hook := He.hookD 4 fa fn
def ob (s : PySem.W.SharedT) : He.AlD := He.obsDG 4 fa fn (HandSHeadRun.getT s)
theorem ob_eq (s : PySem.W.SharedT) : ob s = hk.obs s.abs := He.obsDG_eq (HandSHeadRun.getT_eq s)
theorem run (w : World) : HandSHeadRun.RunEq R (PySem.W.view R.prog [30]) hk ob 2500 K03.loose w := by
  intro os
  kernel_rfl
end K03
open PySem PySem.W PySem.Calls PyProof.Rows
theorem PySem.Challenge.cw_tilehands_k03_is_parting_holds : PySem.Challenge.rw_tilehands_k03_is_parting.Holds := by
  w_on; o_law
  refine HandSHeadRun.head_any (r := OpenLaw.row PySem.Challenge.rw_tilehands_k03_is_parting) (q := view (OpenLaw.row PySem.Challenge.rw_tilehands_k03_is_parting).prog [30]) (H := K03.hk) (ob := K03.ob) (M := 2500) (loose := K03.loose) (d := HandSHeadRun.topDef (OpenLaw.row PySem.Challenge.rw_tilehands_k03_is_parting).prog 30) (kwd := []) K03.ob_eq
    (by kernel_rfl) (fun s => by kernel_rfl) K03.run (by kernel_rfl) (by kernel_rfl) (by kernel_rfl) (by rfl) (by first | assumption | decide +kernel) (by decide +kernel) ⟨rfl, rfl, rfl, rfl, rfl, by decide +kernel⟩ ?hw ?hc
  case hw => w_witness2
  case hc =>
    refine L2.walk_ofE (l := PySem.Challenge.rw_tilehands_k03_is_parting) (n := 63) (k := 12) (x := "_law_script") (CX := L2.CX0) rfl (by decide) (by kernel_rfl) ⟨rfl, by decide, by decide⟩ ?F (fun _ _ _ _ z => z)
    intro w mg fa h Y G hmg0
    obtain ⟨K, KX, c⟩ := Y
    have hmg : mg ("law" : PySem.Str) = some (.ref fa) := by
      have e : (HandSHeadRun.topDef (OpenLaw.row PySem.Challenge.rw_tilehands_k03_is_parting).prog 30).name = ("law" : PySem.Str) := by kernel_rfl
      rw [← e]
      exact hmg0
    have FF : PD.Facts K03.D K03.G (PD.subOf K03.prs) (PD.conOf K03.G) (PySem.Challenge.rw_tilehands_k03_is_parting).prog w K mg := PD.facts_of KX G c K03.hb K03.hok rfl (by decide) (by decide)
    obtain ⟨fd, sp, h1, h2, h3⟩ := PD.law_facts (P := (PySem.Challenge.rw_tilehands_k03_is_parting).prog) (w := w) KX G hmg FF 12 19 K03.d19 rfl K03.b19 rfl rfl K03.value
    exact ⟨K, fd, sp, KX, h1, fun H a ns hl hO hS => h2 H a ns hl hO hS, h3⟩
