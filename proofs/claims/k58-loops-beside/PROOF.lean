import PyProof.Rows.All
import Wide.All
import OpenK.AllK
import Wide.FinOn
import HandS.ForMost
import HandS.TupAny
import HandS.Deep
import KE.KDictKeyed
import KE.KeyNested
import HandS.Style
import HandS.IsInst
import KE.SortData
import HandS.Strs
import HandS.SetFor
import HandS.TryOnly
import HandS.Conv
import HandS.TupSets
import KE.KDictCopyH
import HandS.More
import HandS.Dict
import KE.KDictPairs
import HandS.Defaults
import PySem.Challenge.RW_everytalk_k58_whole_loops_beside_each_ot
set_option Elab.async false
set_option linter.all false
set_option maxRecDepth 20000
/-! The pure meaning of a small Python, over PyData, and its soundness over HandS. Part 1: data, worlds, judgements. -/
namespace MP
open PySem L2
open PySem.PyData (strOk)

abbrev D := PyData
/-- the heap F lies within H -/
def Sub (F H : Hp) : Prop := ∀ p o, F p = some o → H p = some o
theorem Sub.refl (F : Hp) : Sub F F := fun _ _ h => h
theorem Sub.trans {A B C : Hp} (a : Sub A B) (b : Sub B C) : Sub A C := fun p o h => b p o (a p o h)
theorem Sub.rd {F H : Hp} {a : Addr} {u : HO} (s : Sub F H) (r : Rd F a u) : Rd H a u := by
  rcases r with r | ⟨o, r⟩
  · exact .inl (s _ _ r)
  · exact .inr ⟨o, s _ _ r⟩
theorem Sub.sqL {K : PySem.W.Frag} {F H : Hp} {a : Addr} {xs : List V} (s : Sub F H) (r : SqL K F a xs) : SqL K H a xs := by
  rcases r with r | r
  · exact .inl (s.rd r)
  · exact .inr r
theorem Sub.sqT {K : PySem.W.Frag} {F H : Hp} {a : Addr} {xs : List V} (s : Sub F H) (r : SqT K F a xs) : SqT K H a xs := by
  rcases r with r | r
  · exact .inl (s.rd r)
  · exact .inr r
/-- the tuple at a has no dict of its own -/
def PlT (K : PySem.W.Frag) (F : Hp) (a : Addr) : Prop := (∃ (vs : Array Value) (n : Nat) (xs : List V), F a = some (.frz { cls := .type "tuple", data := .seq vs n } (.tup xs))) ∨ ∃ o, K.lookup a = some o ∧ o.dict = none
theorem Sub.pl {K : PySem.W.Frag} {F H : Hp} {a : Addr} (s : Sub F H) (r : PlT K F a) : PlT K H a := by
  rcases r with ⟨vs, n, xs, r⟩ | r
  · exact .inl ⟨vs, n, xs, s _ _ r⟩
  · exact .inr r
mutual
/-- the value v is the datum d, all of it in F -/
inductive DR (K : PySem.W.Frag) (F : Hp) : V → D → Prop
  | non : DR K F .non .none
  | bl (b : Bool) : DR K F (.bl b) (.bool b)
  | int (i : Int) : DR K F (.int i) (.int i)
  | str {x : Str} : strOk x = true → DR K F (.str x) (.str x)
  | lst {a : Addr} {xs : List V} {ds : List D} : F a = some (.lst xs) → DRs K F xs ds → DR K F (.ref a) (.list ds)
  | tup {a : Addr} {xs : List V} {ds : List D} : SqT K F a xs → PlT K F a → DRs K F xs ds → DR K F (.ref a) (.tuple ds)
inductive DRs (K : PySem.W.Frag) (F : Hp) : List V → List D → Prop
  | nil : DRs K F [] []
  | cons {v : V} {vs : List V} {d : D} {ds : List D} : DR K F v d → DRs K F vs ds → DRs K F (v :: vs) (d :: ds)
end
mutual
theorem DR.sub' {K : PySem.W.Frag} {F H : Hp} (s : Sub F H) : ∀ (d : D) (v : V), DR K F v d → DR K H v d
  | .none, _, h => by cases h; exact .non
  | .bool b, _, h => by cases h; exact .bl b
  | .int i, _, h => by cases h; exact .int i
  | .str x, _, h => by cases h with | str k => exact .str k
  | .list ds, _, h => by cases h with | lst a b => exact .lst (s _ _ a) (DRs.sub' s ds _ b)
  | .tuple ds, _, h => by cases h with | tup a p b => exact .tup (s.sqT a) (s.pl p) (DRs.sub' s ds _ b)
  | .dict _, _, h => by cases h
theorem DRs.sub' {K : PySem.W.Frag} {F H : Hp} (s : Sub F H) : ∀ (ds : List D) (vs : List V), DRs K F vs ds → DRs K H vs ds
  | [], _, h => by cases h; exact .nil
  | d :: ds, _, h => by cases h with | cons a b => exact .cons (DR.sub' s d _ a) (DRs.sub' s ds _ b)
end
mutual
theorem DR.dp' {K : PySem.W.Frag} {F : Hp} : ∀ (d : D) (v : V), DR K F v d → Dp K F v d ∧ d.canLay0 = true
  | .none, _, h => by cases h; exact ⟨.non, by simp [PyData.canLay0]⟩
  | .bool b, _, h => by cases h; exact ⟨.bl b, by simp [PyData.canLay0]⟩
  | .int i, _, h => by cases h; exact ⟨.int i, by simp [PyData.canLay0]⟩
  | .str x, _, h => by cases h with | str k => exact ⟨.str x, by simpa [PyData.canLay0] using k⟩
  | .list ds, _, h => by cases h with | lst a b => exact ⟨.lst (.of a) (DRs.dp' ds _ b).1, by simpa [PyData.canLay0] using (DRs.dp' ds _ b).2⟩
  | .tuple ds, _, h => by cases h with | tup a p b => exact ⟨.tup a (DRs.dp' ds _ b).1, by simpa [PyData.canLay0] using (DRs.dp' ds _ b).2⟩
  | .dict _, _, h => by cases h
theorem DRs.dp' {K : PySem.W.Frag} {F : Hp} : ∀ (ds : List D) (vs : List V), DRs K F vs ds → DpAll K F vs ds ∧ PyData.canLayAll0 ds = true
  | [], _, h => by cases h; exact ⟨.nil, by simp [PyData.canLayAll0]⟩
  | d :: ds, _, h => by
    cases h with
    | cons a b =>
      have h1 := DR.dp' d _ a
      have h2 := DRs.dp' ds _ b
      exact ⟨.cons h1.1 h2.1, by simp [PyData.canLayAll0, h1.2, h2.2]⟩
end
section
variable {K : PySem.W.Frag} {F H : Hp} {v : V} {d : D} {vs ws : List V} {ds es : List D} {a : Addr}
theorem DR.sub (r : DR K F v d) (s : Sub F H) : DR K H v d := DR.sub' s d v r
theorem DRs.sub (r : DRs K F vs ds) (s : Sub F H) : DRs K H vs ds := DRs.sub' s ds vs r
theorem DR.dp (r : DR K F v d) : Dp K F v d := (DR.dp' d v r).1
theorem DR.can (r : DR K F v d) : d.canLay0 = true := (DR.dp' d v r).2
theorem DRs.dp (r : DRs K F vs ds) : DpAll K F vs ds := (DRs.dp' ds vs r).1
theorem DRs.can (r : DRs K F vs ds) : PyData.canLayAll0 ds = true := (DRs.dp' ds vs r).2
theorem DR.of_non (r : DR K F v .none) : v = .non := by cases r; rfl
theorem DR.of_bl {b : Bool} (r : DR K F v (.bool b)) : v = .bl b := by cases r; rfl
theorem DR.of_int {i : Int} (r : DR K F v (.int i)) : v = .int i := by cases r; rfl
theorem DR.of_str {x : Str} (r : DR K F v (.str x)) : v = .str x ∧ strOk x = true := by
  cases r with | str k => exact ⟨rfl, k⟩
theorem DR.of_tup (r : DR K F v (.tuple ds)) : ∃ a xs, v = .ref a ∧ SqT K F a xs ∧ DRs K F xs ds := by
  cases r with | tup h p k => exact ⟨_, _, rfl, h, k⟩
theorem DR.of_tupP (r : DR K F v (.tuple ds)) : ∃ a xs, v = .ref a ∧ SqT K F a xs ∧ PlT K F a ∧ DRs K F xs ds := by
  cases r with | tup h p k => exact ⟨_, _, rfl, h, p, k⟩
theorem DR.of_lst (r : DR K F v (.list ds)) : ∃ a xs, v = .ref a ∧ F a = some (.lst xs) ∧ DRs K F xs ds := by
  cases r with | lst h k => exact ⟨_, _, rfl, h, k⟩
theorem DR.no_dict {kvs : List (D × D)} (r : DR K F v (.dict kvs)) : False := by cases r
theorem DRs.of_nil (r : DRs K F vs []) : vs = [] := by cases r; rfl
theorem DRs.of_cons (r : DRs K F vs (d :: ds)) : ∃ v ws, vs = v :: ws ∧ DR K F v d ∧ DRs K F ws ds := by
  cases r with | cons h k => exact ⟨_, _, rfl, h, k⟩
theorem DRs.length : ∀ {ds : List D} {vs : List V}, DRs K F vs ds → vs.length = ds.length
  | [], _, r => by rw [r.of_nil]; rfl
  | d :: ds, _, r => by
    obtain ⟨v, ws, rfl, _, k⟩ := r.of_cons
    simp [DRs.length k]
theorem DRs.append : ∀ {ds : List D} {vs : List V}, DRs K F vs ds → DRs K F ws es → DRs K F (vs ++ ws) (ds ++ es)
  | [], _, r, q => by rw [r.of_nil]; exact q
  | d :: ds, _, r, q => by
    obtain ⟨v, ws, rfl, h, k⟩ := r.of_cons
    exact .cons h (DRs.append k q)
theorem DRs.get : ∀ {ds : List D} {vs : List V} {i : Nat} {d : D}, DRs K F vs ds → ds[i]? = some d → ∃ v, vs[i]? = some v ∧ DR K F v d
  | [], _, _, _, _, e => by simp at e
  | x :: ds, _, i, d, r, e => by
    obtain ⟨v, ws, rfl, h, k⟩ := r.of_cons
    cases i with
    | zero => simp at e; subst e; exact ⟨v, rfl, h⟩
    | succ i => simpa using DRs.get k (by simpa using e)
theorem DRs.getV : ∀ {ds : List D} {vs : List V} {i : Nat} {v : V}, DRs K F vs ds → vs[i]? = some v → ∃ d, ds[i]? = some d ∧ DR K F v d
  | [], _, _, _, r, e => by rw [r.of_nil] at e; simp at e
  | x :: ds, _, i, d, r, e => by
    obtain ⟨v, ws, rfl, h, k⟩ := r.of_cons
    cases i with
    | zero => simp at e; subst e; exact ⟨x, rfl, h⟩
    | succ i => simpa using DRs.getV k (by simpa using e)
theorem DRs.take : ∀ (n : Nat) {ds : List D} {vs : List V}, DRs K F vs ds → DRs K F (vs.take n) (ds.take n)
  | 0, _, _, _ => by simpa using DRs.nil
  | n + 1, [], _, r => by rw [r.of_nil]; simpa using DRs.nil
  | n + 1, d :: ds, _, r => by
    obtain ⟨v, ws, rfl, h, k⟩ := r.of_cons
    simpa using DRs.cons h (DRs.take n k)
theorem DRs.drop : ∀ (n : Nat) {ds : List D} {vs : List V}, DRs K F vs ds → DRs K F (vs.drop n) (ds.drop n)
  | 0, _, _, r => by simpa using r
  | n + 1, [], _, r => by rw [r.of_nil]; simpa using DRs.nil
  | n + 1, d :: ds, _, r => by
    obtain ⟨v, ws, rfl, h, k⟩ := r.of_cons
    simpa using DRs.drop n k
theorem DRs.set : ∀ (i : Nat) {ds : List D} {vs : List V}, DR K F v d → DRs K F vs ds → DRs K F (vs.set i v) (ds.set i d)
  | _, [], _, _, r => by rw [r.of_nil]; simpa using DRs.nil
  | 0, x :: ds, _, q, r => by
    obtain ⟨v, ws, rfl, h, k⟩ := r.of_cons
    simpa using DRs.cons q k
  | i + 1, x :: ds, _, q, r => by
    obtain ⟨v, ws, rfl, h, k⟩ := r.of_cons
    simpa using DRs.cons h (DRs.set i q k)
theorem DRs.reverse : ∀ {ds : List D} {vs : List V}, DRs K F vs ds → DRs K F vs.reverse ds.reverse
  | [], _, r => by rw [r.of_nil]; exact .nil
  | d :: ds, _, r => by
    obtain ⟨v, ws, rfl, h, k⟩ := r.of_cons
    simpa using (DRs.reverse k).append (.cons h .nil)
theorem DRs.eraseIdx : ∀ (i : Nat) {ds : List D} {vs : List V}, DRs K F vs ds → DRs K F (vs.eraseIdx i) (ds.eraseIdx i)
  | _, [], _, r => by rw [r.of_nil]; simpa using DRs.nil
  | 0, x :: ds, _, r => by
    obtain ⟨v, ws, rfl, h, k⟩ := r.of_cons
    simpa using k
  | i + 1, x :: ds, _, r => by
    obtain ⟨v, ws, rfl, h, k⟩ := r.of_cons
    simpa using DRs.cons h (DRs.eraseIdx i k)
end

/-! ### values, objects, worlds -/
inductive Val where
  | d (x : D)
  | obj (n : Nat)
  /-- the script -/
  | scr (ns : List Int)
/-- a dict's entry: its key, where the key stands, the number -/
abbrev KEnt := NestedKey × Addr × Int
/-- the dict at a holds these entries, each key told by its address -/
structure KeptH (w : World) (h : Heap) (a : Addr) (xs : List KEnt) : Prop where
  ex : ∃ ys : List (NestedKey × Addr × Value), Paired (fun (x : KEnt) (y : NestedKey × Addr × Value) => x.1 = y.1 ∧ x.2.1 = y.2.1 ∧ RelV (.int x.2.2) y.2.2) xs ys ∧
    ∃ o es ep, h.get? a = some o ∧ o.ExactDict ∧ o.data = .dict es ep ∧ es.toList = ys.map fun y => ⟨y.1.hash w, .ref y.2.1, y.2.2⟩
def KeptO (w : World) (a : Addr) (xs : List KEnt) : HO := .ext fun h => KeptH w h a xs
inductive Ob where
  | cells (xs : List D)
  /-- a dict of numbers, its keys plain -/
  | kept (kvs : List (NestedKey × Int))
  | inst (c : Nat) (fs : List Val)
abbrev Store := List Ob
abbrev Env := List (Option MP.Val)

/-- what the text gives: the classes' addresses and their fields' names -/
structure Gam where
  K : PySem.W.Frag
  w : World
  cls : Nat → Addr
  flds : Nat → List Str

structure Wd where
  F : Hp
  H : Hp
  φ : List Addr
  S : Store

variable (Γ : Gam)
def RV (F : Hp) (φ : List Addr) (v : V) : Val → Prop
  | .d x => DR Γ.K F v x
  | .obj n => ∃ a, φ[n]? = some a ∧ v = .ref a
  | .scr ns => ∃ a, v = .ref a ∧ SqL Γ.K F a (ns.map V.int)
/-- values in a row -/
inductive RVs (F : Hp) (φ : List Addr) : List V → List Val → Prop
  | nil : RVs F φ [] []
  | cons {v : V} {u : Val} {vs : List V} {us : List Val} : RV Γ F φ v u → RVs F φ vs us → RVs F φ (v :: vs) (u :: us)
mutual
/-- a datum as a key -/
def keyD : D → Option NestedKey
  | .none => some .none
  | .bool b => some (.num (if b = true then 1 else 0))
  | .int i => some (.num i)
  | .str x => some (.text x)
  | .tuple ds => (keyDs ds).map .tup
  | .list _ => none
  | .dict _ => none
def keyDs : List D → Option (List NestedKey)
  | [] => some []
  | d :: ds => match keyD d, keyDs ds with
    | some k, some ks => some (k :: ks)
    | _, _ => none
end
def ObR (ω : Wd) (a : Addr) : Ob → Prop
  | .kept kvs => ∃ xs : List KEnt, ω.H a = some (KeptO Γ.w a xs) ∧ xs.map (fun x => (x.1, x.2.2)) = kvs ∧ (kvs.map (·.1)).Nodup ∧ (a == sysModules) = false ∧ ∀ x ∈ xs, ∃ ds, keyD (.tuple ds) = some x.1 ∧ DR Γ.K ω.F (.ref x.2.1) (.tuple ds) ∧ x.1.depth ≤ 8
  | .cells xs => ∃ vs, ω.H a = some (.lst vs) ∧ DRs Γ.K ω.F vs xs
  | .inst c fs => ∃ dx vs, ω.H a = some (.ins (Γ.cls c) dx ((Γ.flds c).zip vs)) ∧ RVs Γ ω.F ω.φ vs fs ∧ fs.length ≤ (Γ.flds c).length
structure WOk (ω : Wd) : Prop where
  sub : Sub ω.F ω.H
  len : ω.φ.length = ω.S.length
  nd : ω.φ.Nodup
  fr : ∀ a : Addr, a ∈ ω.φ → ω.F a = none
  ob : ∀ (n : Nat) (o : Ob), ω.S[n]? = some o → ∃ a, ω.φ[n]? = some a ∧ ObR Γ ω a o
structure Le (a b : Wd) : Prop where
  F : Sub a.F b.F
  φ : a.φ <+: b.φ
  H : ∀ p o, a.H p = some o → p ∉ a.φ → b.H p = some o
  Hs : ∀ p, a.H p ≠ none → b.H p ≠ none
  nF : ∀ p o, b.F p = some o → a.F p = some o ∨ a.H p = none
  nφ : ∀ p, p ∈ b.φ → p ∈ a.φ ∨ a.H p = none
theorem Le.refl (a : Wd) : Le a a := ⟨Sub.refl _, List.prefix_refl _, fun _ _ h _ => h, fun _ h => h, fun _ _ h => .inl h, fun _ h => .inl h⟩
theorem Le.trans {a b c : Wd} (x : Le a b) (y : Le b c) : Le a c where
  F := x.F.trans y.F
  φ := x.φ.trans y.φ
  H := fun p o h n => y.H p o (x.H p o h n) fun hb => by
    rcases x.nφ p hb with z | z
    · exact n z
    · rw [h] at z; cases z
  Hs := fun p h => y.Hs p (x.Hs p h)
  nF := fun p o h => by
    rcases y.nF p o h with z | z
    · exact x.nF p o z
    · refine .inr ?_
      cases e : a.H p with
      | none => rfl
      | some u => exact absurd z (x.Hs p (by rw [e]; simp))
  nφ := fun p h => by
    rcases y.nφ p h with z | z
    · exact x.nφ p z
    · refine .inr ?_
      cases e : a.H p with
      | none => rfl
      | some u => exact absurd z (x.Hs p (by rw [e]; simp))
section
variable {Γ} {ω ω' : Wd} {v : V} {u : Val}
theorem prefix_get {α : Type} {l m : List α} (h : l <+: m) {n : Nat} {a : α} (e : l[n]? = some a) : m[n]? = some a := by
  obtain ⟨r, rfl⟩ := h
  rw [List.getElem?_append_left (List.getElem?_eq_some_iff.mp e).1]
  exact e
theorem RV.mono {F F' : Hp} {φ φ' : List Addr} (s : Sub F F') (p : φ <+: φ') : ∀ {u : Val}, RV Γ F φ v u → RV Γ F' φ' v u
  | .d x, h => DR.sub h s
  | .obj n, ⟨a, e, h⟩ => ⟨a, prefix_get p e, h⟩
  | .scr ns, ⟨a, e, h⟩ => ⟨a, e, s.sqL h⟩
theorem RVs.mono {F F' : Hp} {φ φ' : List Addr} (s : Sub F F') (p : φ <+: φ') {vs : List V} {us : List Val} (h : RVs Γ F φ vs us) : RVs Γ F' φ' vs us := by
  induction h with
  | nil => exact .nil
  | cons a _ ih => exact .cons (a.mono s p) ih
theorem RV.le (l : Le ω ω') (h : RV Γ ω.F ω.φ v u) : RV Γ ω'.F ω'.φ v u := h.mono l.F l.φ
theorem RVs.le (l : Le ω ω') {vs : List V} {us : List Val} (h : RVs Γ ω.F ω.φ vs us) : RVs Γ ω'.F ω'.φ vs us := h.mono l.F l.φ
theorem RVs.length {F : Hp} {φ : List Addr} {vs : List V} {us : List Val} (h : RVs Γ F φ vs us) : vs.length = us.length := by
  induction h with
  | nil => rfl
  | cons _ _ ih => simp [ih]
theorem RVs.get {F : Hp} {φ : List Addr} {vs : List V} {us : List Val} (h : RVs Γ F φ vs us) : ∀ {i : Nat} {u : Val}, us[i]? = some u → ∃ v, vs[i]? = some v ∧ RV Γ F φ v u := by
  induction h with
  | nil => intro i u e; simp at e
  | cons a _ ih =>
    intro i u e
    cases i with
    | zero => simp at e; subst e; exact ⟨_, rfl, a⟩
    | succ i => simpa using ih (by simpa using e)
theorem RVs.append {F : Hp} {φ : List Addr} {vs ws : List V} {us zs : List Val} (h : RVs Γ F φ vs us) (k : RVs Γ F φ ws zs) : RVs Γ F φ (vs ++ ws) (us ++ zs) := by
  induction h with
  | nil => exact k
  | cons a _ ih => exact .cons a ih
theorem RVs.set {F : Hp} {φ : List Addr} {vs : List V} {us : List Val} (h : RVs Γ F φ vs us) (q : RV Γ F φ v u) : ∀ (i : Nat), RVs Γ F φ (vs.set i v) (us.set i u) := by
  induction h with
  | nil => intro i; exact .nil
  | cons a k ih =>
    intro i
    cases i with
    | zero => exact .cons q k
    | succ i => exact .cons a (ih i)

/-- a datum that may be an own list (whose items are all in F) -/
def DT (ω : Wd) (v : V) (d : D) : Prop := DR Γ.K ω.F v d ∨ ∃ p xs ds, v = .ref p ∧ d = .list ds ∧ ω.H p = some (.lst xs) ∧ DRs Γ.K ω.F xs ds ∧ ω.F p = none ∧ p ∉ ω.φ
theorem keepsF (l : Le ω ω') {p : Addr} {o : HO} (h : ω.H p = some o) (n : ω.F p = none) : ω'.F p = none := by
  cases e : ω'.F p with
  | none => rfl
  | some u =>
    rcases l.nF p u e with z | z
    · rw [n] at z; cases z
    · rw [h] at z; cases z
theorem keepsφ (l : Le ω ω') {p : Addr} {o : HO} (h : ω.H p = some o) (n : p ∉ ω.φ) : p ∉ ω'.φ := fun z => by
  rcases l.nφ p z with z | z
  · exact n z
  · rw [h] at z; cases z
theorem DT.le (l : Le ω ω') {d : D} (h : DT (Γ := Γ) ω v d) : DT (Γ := Γ) ω' v d := by
  rcases h with h | ⟨p, xs, ds, e1, e2, h, r, n1, n2⟩
  · exact .inl (h.sub l.F)
  · exact .inr ⟨p, xs, ds, e1, e2, l.H p _ h n2, r.sub l.F, keepsF l h n1, keepsφ l h n2⟩
/-- all of it in H -/
theorem DT.inH (ok : WOk Γ ω) {d : D} (h : DT (Γ := Γ) ω v d) : DR Γ.K ω.H v d := by
  rcases h with h | ⟨p, xs, ds, rfl, rfl, h, r, _, _⟩
  · exact h.sub ok.sub
  · exact .lst h (r.sub ok.sub)
theorem DT.list (ok : WOk Γ ω) {ds : List D} (h : DT (Γ := Γ) ω v (.list ds)) : ∃ p xs, v = .ref p ∧ ω.H p = some (.lst xs) ∧ DRs Γ.K ω.F xs ds := by
  rcases h with h | ⟨p, xs, ds, e1, e2, h, r, n1, n2⟩
  · obtain ⟨p, xs, e, h, r⟩ := h.of_lst
    exact ⟨p, xs, e, ok.sub _ _ h, r⟩
  · cases e2
    exact ⟨p, xs, e1, h, r⟩
theorem DT.tup (ok : WOk Γ ω) {ds : List D} (h : DT (Γ := Γ) ω v (.tuple ds)) : ∃ p xs, v = .ref p ∧ SqT Γ.K ω.H p xs ∧ SqT Γ.K ω.F p xs ∧ DRs Γ.K ω.F xs ds := by
  rcases h with h | ⟨p, xs, ds, e1, e2, h, r, n1, n2⟩
  · obtain ⟨p, xs, e, h, r⟩ := h.of_tup
    exact ⟨p, xs, e, ok.sub.sqT h, h, r⟩
  · cases e2
theorem DT.tupP (ok : WOk Γ ω) {ds : List D} (h : DT (Γ := Γ) ω v (.tuple ds)) : ∃ p xs, v = .ref p ∧ SqT Γ.K ω.H p xs ∧ SqT Γ.K ω.F p xs ∧ PlT Γ.K ω.F p ∧ DRs Γ.K ω.F xs ds := by
  rcases h with h | ⟨p, xs, ds, e1, e2, h, r, n1, n2⟩
  · obtain ⟨p, xs, e, h, q, r⟩ := h.of_tupP
    exact ⟨p, xs, e, ok.sub.sqT h, h, q, r⟩
  · cases e2
theorem DT.int {i : Int} (h : DT (Γ := Γ) ω v (.int i)) : v = .int i := by
  rcases h with h | ⟨p, xs, ds, e1, e2, _⟩
  · exact h.of_int
  · cases e2
theorem DT.bl {i : Bool} (h : DT (Γ := Γ) ω v (.bool i)) : v = .bl i := by
  rcases h with h | ⟨p, xs, ds, e1, e2, _⟩
  · exact h.of_bl
  · cases e2
theorem DT.non (h : DT (Γ := Γ) ω v .none) : v = .non := by
  rcases h with h | ⟨p, xs, ds, e1, e2, _⟩
  · exact h.of_non
  · cases e2
theorem DT.str {x : Str} (h : DT (Γ := Γ) ω v (.str x)) : v = .str x ∧ strOk x = true := by
  rcases h with h | ⟨p, xs, ds, e1, e2, _⟩
  · exact h.of_str
  · cases e2

/-- a value as an expression gives it: cl says that none of it is an own list -/
def RT (cl : Bool) (ω : Wd) (v : V) : Val → Prop
  | .obj n => ∃ a, ω.φ[n]? = some a ∧ v = .ref a
  | .scr ns => ∃ a, v = .ref a ∧ SqL Γ.K ω.F a (ns.map V.int)
  | .d x => match cl with
    | true => DR Γ.K ω.F v x
    | false => DT (Γ := Γ) ω v x
theorem RT.rv (h : RT (Γ := Γ) true ω v u) : RV Γ ω.F ω.φ v u := by
  cases u with
  | d x => exact h
  | obj n => exact h
  | scr ns => exact h
theorem RT.of (h : RV Γ ω.F ω.φ v u) : RT (Γ := Γ) true ω v u := by
  cases u with
  | d x => exact h
  | obj n => exact h
  | scr ns => exact h
theorem RT.weak {cl : Bool} (h : RT (Γ := Γ) cl ω v u) : RT (Γ := Γ) false ω v u := by
  cases u with
  | obj n => exact h
  | scr ns => exact h
  | d x => cases cl with
    | true => exact .inl h
    | false => exact h
theorem RT.le (l : Le ω ω') {cl : Bool} (h : RT (Γ := Γ) cl ω v u) : RT (Γ := Γ) cl ω' v u := by
  cases u with
  | obj n => obtain ⟨a, e, q⟩ := h; exact ⟨a, prefix_get l.φ e, q⟩
  | scr ns => obtain ⟨a, e, q⟩ := h; exact ⟨a, e, l.F.sqL q⟩
  | d x => cases cl with
    | true => exact DR.sub h l.F
    | false => exact DT.le l h

/-- the names' values: those in O hold own lists -/
structure EnvR (O : List Nat) (ω : Wd) (ρ : Env) (σ : St) : Prop where
  len : ρ.length = σ.length
  var : ∀ i u, ρ[i]? = some (some u) → i ∉ O → ∃ v, σ[i]? = some (some v) ∧ RV Γ ω.F ω.φ v u
  own : ∀ i u, ρ[i]? = some (some u) → i ∈ O → ∃ p xs ds, u = .d (.list ds) ∧ σ[i]? = some (some (.ref p)) ∧ ω.H p = some (.lst xs) ∧ DRs Γ.K ω.F xs ds ∧ ω.F p = none ∧ p ∉ ω.φ
  apart : ∀ i j u w p, i ∈ O → j ∈ O → i ≠ j → ρ[i]? = some (some u) → ρ[j]? = some (some w) → σ[i]? = some (some (.ref p)) → σ[j]? ≠ some (some (.ref p))
theorem EnvR.le (l : Le ω ω') {O : List Nat} {ρ : Env} {σ : St} (E : EnvR (Γ := Γ) O ω ρ σ) : EnvR (Γ := Γ) O ω' ρ σ where
  len := E.len
  var := fun i u e n => let ⟨v, a, b⟩ := E.var i u e n; ⟨v, a, b.le l⟩
  own := fun i u e n => let ⟨p, xs, ds, a, b, c, d, f, g⟩ := E.own i u e n; ⟨p, xs, ds, a, b, l.H p _ c g, d.sub l.F, keepsF l c f, keepsφ l c g⟩
  apart := E.apart
end
end MP
set_option Elab.async false
set_option linter.all false
set_option maxRecDepth 100000
/-! Part 1b: tuples that are made: the object is known. -/
namespace MP
open PySem L2 PyProof.Rows
/-- a tuple made by the program -/
def tupO (us : Array Value) (n : Nat) (xs : List V) : HO := .frz { cls := .type "tuple", data := .seq us n } (.tup xs)
theorem tupO_new {P : Program} {w : World} {H : Hp} {h : Heap} {xs : List V} {its : List Value} (hz : xs.length ≤ sizeLine) (r : Vals xs its) : ObjOk P w H (h.push { cls := .type "tuple", data := .seq its.toArray }) h.objs.size (tupO its.toArray 0 xs) :=
  ⟨Heap.get?_push_size _ rfl, hz, its, r, ⟨_, Heap.get?_push_size _ rfl, rfl, _, rfl⟩⟩
section
variable {X : Cx} {es : List Expr} {t : TA} {pos : Pos}
def tTupP (ta : TA) : TE := fun σ H Q => ta σ H fun xs H1 => xs.length ≤ sizeLine ∧ ∀ p us n, H1 p = none → Q (.ref p) (upd H1 p (tupO us n xs))
theorem pe_tupP {x1} (h : PA X es t) : PE X (.Tuple es x1 pos) (tTupP t) := by
  refine ⟨fun pins s σ H Q I hq => ?_⟩
  refine wpAny_Tuple_spliced (thn (h.run pos pins s σ H _ I hq) fun us s1 ⟨xs, H1, I1, r, z, q⟩ => ⟨by rw [← r.length]; exact z, ?_⟩)
  have hf : H1 s1.heap.objs.size = none := I1.hok.fresh (Nat.le_refl _)
  exact ⟨.ref s1.heap.objs.size, upd H1 s1.heap.objs.size (tupO us.toArray 0 xs), I1.laid (t' := s1.toks) (fun b u e => Heap.get?_push_of_some _ e) (Nat.le_refl _) (tupO_new z r), rfl, q _ _ _ hf⟩
/-- t + u -/
def rCatP (K : PySem.W.Frag) : R2 := fun x y H Q => ∃ a b xs ys, x = .ref a ∧ y = .ref b ∧ SqT K H a xs ∧ SqT K H b ys ∧ xs.length + ys.length ≤ sizeLine ∧
  (xs = [] → Q (.ref b) H) ∧ (xs ≠ [] → ys = [] → Q (.ref a) H) ∧ (xs ≠ [] → ys ≠ [] → ∀ p us n, H p = none → Q (.ref p) (upd H p (tupO us n (xs ++ ys))))
theorem op_catP : OpR X (binaryOp .Add) (rCatP X.K) := by
  intro pins s σ H x y v u Q I rx ry h
  obtain ⟨a, b, xs, ys, rfl, rfl, ha, hb, hz, q0, q1, q2⟩ := h
  cases rx
  cases ry
  obtain ⟨its, r1, p1, _⟩ := I.tuple ha
  obtain ⟨its2, r2, p2, _⟩ := I.tuple hb
  by_cases hx : xs = []
  · subst hx
    cases r1
    exact cat_tup0 p1 p2 ⟨.ref b, H, I, rfl, q0 rfl⟩
  · refine HT.cat_tup p1 p2 (fun z => hx (r1.nil_iff.mp z)) (fun z => ⟨.ref a, H, I, rfl, q1 hx (r2.nil_iff.mp z)⟩) (fun z => ?_) (by rw [← r1.length, ← r2.length]; exact hz)
    exact ⟨.ref s.heap.objs.size, _, I.laid (t' := s.toks) (o := tupO (its ++ its2).toArray 0 (xs ++ ys)) (fun b ob q => Heap.get?_push_of_some _ q) (Nat.le_refl _) (tupO_new (by rw [List.length_append]; exact hz) (r1.append r2)), rfl, q2 hx (fun w => z (r2.nil_iff.mpr w)) _ _ _ (I.hok.fresh (Nat.le_refl _))⟩
/-- t[lo:hi]: the whole of it is t itself -/
def rSlT2 (K : PySem.W.Frag) : V → Option Int → Option Int → Hp → VK → Prop := fun x lo hi H Q => ∃ a xs, x = .ref a ∧ SqT K H a xs ∧
  (HT.sIx xs.length 0 lo = 0 ∧ HT.sIx xs.length xs.length hi = xs.length → Q (.ref a) H) ∧ (¬ (HT.sIx xs.length 0 lo = 0 ∧ HT.sIx xs.length xs.length hi = xs.length) → ∀ p us n, H p = none → Q (.ref p) (upd H p (tupO us n (cutV xs lo hi))))
theorem sl_tupP : SlR X (rSlT2 X.K) := by
  intro pins s σ H x v vl vu lo hi sl Q I rx hs pl pu h
  obtain ⟨a, xs, rfl, hx, q1, q2⟩ := h
  cases rx
  obtain ⟨its, r, ht, hz⟩ := I.tuple hx
  have hlen : its.toArray.size = xs.length := by rw [List.size_toArray]; exact r.length.symm
  refine ⟨"tuple", _, PyProof.Rows.slot_tuple_getitem.lookup, ht.typeIs, ?_⟩
  by_cases hw : HT.sIx xs.length 0 lo = 0 ∧ HT.sIx xs.length xs.length hi = xs.length
  · exact getItem_tuple_whole ht hs pl pu (by rw [hlen]; exact hw) ⟨.ref a, H, I, rfl, q1 hw⟩
  · refine HT.getItem_tuple_cut ht hs pl pu (by rw [hlen]; exact hw) ?_ (by rw [hlen]; exact hz)
    rw [hlen]
    exact ⟨.ref s.heap.objs.size, _, I.laid (t' := s.toks) (o := tupO _ 0 (cutV xs lo hi)) (fun b ob q => Heap.get?_push_of_some _ q) (Nat.le_refl _) (tupO_new (Nat.le_trans (cutV_length xs lo hi) hz) ((r.drop (HT.sIx xs.length 0 lo)).take (HT.sIx xs.length xs.length hi - HT.sIx xs.length 0 lo))), rfl, q2 hw _ _ _ (I.hok.fresh (Nat.le_refl _))⟩
theorem call_tupleP : CallR X (.type "tuple") (fun xs H Q => ∃ p ys, xs = [.ref p] ∧ ((SqL X.K H p ys ∧ ∀ l us n, H l = none → Q (.ref l) (upd H l (tupO us n ys))) ∨ (SqT X.K H p ys ∧ Q (.ref p) H))) := by
  intro pins s σ H xs us Q I r h
  obtain ⟨p, ys, rfl, h⟩ := h
  obtain ⟨u, rfl, rx⟩ := vals1 r
  cases rx
  rcases h with ⟨hq, q⟩ | ⟨hq, q⟩
  · obtain ⟨its, r', pl, hz⟩ := I.list hq
    have hlen := r'.length
    refine call_tuple_list pl.isList (fun h' kp => ?_) (by simp only [List.size_toArray] <;> omega)
    have I1 : Inv X pins σ H { s with heap := h' } := I.kept (t' := s.toks) kp
    have I2 : Inv X pins σ (upd H h'.objs.size (tupO its.toArray 0 ys)) { s with heap := h'.push { cls := .type "tuple", data := .seq its.toArray } } :=
      I1.laid (t' := s.toks) (fun b o e => Heap.get?_push_of_some _ e) (Nat.le_refl _) (tupO_new hz r')
    exact ⟨.ref h'.objs.size, _, I2, rfl, q _ _ _ (I1.hok.fresh (Nat.le_refl _))⟩
  · obtain ⟨its, r', pl, hz⟩ := I.tuple hq
    exact call_tuple_same pl ⟨.ref p, H, I, rfl, q⟩
end
end MP
set_option Elab.async false
set_option linter.all false
set_option maxRecDepth 20000
/-! Part 2: judgements, names, constants, operators, tests. -/
namespace MP
open PySem L2
open PySem.PyData (strOk)

theorem PE.mono {X : Cx} {e : Expr} {t t' : TE} (h : PE X e t) (m : ∀ σ H Q, t' σ H Q → t σ H Q) : PE X e t' := ⟨fun pins s σ H Q I q => h.run pins s σ H Q I (m σ H Q q)⟩
theorem PT.mono {X : Cx} {e : Expr} {t t' : L2.TT} (h : PT X e t) (m : ∀ σ H Q, t' σ H Q → t σ H Q) : PT X e t' := ⟨fun pins s σ H Q I q => h.run pins s σ H Q I (m σ H Q q)⟩
theorem PS.mono {X : Cx} {e : Stmt} {t t' : TS} (h : PS X e t) (m : ∀ D σ H, t' D σ H → t D σ H) : PS X e t' := ⟨fun pins s σ H D I q => h.run pins s σ H D I (m D σ H q)⟩
theorem PSs.mono {X : Cx} {e : List Stmt} {t t' : TS} (h : PSs X e t) (m : ∀ D σ H, t' D σ H → t D σ H) : PSs X e t' := ⟨fun pins s σ H D I q => h.run pins s σ H D I (m D σ H q)⟩
theorem PA.mono {X : Cx} {e : List Expr} {t t' : TA} (h : PA X e t) (m : ∀ σ H Q, t' σ H Q → t σ H Q) : PA X e t' := ⟨fun pos pins s σ H Q I q => h.run pos pins s σ H Q I (m σ H Q q)⟩

abbrev Mean := Env → Store → Option (Val × Store)
abbrev Means := Env → Store → Option (List Val × Store)
section
variable (Γ : Gam) (O : List Nat)
/-- the meaning m of an expression is had -/
def T (m : Mean) (cl : Bool) : TE := fun σ H Q => ∃ ω ρ u S', ω.H = H ∧ WOk Γ ω ∧ EnvR (Γ := Γ) O ω ρ σ ∧ m ρ ω.S = some (u, S') ∧
  ∀ ω' v, Le ω ω' → WOk Γ ω' → ω'.S = S' → RT (Γ := Γ) cl ω' v u → Q v ω'.H
/-- a new list, not yet in F -/
def TF (m : Mean) : TE := fun σ H Q => ∃ ω ρ ds S', ω.H = H ∧ WOk Γ ω ∧ EnvR (Γ := Γ) O ω ρ σ ∧ m ρ ω.S = some (.d (.list ds), S') ∧
  ∀ ω' p xs, Le ω ω' → WOk Γ ω' → ω'.S = S' → ω'.H p = some (.lst xs) → DRs Γ.K ω'.F xs ds → ω'.F p = none → p ∉ ω'.φ → ω.H p = none → Q (.ref p) ω'.H
def TB (m : Mean) : L2.TT := fun σ H Q => ∃ ω ρ b S', ω.H = H ∧ WOk Γ ω ∧ EnvR (Γ := Γ) O ω ρ σ ∧ m ρ ω.S = some (.d (.bool b), S') ∧
  ∀ ω', Le ω ω' → WOk Γ ω' → ω'.S = S' → Q b ω'.H
def TAs (ms : Means) : TA := fun σ H Q => ∃ ω ρ us S', ω.H = H ∧ WOk Γ ω ∧ EnvR (Γ := Γ) O ω ρ σ ∧ ms ρ ω.S = some (us, S') ∧
  ∀ ω' vs, Le ω ω' → WOk Γ ω' → ω'.S = S' → RVs Γ ω'.F ω'.φ vs us → Q vs ω'.H
end
/-- what is known where code runs -/
structure Ctx (Γ : Gam) (X : Cx) : Prop where
  hK : Γ.K = X.K
  hw : Γ.w = X.w
  room : Room 100 X.A
  calm : X.calm = true
  nd : X.N.Nodup
  own : PassesOwn (model X.prog X.w) X.A X.env X.xe
  b_len : X.mg "len" = none
  b_range : X.mg "range" = none
  b_sorted : X.mg "sorted" = none
  b_set : X.mg "set" = none
  b_all : X.mg "all" = none
  b_any : X.mg "any" = none
  b_sum : X.mg "sum" = none
  b_max : X.mg "max" = none
  b_tuple : X.mg "tuple" = none
  b_list : X.mg "list" = none
  b_dict : X.mg "dict" = none
  b_int : X.mg "int" = none
  b_bool : X.mg "bool" = none
  b_str : X.mg "str" = none
  b_isi : X.mg "isinstance" = none
theorem Ctx.blk {Γ : Gam} {X : Cx} (c : Ctx Γ X) (s : Shared) (H : Hp) (scope : Scope) (cenv : PySem.Env) (fp : List Addr) : Ctx Γ (X.blk s H scope cenv fp) :=
  ⟨c.hK, c.hw, c.room, c.calm, c.nd, PassesOwn.never, c.b_len, c.b_range, c.b_sorted, c.b_set, c.b_all, c.b_any, c.b_sum, c.b_max, c.b_tuple, c.b_list, c.b_dict, c.b_int, c.b_bool, c.b_str, c.b_isi⟩

/-! ### worlds that grow -/
section
variable {Γ : Gam} {ω : Wd}
def Wd.put (ω : Wd) (p : Addr) (o : HO) : Wd := { ω with F := upd ω.F p o, H := upd ω.H p o }
def Wd.lay (ω : Wd) (p : Addr) (o : HO) : Wd := { ω with H := upd ω.H p o }
theorem sub_upd {F : Hp} {p : Addr} {o : HO} (h : F p = none) : Sub F (upd F p o) := fun q u e => by
  rw [upd_ne (ne_of_none e h)]; exact e
theorem WOk.none_F (ok : WOk Γ ω) {p : Addr} (h : ω.H p = none) : ω.F p = none := by
  cases e : ω.F p with
  | none => rfl
  | some u => rw [ok.sub p u e] at h; cases h
theorem ObR.some {a : Addr} {o : Ob} (h : ObR Γ ω a o) : ∃ u, ω.H a = some u := by
  cases o with
  | cells xs => obtain ⟨_, e, _⟩ := h; exact ⟨_, e⟩
  | kept kvs => obtain ⟨_, e, _⟩ := h; exact ⟨_, e⟩
  | inst c fs => obtain ⟨_, _, e, _⟩ := h; exact ⟨_, e⟩
theorem WOk.φ_some (ok : WOk Γ ω) {a : Addr} (h : a ∈ ω.φ) : ∃ u, ω.H a = some u := by
  obtain ⟨n, hn, e⟩ := List.getElem_of_mem h
  have hs : n < ω.S.length := by rw [← ok.len]; exact hn
  obtain ⟨b, e1, r⟩ := ok.ob n ω.S[n] (List.getElem?_eq_getElem hs)
  rw [List.getElem?_eq_getElem hn, e] at e1
  cases e1
  exact r.some
theorem WOk.fresh (ok : WOk Γ ω) {p : Addr} (h : ω.H p = none) : p ∉ ω.φ := fun z => by
  obtain ⟨u, e⟩ := ok.φ_some z
  rw [h] at e; cases e
theorem Wd.lay_le (ok : WOk Γ ω) {p : Addr} (o : HO) (h : ω.H p = none) : Le ω (ω.lay p o) where
  F := Sub.refl _
  φ := List.prefix_refl _
  H := fun q u e _ => by show upd ω.H p o q = _; rw [upd_ne (ne_of_none e h)]; exact e
  Hs := fun q e => by
    show upd ω.H p o q ≠ none
    by_cases hq : q = p
    · rw [hq, upd_same]; simp
    · rw [upd_ne hq]; exact e
  nF := fun q u e => .inl e
  nφ := fun q e => .inl e
theorem Wd.put_le (ok : WOk Γ ω) {p : Addr} (o : HO) (h : ω.H p = none) : Le ω (ω.put p o) where
  F := sub_upd (ok.none_F h)
  φ := List.prefix_refl _
  H := (Wd.lay_le ok o h).H
  Hs := (Wd.lay_le ok o h).Hs
  nF := fun q u e => by
    have e : upd ω.F p o q = some u := e
    by_cases hq : q = p
    · subst hq; exact .inr h
    · rw [upd_ne hq] at e; exact .inl e
  nφ := fun q e => .inl e
theorem ObR.lay (ok : WOk Γ ω) {F' : Hp} (sF : Sub ω.F F') {p : Addr} {o : HO} (h : ω.H p = none) {a : Addr} {b : Ob} (r : ObR Γ ω a b) : ObR Γ { ω with F := F', H := upd ω.H p o } a b := by
  cases b with
  | cells xs => obtain ⟨vs, e, d⟩ := r; exact ⟨vs, by show upd ω.H p o a = _; rw [upd_ne (ne_of_none e h)]; exact e, d.sub sF⟩
  | kept kvs => obtain ⟨xs, e, q1, q2, q3, q4⟩ := r; exact ⟨xs, by show upd ω.H p o a = _; rw [upd_ne (ne_of_none e h)]; exact e, q1, q2, q3, fun x hx => let ⟨ds, z1, z2, z3⟩ := q4 x hx; ⟨ds, z1, z2.sub sF, z3⟩⟩
  | inst c fs => obtain ⟨dx, vs, e, d, l⟩ := r; exact ⟨dx, vs, by show upd ω.H p o a = _; rw [upd_ne (ne_of_none e h)]; exact e, d.mono sF (List.prefix_refl _), l⟩
theorem Wd.lay_ok (ok : WOk Γ ω) {p : Addr} (o : HO) (h : ω.H p = none) : WOk Γ (ω.lay p o) where
  sub := fun q u e => by show upd ω.H p o q = _; rw [upd_ne (ne_of_none (ok.sub q u e) h)]; exact ok.sub q u e
  len := ok.len
  nd := ok.nd
  fr := ok.fr
  ob := fun n b e => let ⟨a, e1, r⟩ := ok.ob n b e; ⟨a, e1, ObR.lay (F' := ω.F) ok (Sub.refl _) h r⟩
theorem Wd.put_ok (ok : WOk Γ ω) {p : Addr} (o : HO) (h : ω.H p = none) : WOk Γ (ω.put p o) where
  sub := fun q u e => by
    have e : upd ω.F p o q = some u := e
    show upd ω.H p o q = some u
    by_cases hq : q = p
    · subst hq; rw [upd_same] at e ⊢; exact e
    · rw [upd_ne hq] at e ⊢; exact ok.sub q u e
  len := ok.len
  nd := ok.nd
  fr := fun a ha => by
    show upd ω.F p o a = none
    rw [upd_ne (show a ≠ p from fun z => by subst z; exact ok.fresh h ha)]
    exact ok.fr a ha
  ob := fun n b e => let ⟨a, e1, r⟩ := ok.ob n b e; ⟨a, e1, ObR.lay (F' := upd ω.F p o) ok (sub_upd (ok.none_F h)) h r⟩
/-- a list that was laid goes into F -/
theorem Wd.take_le (ok : WOk Γ ω) {ω₀ : Wd} (l : Le ω₀ ω) {p : Addr} {o : HO} (hp : ω.H p = some o) (hf : ω.F p = none) (h0 : ω₀.H p = none) : Le ω₀ { ω with F := upd ω.F p o } where
  F := l.F.trans (sub_upd hf)
  φ := l.φ
  H := l.H
  Hs := l.Hs
  nF := fun q u e => by
    have e : upd ω.F p o q = some u := e
    by_cases hq : q = p
    · subst hq; exact .inr h0
    · rw [upd_ne hq] at e; exact l.nF q u e
  nφ := l.nφ
theorem ObR.subF {F' : Hp} (sF : Sub ω.F F') {a : Addr} {b : Ob} (r : ObR Γ ω a b) : ObR Γ { ω with F := F' } a b := by
  cases b with
  | cells xs => obtain ⟨vs, e, d⟩ := r; exact ⟨vs, e, d.sub sF⟩
  | kept kvs => obtain ⟨xs, e, q1, q2, q3, q4⟩ := r; exact ⟨xs, e, q1, q2, q3, fun x hx => let ⟨ds, z1, z2, z3⟩ := q4 x hx; ⟨ds, z1, z2.sub sF, z3⟩⟩
  | inst c fs => obtain ⟨dx, vs, e, d, l⟩ := r; exact ⟨dx, vs, e, d.mono sF (List.prefix_refl _), l⟩
theorem Wd.take_ok (ok : WOk Γ ω) {p : Addr} {o : HO} (hp : ω.H p = some o) (hf : ω.F p = none) (hφ : p ∉ ω.φ) : WOk Γ { ω with F := upd ω.F p o } where
  sub := fun q u e => by
    have e : upd ω.F p o q = some u := e
    by_cases hq : q = p
    · subst hq; rw [upd_same] at e; cases e; exact hp
    · rw [upd_ne hq] at e; exact ok.sub q u e
  len := ok.len
  nd := ok.nd
  fr := fun a ha => by
    show upd ω.F p o a = none
    rw [upd_ne (show a ≠ p from fun z => by subst z; exact hφ ha)]
    exact ok.fr a ha
  ob := fun n b e => let ⟨a, e1, r⟩ := ok.ob n b e; ⟨a, e1, ObR.subF (sub_upd hf) r⟩
theorem DR.new_tup {p : Addr} {us : Array Value} {n : Nat} {vs : List V} {ds : List D} (ok : WOk Γ ω) (h : ω.H p = none) (r : DRs Γ.K ω.F vs ds) : DR Γ.K (ω.put p (tupO us n vs)).F (.ref p) (.tuple ds) :=
  .tup (.inl (.inr ⟨_, upd_same⟩)) (.inl ⟨us, n, vs, upd_same⟩) (r.sub (sub_upd (ok.none_F h)))
end

section
variable {Γ : Gam} {X : Cx} {O : List Nat}
theorem PM.weak {e : Expr} {m : Mean} {cl : Bool} (h : PE X e (T Γ O m cl)) : PE X e (T Γ O m false) := PE.mono h fun σ H Q ⟨ω, ρ, u, S', e1, ok, E, e2, k⟩ =>
  ⟨ω, ρ, u, S', e1, ok, E, e2, fun ω' v l ok' es r => k ω' v l ok' es r.weak⟩
/-- a new list, clean -/
theorem PM.fresh {e : Expr} {m : Mean} (h : PE X e (TF Γ O m)) (hl : ∀ ρ S u S', m ρ S = some (u, S') → ∃ ds, u = .d (.list ds)) : PE X e (T Γ O m true) := PE.mono h fun σ H Q ⟨ω, ρ, u, S', e1, ok, E, e2, k⟩ => by
  obtain ⟨ds, rfl⟩ := hl _ _ _ _ e2
  refine ⟨ω, ρ, ds, S', e1, ok, E, e2, fun ω' p xs l ok' es hp r hf hφ h0 => ?_⟩
  have q := k { ω' with F := upd ω'.F p (.lst xs) } (.ref p) (Wd.take_le ok' l hp hf h0) (Wd.take_ok ok' hp hf hφ) es
  exact q (DR.lst upd_same (r.sub (sub_upd hf)))

/-! ### names and constants -/
def eVar (i : Nat) : Mean := fun ρ S => (ρ.getD i none).map fun u => (u, S)
def eC (d : D) : Mean := fun _ S => some (.d d, S)
theorem eVar_some {i : Nat} {ρ : Env} {S S' : Store} {u : Val} (h : eVar i ρ S = some (u, S')) : ρ[i]? = some (some u) ∧ S = S' := by
  unfold eVar at h
  cases e : ρ.getD i none with
  | none => rw [e] at h; cases h
  | some w =>
    rw [e] at h
    cases h
    rw [List.getD_eq_getElem?_getD] at e
    cases e2 : ρ[i]? with
    | none => rw [e2] at e; cases e
    | some x => rw [e2] at e; exact ⟨congrArg some e, rfl⟩
theorem me_var (i : Nat) {x : Str} {pos : Pos} (hO : i ∉ O) (h : PE X (.Name x pos) (tVar i)) : PE X (.Name x pos) (T Γ O (eVar i) true) := PE.mono h fun σ H Q ⟨ω, ρ, u, S', e1, ok, E, e2, k⟩ => by
  obtain ⟨e3, rfl⟩ := eVar_some e2
  obtain ⟨v, e4, r⟩ := E.var i u e3 hO
  subst e1
  exact ⟨v, e4, k ω v (Le.refl ω) ok rfl (RT.of r)⟩
/-- a name that may hold an own list -/
theorem me_own (i : Nat) {x : Str} {pos : Pos} (h : PE X (.Name x pos) (tVar i)) : PE X (.Name x pos) (T Γ O (eVar i) false) := PE.mono h fun σ H Q ⟨ω, ρ, u, S', e1, ok, E, e2, k⟩ => by
  obtain ⟨e3, rfl⟩ := eVar_some e2
  subst e1
  by_cases hO : i ∈ O
  · obtain ⟨p, xs, ds, rfl, e4, h1, h2, h3, h4⟩ := E.own i u e3 hO
    exact ⟨_, e4, k ω _ (Le.refl ω) ok rfl (.inr ⟨p, xs, ds, rfl, rfl, h1, h2, h3, h4⟩)⟩
  · obtain ⟨v, e4, r⟩ := E.var i u e3 hO
    exact ⟨v, e4, k ω v (Le.refl ω) ok rfl (RT.of r).weak⟩
theorem me_const {e : Expr} {v : V} {d : D} (h : PE X e (tC v)) (r : ∀ K F, DR K F v d) : PE X e (T Γ O (eC d) true) := PE.mono h fun σ H Q ⟨ω, ρ, u, S', e1, ok, E, e2, k⟩ => by
  cases e2
  subst e1
  exact k ω v (Le.refl ω) ok rfl (r _ _)
theorem me_int {i j pos} : PE X (.Constant (.int i) j pos) (T Γ O (eC (.int i)) true) := me_const pe_int fun _ _ => .int i
theorem me_bl {b j pos} : PE X (.Constant (.bool b) j pos) (T Γ O (eC (.bool b)) true) := me_const pe_bl fun _ _ => .bl b
theorem me_non {j pos} : PE X (.Constant .none j pos) (T Γ O (eC .none) true) := me_const pe_non fun _ _ => .non
theorem me_str {x : Str} {j pos} (h : strOk x = true := by decide +kernel) : PE X (.Constant (.str x) j pos) (T Γ O (eC (.str x)) true) := me_const pe_str fun _ _ => .str h
/-- a module's int -/
theorem me_gint {x : Str} {i : Int} {t : Tok} {pos : Pos} (hg : Gl X x) (hm : X.mg x = some (.int i t)) (hd : (x == ("__debug__" : Str)) = false := by decide) : PE X (.Name x pos) (T Γ O (eC (.int i)) true) :=
  me_const (pe_glob (v := .int i) hg hm ⟨t, rfl⟩ hd) fun _ _ => .int i

/-! ### operators -/
def asD : Val → Option D
  | .d x => some x
  | _ => none
/-- two data -/
def eBin (op : D → D → Option D) (a b : Mean) : Mean := fun ρ S => match a ρ S with
  | some (.d x, S1) => match b ρ S1 with
    | some (.d y, S2) => (op x y).map fun z => (.d z, S2)
    | _ => none
  | _ => none
theorem eBin_some {op : D → D → Option D} {a b : Mean} {ρ : Env} {S S' : Store} {u : Val} (h : eBin op a b ρ S = some (u, S')) :
    ∃ x y z S1, a ρ S = some (.d x, S1) ∧ b ρ S1 = some (.d y, S') ∧ op x y = some z ∧ u = .d z := by
  unfold eBin at h
  split at h
  · rename_i x S1 e1
    split at h
    · rename_i y S2 e2
      cases e3 : op x y with
      | none => rw [e3] at h; cases h
      | some z => rw [e3] at h; cases h; exact ⟨x, y, z, S1, e1, e2, e3, rfl⟩
    · cases h
  · cases h
/-- what the rule r asks is had, by data -/
def Serves2 (Γ : Gam) (r : R2) (op : D → D → Option D) : Prop := ∀ (ω : Wd) (x y : V) (dx dy dz : D) (Q : VK), WOk Γ ω → DT (Γ := Γ) ω x dx → DT (Γ := Γ) ω y dy → op dx dy = some dz →
  (∀ ω' v, Le ω ω' → WOk Γ ω' → ω'.S = ω.S → DR Γ.K ω'.F v dz → Q v ω'.H) → r x y ω.H Q
theorem T_bin {r : R2} {op : D → D → Option D} {a b : Mean} {c1 c2 : Bool} (hs : Serves2 Γ r op) {σ : St} {H : Hp} {Q : VK} (h : T Γ O (eBin op a b) true σ H Q) : tOp r (T Γ O a false) (T Γ O b false) σ H Q := by
  obtain ⟨ω, ρ, u, S', e1, ok, E, e2, k⟩ := h
  obtain ⟨x, y, z, S1, ea, eb, eo, rfl⟩ := eBin_some e2
  refine ⟨ω, ρ, _, S1, e1, ok, E, ea, fun ω1 v1 l1 ok1 es1 r1 => ?_⟩
  refine ⟨ω1, ρ, _, S', rfl, ok1, E.le l1, by rw [es1]; exact eb, fun ω2 v2 l2 ok2 es2 r2 => ?_⟩
  refine hs ω2 v1 v2 x y z Q ok2 (DT.le l2 r1) r2 eo fun ω3 v l3 ok3 es3 r3 => ?_
  exact k ω3 v ((l1.trans l2).trans l3) ok3 (es3.trans es2) r3
theorem me_op {op : Operator} {r : R2} {f : D → D → Option D} {a b : Expr} {ma mb : Mean} {c1 c2 : Bool} {pos : Pos} (ho : OpR X (binaryOp op) r) (hs : Serves2 Γ r f) (ha : PE X a (T Γ O ma c1)) (hb : PE X b (T Γ O mb c2)) :
    PE X (.BinOp a op b pos) (T Γ O (eBin f ma mb) true) := PE.mono (pe_op ho (PM.weak ha) (PM.weak hb)) fun σ H Q h => T_bin (c1 := c1) (c2 := c2) hs h
theorem me_cmp {op : CmpOp} {r : R2} {f : D → D → Option D} {a b : Expr} {ma mb : Mean} {c1 c2 : Bool} {pos : Pos} (ho : OpR X (compareOp op) r) (hs : Serves2 Γ r f) (ha : PE X a (T Γ O ma c1)) (hb : PE X b (T Γ O mb c2))
    (hm : behindInMarks op b = false) : PE X (.Compare a [op] [b] pos) (T Γ O (eBin f ma mb) true) := PE.mono (pe_cmpR ho (PM.weak ha) (PM.weak hb) hm) fun σ H Q h => T_bin (c1 := c1) (c2 := c2) hs h
/-- a test of a comparison -/
theorem mt_cmp {op : CmpOp} {r : R2} {f : D → D → Option D} {a b : Expr} {ma mb : Mean} {c1 c2 : Bool} {pos : Pos} (ho : OpR X (compareOp op) r) (hs : Serves2 Γ r f) (ha : PE X a (T Γ O ma c1)) (hb : PE X b (T Γ O mb c2))
    (hm : behindInMarks op b = false) : PT X (.Compare a [op] [b] pos) (TB Γ O (eBin f ma mb)) := PT.mono (pt_cmpR ho (PM.weak ha) (PM.weak hb) hm) fun σ H Q ⟨ω, ρ, c, S', e1, ok, E, e2, k⟩ =>
  T_bin (c1 := c1) (c2 := c2) hs ⟨ω, ρ, _, S', e1, ok, E, e2, fun ω' v l ok' es (r : DR Γ.K ω'.F v (.bool c)) => ⟨c, r.of_bl, k ω' l ok' es⟩⟩
/-- a test of a value that is True or False -/
theorem mt_val {e : Expr} {m : Mean} {cl : Bool} (h : PE X e (T Γ O m cl)) (he : ∀ whole, isTrue e X.env whole = (do let v ← whole; standAt e.pos; holding [v] (truthy v)) := by intro _; rfl) : PT X e (TB Γ O m) :=
  PT.mono (pt_val (PM.weak h) he) fun σ H Q ⟨ω, ρ, c, S', e1, ok, E, e2, k⟩ =>
  ⟨ω, ρ, _, S', e1, ok, E, e2, fun ω' v l ok' es (r : DT (Γ := Γ) ω' v (.bool c)) => ⟨c, r.bl, k ω' l ok' es⟩⟩

/-! ### and, or, not, if else -/
def eAnd (a b : Mean) : Mean := fun ρ S => match a ρ S with
  | some (.d (.bool true), S1) => b ρ S1
  | some (.d (.bool false), S1) => some (.d (.bool false), S1)
  | _ => none
def eOr (a b : Mean) : Mean := fun ρ S => match a ρ S with
  | some (.d (.bool true), S1) => some (.d (.bool true), S1)
  | some (.d (.bool false), S1) => b ρ S1
  | _ => none
def eNot (a : Mean) : Mean := fun ρ S => match a ρ S with
  | some (.d (.bool b), S1) => some (.d (.bool (!b)), S1)
  | _ => none
def eIf (t a b : Mean) : Mean := fun ρ S => match t ρ S with
  | some (.d (.bool true), S1) => a ρ S1
  | some (.d (.bool false), S1) => b ρ S1
  | _ => none
theorem eIf_some {t a b : Mean} {ρ : Env} {S : Store} {r : Val × Store} (h : eIf t a b ρ S = some r) : ∃ c S1, t ρ S = some (.d (.bool c), S1) ∧ (if c = true then a ρ S1 else b ρ S1) = some r := by
  unfold eIf at h
  split at h
  · rename_i S1 e; exact ⟨true, S1, e, by simpa using h⟩
  · rename_i S1 e; exact ⟨false, S1, e, by simpa using h⟩
  · cases h
theorem eAnd_some {a b : Mean} {ρ : Env} {S : Store} {r : Val × Store} (h : eAnd a b ρ S = some r) : ∃ c S1, a ρ S = some (.d (.bool c), S1) ∧ (if c = true then b ρ S1 else some (.d (.bool false), S1)) = some r := by
  unfold eAnd at h
  split at h
  · rename_i S1 e; exact ⟨true, S1, e, by simpa using h⟩
  · rename_i S1 e; exact ⟨false, S1, e, by simpa using h⟩
  · cases h
theorem eOr_some {a b : Mean} {ρ : Env} {S : Store} {r : Val × Store} (h : eOr a b ρ S = some r) : ∃ c S1, a ρ S = some (.d (.bool c), S1) ∧ (if c = true then some (.d (.bool true), S1) else b ρ S1) = some r := by
  unfold eOr at h
  split at h
  · rename_i S1 e; exact ⟨true, S1, e, by simpa using h⟩
  · rename_i S1 e; exact ⟨false, S1, e, by simpa using h⟩
  · cases h
theorem eNot_some {a : Mean} {ρ : Env} {S : Store} {r : Val × Store} (h : eNot a ρ S = some r) : ∃ c S1, a ρ S = some (.d (.bool c), S1) ∧ r = (.d (.bool (!c)), S1) := by
  unfold eNot at h
  split at h
  · rename_i c S1 e; cases h; exact ⟨c, S1, e, rfl⟩
  · cases h
variable {a b : Expr} {ma mb mt : Mean} {pos : Pos} {rest : List Expr}
/-- the first of an and -/
theorem mw_and (ha : PT X a (TB Γ O ma)) (hb : PW X (.BoolOp .And (b :: rest) pos) (TB Γ O mb)) : PW X (.BoolOp .And (a :: b :: rest) pos) (TB Γ O (eAnd ma mb)) := by
  refine ⟨fun wh pins s σ H Q I h => (pw_and ha hb).run wh pins s σ H Q I ?_⟩
  obtain ⟨ω, ρ, c, S', e1, ok, E, e2, k⟩ := h
  obtain ⟨d, S1, ea, er⟩ := eAnd_some e2
  refine ⟨ω, ρ, d, S1, e1, ok, E, ea, fun ω1 l1 ok1 es1 => ?_⟩
  cases d with
  | true => exact iteT ⟨ω1, ρ, c, S', rfl, ok1, E.le l1, by rw [es1]; simpa using er, fun ω2 l2 ok2 es2 => k ω2 (l1.trans l2) ok2 es2⟩
  | false =>
    simp at er
    obtain ⟨rfl, rfl⟩ := er
    exact iteF (k ω1 l1 ok1 es1)
theorem mw_or (ha : PT X a (TB Γ O ma)) (hb : PW X (.BoolOp .Or (b :: rest) pos) (TB Γ O mb)) : PW X (.BoolOp .Or (a :: b :: rest) pos) (TB Γ O (eOr ma mb)) := by
  refine ⟨fun wh pins s σ H Q I h => (pw_or ha hb).run wh pins s σ H Q I ?_⟩
  obtain ⟨ω, ρ, c, S', e1, ok, E, e2, k⟩ := h
  obtain ⟨d, S1, ea, er⟩ := eOr_some e2
  refine ⟨ω, ρ, d, S1, e1, ok, E, ea, fun ω1 l1 ok1 es1 => ?_⟩
  cases d with
  | false => exact iteF ⟨ω1, ρ, c, S', rfl, ok1, E.le l1, by rw [es1]; simpa using er, fun ω2 l2 ok2 es2 => k ω2 (l1.trans l2) ok2 es2⟩
  | true =>
    simp at er
    obtain ⟨rfl, rfl⟩ := er
    exact iteT (k ω1 l1 ok1 es1)
theorem mw_and1 (ha : PT X a (TB Γ O ma)) : PW X (.BoolOp .And [a] pos) (TB Γ O ma) := pw_and1 ha
theorem mw_or1 (ha : PT X a (TB Γ O ma)) : PW X (.BoolOp .Or [a] pos) (TB Γ O ma) := pw_or1 ha
theorem mt_w {e : Expr} (h : PW X e (TB Γ O ma)) : PT X e (TB Γ O ma) := h.pt
theorem mt_not (ha : PT X a (TB Γ O ma)) : PT X (.UnaryOp .Not a pos) (TB Γ O (eNot ma)) := PT.mono (pt_not ha) fun σ H Q ⟨ω, ρ, c, S', e1, ok, E, e2, k⟩ => by
  obtain ⟨d, S1, ea, er⟩ := eNot_some e2
  simp at er
  obtain ⟨rfl, rfl⟩ := er
  exact ⟨ω, ρ, d, S', e1, ok, E, ea, k⟩
/-- .. as values -/
theorem me_and (ha : PE X a (T Γ O ma true)) (hb : PE X (.BoolOp .And (b :: rest) pos) (T Γ O mb true)) : PE X (.BoolOp .And (a :: b :: rest) pos) (T Γ O (eAnd ma mb) true) := PE.mono (pe_and ha hb) fun σ H Q ⟨ω, ρ, c, S', e1, ok, E, e2, k⟩ => by
  obtain ⟨d, S1, ea, er⟩ := eAnd_some e2
  refine ⟨ω, ρ, _, S1, e1, ok, E, ea, fun ω1 v l1 ok1 es1 (r : DR Γ.K ω1.F v (.bool d)) => ⟨d, r.of_bl, ?_⟩⟩
  cases d with
  | true => exact iteT ⟨ω1, ρ, c, S', rfl, ok1, E.le l1, by rw [es1]; simpa using er, fun ω2 v l2 ok2 es2 => k ω2 v (l1.trans l2) ok2 es2⟩
  | false =>
    simp at er
    obtain ⟨rfl, rfl⟩ := er
    exact iteF (k ω1 _ l1 ok1 es1 (DR.bl false))
theorem me_or (ha : PE X a (T Γ O ma true)) (hb : PE X (.BoolOp .Or (b :: rest) pos) (T Γ O mb true)) : PE X (.BoolOp .Or (a :: b :: rest) pos) (T Γ O (eOr ma mb) true) := PE.mono (pe_or ha hb) fun σ H Q ⟨ω, ρ, c, S', e1, ok, E, e2, k⟩ => by
  obtain ⟨d, S1, ea, er⟩ := eOr_some e2
  refine ⟨ω, ρ, _, S1, e1, ok, E, ea, fun ω1 v l1 ok1 es1 (r : DR Γ.K ω1.F v (.bool d)) => ⟨d, r.of_bl, ?_⟩⟩
  cases d with
  | false => exact iteF ⟨ω1, ρ, c, S', rfl, ok1, E.le l1, by rw [es1]; simpa using er, fun ω2 v l2 ok2 es2 => k ω2 v (l1.trans l2) ok2 es2⟩
  | true =>
    simp at er
    obtain ⟨rfl, rfl⟩ := er
    exact iteT (k ω1 _ l1 ok1 es1 (DR.bl true))
theorem me_one {op} (h : PE X a (T Γ O ma true)) : PE X (.BoolOp op [a] pos) (T Γ O ma true) := pe_one h
theorem me_not (ha : PE X a (T Γ O ma true)) : PE X (.UnaryOp .Not a pos) (T Γ O (eNot ma) true) := PE.mono (pe_not ha) fun σ H Q ⟨ω, ρ, c, S', e1, ok, E, e2, k⟩ => by
  obtain ⟨d, S1, ea, er⟩ := eNot_some e2
  simp at er
  obtain ⟨rfl, rfl⟩ := er
  exact ⟨ω, ρ, _, S', e1, ok, E, ea, fun ω1 v l1 ok1 es1 (r : DR Γ.K ω1.F v (.bool d)) => ⟨d, r.of_bl, k ω1 _ l1 ok1 es1 (DR.bl _)⟩⟩
theorem me_if {c : Expr} {cl : Bool} (hc : PT X c (TB Γ O mt)) (ha : PE X a (T Γ O ma cl)) (hb : PE X b (T Γ O mb cl)) : PE X (.IfExp c a b pos) (T Γ O (eIf mt ma mb) cl) := PE.mono (pe_ifExp hc ha hb) fun σ H Q ⟨ω, ρ, c, S', e1, ok, E, e2, k⟩ => by
  obtain ⟨d, S1, ea, er⟩ := eIf_some e2
  refine ⟨ω, ρ, d, S1, e1, ok, E, ea, fun ω1 l1 ok1 es1 => ?_⟩
  cases d with
  | true => exact iteT ⟨ω1, ρ, c, S', rfl, ok1, E.le l1, by rw [es1]; simpa using er, fun ω2 v l2 ok2 es2 => k ω2 v (l1.trans l2) ok2 es2⟩
  | false => exact iteF ⟨ω1, ρ, c, S', rfl, ok1, E.le l1, by rw [es1]; simpa using er, fun ω2 v l2 ok2 es2 => k ω2 v (l1.trans l2) ok2 es2⟩
theorem le_none {ω ω1 : Wd} (l : Le ω ω1) {p : Addr} (h : ω1.H p = none) : ω.H p = none := by
  cases e : ω.H p with
  | none => rfl
  | some u => exact absurd h (l.Hs p (by rw [e]; simp))
theorem mf_if {c : Expr} (hc : PT X c (TB Γ O mt)) (ha : PE X a (TF Γ O ma)) (hb : PE X b (TF Γ O mb)) : PE X (.IfExp c a b pos) (TF Γ O (eIf mt ma mb)) := PE.mono (pe_ifExp hc ha hb) fun σ H Q ⟨ω, ρ, c, S', e1, ok, E, e2, k⟩ => by
  obtain ⟨d, S1, ea, er⟩ := eIf_some e2
  refine ⟨ω, ρ, d, S1, e1, ok, E, ea, fun ω1 l1 ok1 es1 => ?_⟩
  cases d with
  | true => exact iteT ⟨ω1, ρ, c, S', rfl, ok1, E.le l1, by rw [es1]; simpa using er, fun ω2 p xs l2 ok2 es2 a b c d e => k ω2 p xs (l1.trans l2) ok2 es2 a b c d (le_none l1 e)⟩
  | false => exact iteF ⟨ω1, ρ, c, S', rfl, ok1, E.le l1, by rw [es1]; simpa using er, fun ω2 p xs l2 ok2 es2 a b c d e => k ω2 p xs (l1.trans l2) ok2 es2 a b c d (le_none l1 e)⟩
end
end MP
set_option Elab.async false
set_option linter.all false
set_option maxRecDepth 20000
/-! Part 3: the operators, subscripts, built-in calls. -/
namespace MP
open PySem L2
open PySem.PyData (strOk)

/-! ### what the rules are asked -/
def okD (d : D) : Bool := decide (d.depth ≤ 1500)
def opEq (x y : D) : Option D := if okD y || okD x then some (.bool (PyData.eqv x y)) else none
def opNe (x y : D) : Option D := if okD y || okD x then some (.bool (!PyData.eqv x y)) else none
def opIn (x y : D) : Option D := match y with
  | .list ds => if okD x then some (.bool (ds.any fun z => PyData.eqv z x)) else none
  | .tuple ds => if okD x then some (.bool (ds.any fun z => PyData.eqv z x)) else none
  | _ => none
def opNotIn (x y : D) : Option D := match y with
  | .list ds => if okD x then some (.bool (!ds.any fun z => PyData.eqv z x)) else none
  | .tuple ds => if okD x then some (.bool (!ds.any fun z => PyData.eqv z x)) else none
  | _ => none
def isN : D → Bool
  | .none => true
  | _ => false
def opIs (x y : D) : Option D := match y with
  | .none => some (.bool (isN x))
  | _ => none
def opIsNot (x y : D) : Option D := match y with
  | .none => some (.bool (!isN x))
  | _ => none
def opII (f : Int → Int → D) (x y : D) : Option D := match x, y with
  | .int i, .int j => some (f i j)
  | _, _ => none
def intsD : List D → Option (List Int)
  | [] => some []
  | .int i :: r => (intsD r).map (i :: ·)
  | _ => none
def opLt (x y : D) : Option D := match x, y with
  | .int i, .int j => some (.bool (decide (i < j)))
  | .tuple xs, .tuple ys => match intsD xs, intsD ys with
    | some a, some b => some (.bool (HT.lexLt a b))
    | _, _ => none
  | _, _ => none
def opLe : D → D → Option D := opII fun i j => .bool (decide (i ≤ j))
def opGt : D → D → Option D := opII fun i j => .bool (decide (j < i))
def opGe : D → D → Option D := opII fun i j => .bool (decide (j ≤ i))
def opAdd (x y : D) : Option D := match x, y with
  | .int i, .int j => some (.int (i + j))
  | .tuple a, .tuple b => if a.length + b.length ≤ 1000000 then some (.tuple (a ++ b)) else none
  | .list a, .list b => if a.length + b.length ≤ 1000000 then some (.list (a ++ b)) else none
  | _, _ => none
def opSub : D → D → Option D := opII fun i j => .int (i - j)
def smallI (i : Int) : Bool := decide (-18446744073709551616 < i) && decide (i < 18446744073709551616)
def opMul (x y : D) : Option D := match x, y with
  | .int i, .int j => if smallI i || smallI j then some (.int (i * j)) else none
  | _, _ => none
def opMod (x y : D) : Option D := match x, y with
  | .int i, .int j => if 0 < j then some (.int (i % j)) else none
  | _, _ => none
def opFdiv (x y : D) : Option D := match x, y with
  | .int i, .int j => if 0 < j ∧ j < 1073741824 then some (.int (i / j)) else none
  | _, _ => none
def boolsD : List D → Option (List Bool)
  | [] => some []
  | .bool i :: r => (boolsD r).map (i :: ·)
  | _ => none

theorem ints_map : ∀ {ds : List D} {is : List Int}, intsD ds = some is → ds = is.map PyData.int
  | [], is, h => by cases h; rfl
  | .int i :: r, is, h => by
    unfold intsD at h
    cases e : intsD r with
    | none => rw [e] at h; cases h
    | some js => rw [e] at h; cases h; rw [ints_map e]; rfl
  | .none :: _, _, h => by cases h
  | .bool _ :: _, _, h => by cases h
  | .str _ :: _, _, h => by cases h
  | .list _ :: _, _, h => by cases h
  | .tuple _ :: _, _, h => by cases h
  | .dict _ :: _, _, h => by cases h
theorem bools_map : ∀ {ds : List D} {is : List Bool}, boolsD ds = some is → ds = is.map PyData.bool
  | [], is, h => by cases h; rfl
  | .bool i :: r, is, h => by
    unfold boolsD at h
    cases e : boolsD r with
    | none => rw [e] at h; cases h
    | some js => rw [e] at h; cases h; rw [bools_map e]; rfl
  | .none :: _, _, h => by cases h
  | .int _ :: _, _, h => by cases h
  | .str _ :: _, _, h => by cases h
  | .list _ :: _, _, h => by cases h
  | .tuple _ :: _, _, h => by cases h
  | .dict _ :: _, _, h => by cases h
theorem DRs.intsD {K : PySem.W.Frag} {F : Hp} : ∀ {is : List Int} {vs : List V}, DRs K F vs (is.map PyData.int) → vs = is.map V.int
  | [], _, r => r.of_nil
  | i :: is, _, r => by
    obtain ⟨v, ws, rfl, h, k⟩ := DRs.of_cons (d := .int i) (ds := is.map PyData.int) r
    rw [h.of_int, DRs.intsD k]; rfl
theorem DRs.boolsD {K : PySem.W.Frag} {F : Hp} : ∀ {is : List Bool} {vs : List V}, DRs K F vs (is.map PyData.bool) → vs = is.map V.bl
  | [], _, r => r.of_nil
  | i :: is, _, r => by
    obtain ⟨v, ws, rfl, h, k⟩ := DRs.of_cons (d := .bool i) (ds := is.map PyData.bool) r
    rw [h.of_bl, DRs.boolsD k]; rfl
theorem DRs.of_ints {K : PySem.W.Frag} {F : Hp} : ∀ (is : List Int), DRs K F (is.map V.int) (is.map PyData.int)
  | [] => .nil
  | i :: is => .cons (.int i) (DRs.of_ints is)

/-! ### the rules over data, with room for deep ones -/
section
variable {X : Cx}
def rEqP (K : PySem.W.Frag) : R2 := fun x y H Q => ∃ d e, Dp K H x d ∧ Dp K H y e ∧ d.canLay0 = true ∧ e.canLay0 = true ∧ (okD e || okD d) = true ∧ Q (.bl (PyData.eqv d e)) H
def rNeP (K : PySem.W.Frag) : R2 := fun x y H Q => ∃ d e, Dp K H x d ∧ Dp K H y e ∧ d.canLay0 = true ∧ e.canLay0 = true ∧ (okD e || okD d) = true ∧ Q (.bl (!PyData.eqv d e)) H
theorem okD_min {d e : D} (h : (okD e || okD d) = true) : min d.depth e.depth ≤ 1500 := by
  rw [Bool.or_eq_true] at h
  rcases h with h | h
  · have := of_decide_eq_true h; omega
  · have := of_decide_eq_true h; omega
theorem op_eqP (hu : X.A.units + 1800 < cLine) : OpR X (compareOp .Eq) (rEqP X.K) := by
  intro pins s σ H x y v u Q I rx ry h
  obtain ⟨d, e, hd, he, sd, se, hm, q⟩ := h
  obtain ⟨as, r1⟩ := Dp.reads I d x v hd rx
  obtain ⟨bs, r2⟩ := Dp.reads I e y u he ry
  have := okD_min hm
  exact SeqAt.compareEq_reads r1 r2 sd se (by omega) ⟨.bl _, H, I, rfl, q⟩
theorem op_neP (hu : X.A.units + 1800 < cLine) : OpR X (compareOp .NotEq) (rNeP X.K) := by
  intro pins s σ H x y v u Q I rx ry h
  obtain ⟨d, e, hd, he, sd, se, hm, q⟩ := h
  obtain ⟨as, r1⟩ := Dp.reads I d x v hd rx
  obtain ⟨bs, r2⟩ := Dp.reads I e y u he ry
  have := okD_min hm
  exact SeqAt.compareNe_reads r1 r2 sd se (by omega) ⟨.bl _, H, I, rfl, q⟩
def rInP (K : PySem.W.Frag) (neg : Bool) : R2 := fun x y H Q => ∃ d ds, Dp K H x d ∧ (Dp K H y (.list ds) ∨ Dp K H y (.tuple ds)) ∧ d.canLay0 = true ∧ PyData.canLayAll0 ds = true ∧ okD d = true ∧
  Q (.bl (if neg then !ds.any fun z => PyData.eqv z d else ds.any fun z => PyData.eqv z d)) H
theorem room_in {A : Around} {d : D} {ds : List D} (hu : A.units + 1800 < cLine) (h : okD d = true) : A.units + 1 + min (PyData.depthAll ds) d.depth < cLine := by
  have := of_decide_eq_true h
  have h2 : min (PyData.depthAll ds) d.depth ≤ d.depth := Nat.min_le_right _ _
  omega
theorem op_inP (hu : X.A.units + 1800 < cLine) : OpR X (compareOp .In) (rInP X.K false) := by
  intro pins s σ H x y v u Q I rx ry h
  obtain ⟨d, ds, hd, he, sd, se, hm, q⟩ := h
  obtain ⟨as, r1⟩ := Dp.reads I d x v hd rx
  rcases he with he | he
  · obtain ⟨bs, r2⟩ := Dp.reads I _ y u he ry
    exact SeqAt.in_list_reads r2 r1 se sd (room_in hu hm) ⟨.bl _, H, I, rfl, q⟩
  · obtain ⟨bs, r2⟩ := Dp.reads I _ y u he ry
    exact SeqAt.in_tuple_reads r2 r1 se sd (room_in hu hm) ⟨.bl _, H, I, rfl, q⟩
theorem op_notInP (hu : X.A.units + 1800 < cLine) : OpR X (compareOp .NotIn) (rInP X.K true) := by
  intro pins s σ H x y v u Q I rx ry h
  obtain ⟨d, ds, hd, he, sd, se, hm, q⟩ := h
  obtain ⟨as, r1⟩ := Dp.reads I d x v hd rx
  rcases he with he | he
  · obtain ⟨bs, r2⟩ := Dp.reads I _ y u he ry
    exact SeqAt.notIn_list_reads r2 r1 se sd (room_in hu hm) ⟨.bl _, H, I, rfl, q⟩
  · obtain ⟨bs, r2⟩ := Dp.reads I _ y u he ry
    exact SeqAt.notIn_tuple_reads r2 r1 se sd (room_in hu hm) ⟨.bl _, H, I, rfl, q⟩
end

/-! ### they serve -/
section
variable {Γ : Gam} {X : Cx}
theorem Ctx.units (c : Ctx Γ X) : X.A.units + 1800 < cLine := by have := c.room.un; omega
theorem done_bl {Γ : Gam} {ω : Wd} (ok : WOk Γ ω) {Q : VK} {b : Bool} (q : ∀ ω' v, Le ω ω' → WOk Γ ω' → ω'.S = ω.S → DR Γ.K ω'.F v (.bool b) → Q v ω'.H) : Q (.bl b) ω.H := q ω _ (Le.refl ω) ok rfl (.bl b)
theorem done_int {Γ : Gam} {ω : Wd} (ok : WOk Γ ω) {Q : VK} {b : Int} (q : ∀ ω' v, Le ω ω' → WOk Γ ω' → ω'.S = ω.S → DR Γ.K ω'.F v (.int b) → Q v ω'.H) : Q (.int b) ω.H := q ω _ (Le.refl ω) ok rfl (.int b)
theorem sv_eq (c : Ctx Γ X) : Serves2 Γ (rEqP X.K) opEq := fun ω x y dx dy dz Q ok hx hy h q => by
  unfold opEq at h
  split at h
  · rename_i e; cases h
    have h1 := hx.inH ok
    have h2 := hy.inH ok
    rw [← c.hK]
    exact ⟨dx, dy, h1.dp, h2.dp, h1.can, h2.can, e, done_bl ok q⟩
  · cases h
theorem sv_ne (c : Ctx Γ X) : Serves2 Γ (rNeP X.K) opNe := fun ω x y dx dy dz Q ok hx hy h q => by
  unfold opNe at h
  split at h
  · rename_i e; cases h
    have h1 := hx.inH ok
    have h2 := hy.inH ok
    rw [← c.hK]
    exact ⟨dx, dy, h1.dp, h2.dp, h1.can, h2.can, e, done_bl ok q⟩
  · cases h
theorem can_list {ds : List D} (h : PyData.canLay0 (.list ds) = true) : PyData.canLayAll0 ds = true := by simpa [PyData.canLay0] using h
theorem can_tup {ds : List D} (h : PyData.canLay0 (.tuple ds) = true) : PyData.canLayAll0 ds = true := by simpa [PyData.canLay0] using h
theorem sv_in (c : Ctx Γ X) : Serves2 Γ (rInP X.K false) opIn := fun ω x y dx dy dz Q ok hx hy h q => by
  have h1 := hx.inH ok
  have h2 := hy.inH ok
  rw [← c.hK]
  cases dy with
  | list ds =>
    simp only [opIn] at h
    split at h
    · rename_i e; cases h
      exact ⟨dx, ds, h1.dp, .inl h2.dp, h1.can, can_list h2.can, e, done_bl ok q⟩
    · cases h
  | tuple ds =>
    simp only [opIn] at h
    split at h
    · rename_i e; cases h
      exact ⟨dx, ds, h1.dp, .inr h2.dp, h1.can, can_tup h2.can, e, done_bl ok q⟩
    · cases h
  | _ => cases h
theorem sv_notIn (c : Ctx Γ X) : Serves2 Γ (rInP X.K true) opNotIn := fun ω x y dx dy dz Q ok hx hy h q => by
  have h1 := hx.inH ok
  have h2 := hy.inH ok
  rw [← c.hK]
  cases dy with
  | list ds =>
    simp only [opNotIn] at h
    split at h
    · rename_i e; cases h
      exact ⟨dx, ds, h1.dp, .inl h2.dp, h1.can, can_list h2.can, e, done_bl ok q⟩
    · cases h
  | tuple ds =>
    simp only [opNotIn] at h
    split at h
    · rename_i e; cases h
      exact ⟨dx, ds, h1.dp, .inr h2.dp, h1.can, can_tup h2.can, e, done_bl ok q⟩
    · cases h
  | _ => cases h
theorem non_of {K : PySem.W.Frag} {F : Hp} {v : V} {d : D} (h : DR K F v d) : decide (v = .non) = isN d := by
  cases h <;> rfl
theorem sv_is : Serves2 Γ (fun x y H Q => y = .non ∧ Q (.bl (decide (x = .non))) H) opIs := fun ω x y dx dy dz Q ok hx hy h q => by
  cases dy with
  | none =>
    cases h
    refine ⟨hy.non, ?_⟩
    rw [non_of (hx.inH ok)]
    exact done_bl ok q
  | _ => cases h
theorem sv_isNot : Serves2 Γ (fun x y H Q => y = .non ∧ Q (.bl (!decide (x = .non))) H) opIsNot := fun ω x y dx dy dz Q ok hx hy h q => by
  cases dy with
  | none =>
    cases h
    refine ⟨hy.non, ?_⟩
    rw [non_of (hx.inH ok)]
    exact done_bl ok q
  | _ => cases h
theorem opII_some {f : Int → Int → D} {x y z : D} (h : opII f x y = some z) : ∃ i j, x = .int i ∧ y = .int j ∧ z = f i j := by
  unfold opII at h
  split at h
  · cases h; exact ⟨_, _, rfl, rfl, rfl⟩
  · cases h
theorem sv_bII {f : Int → Int → Bool} : Serves2 Γ (rI0 fun i j => .bl (f i j)) (opII fun i j => .bool (f i j)) := fun ω x y dx dy dz Q ok hx hy h q => by
  obtain ⟨i, j, rfl, rfl, rfl⟩ := opII_some h
  exact ⟨i, j, hx.int, hy.int, done_bl ok q⟩
theorem sv_iII {f : Int → Int → Int} : Serves2 Γ (rI0 fun i j => .int (f i j)) (opII fun i j => .int (f i j)) := fun ω x y dx dy dz Q ok hx hy h q => by
  obtain ⟨i, j, rfl, rfl, rfl⟩ := opII_some h
  exact ⟨i, j, hx.int, hy.int, done_int ok q⟩
def rLtP (K : PySem.W.Frag) : R2 := fun x y H Q => rI0 (fun i j => .bl (decide (i < j))) x y H Q ∨ rLtT K x y H Q
theorem op_ltP (c : Ctx Γ X) : OpR X (compareOp .Lt) (rLtP X.K) := op_lt.or (op_ltT c.room.units0)
theorem sv_lt (c : Ctx Γ X) : Serves2 Γ (rLtP X.K) opLt := fun ω x y dx dy dz Q ok hx hy h q => by
  unfold opLt at h
  split at h
  · cases h
    exact .inl ⟨_, _, hx.int, hy.int, done_bl ok q⟩
  · split at h
    · rename_i a b e1 e2
      cases h
      rw [ints_map e1] at hx
      rw [ints_map e2] at hy
      obtain ⟨p, vs, rfl, h1, _, r1⟩ := DT.tup ok hx
      obtain ⟨p', vs', rfl, h2, _, r2⟩ := DT.tup ok hy
      rw [r1.intsD] at h1
      rw [r2.intsD] at h2
      rw [← c.hK]
      exact .inr ⟨p, p', a, b, rfl, rfl, h1, h2, done_bl ok q⟩
    · cases h
  · cases h
theorem lineM {n : Nat} (h : n ≤ 1000000) : n ≤ sizeLine := Nat.le_trans h (by rw [sizeLine_eq]; decide)
def rAddP (K : PySem.W.Frag) : R2 := fun x y H Q => rI0 (fun i j => .int (i + j)) x y H Q ∨ rCatP K x y H Q ∨ rCat x y H Q
theorem op_addP : OpR X (binaryOp .Add) (rAddP X.K) := op_add.or (op_catP.or op_cat)
theorem sv_add (c : Ctx Γ X) : Serves2 Γ (rAddP X.K) opAdd := fun ω x y dx dy dz Q ok hx hy h q => by
  unfold opAdd at h
  split at h
  · cases h
    exact .inl ⟨_, _, hx.int, hy.int, done_int ok q⟩
  · split at h
    · rename_i a b hl
      cases h
      obtain ⟨p, vs, rfl, h1, f1, g1, r1⟩ := DT.tupP ok hx
      obtain ⟨p', vs', rfl, h2, f2, g2, r2⟩ := DT.tupP ok hy
      rw [c.hK] at h1 h2
      refine .inr (.inl ⟨p, p', vs, vs', rfl, rfl, h1, h2, lineM (by rw [r1.length, r2.length]; exact hl), fun e => ?_, fun _ e => ?_, fun _ _ t us n ht => ?_⟩)
      · subst e
        cases r1
        exact q ω _ (Le.refl ω) ok rfl (.tup f2 g2 r2)
      · subst e
        cases r2
        rw [List.append_nil] at q
        exact q ω _ (Le.refl ω) ok rfl (.tup f1 g1 r1)
      · exact q _ _ (Wd.put_le ok _ ht) (Wd.put_ok ok _ ht) rfl (DR.new_tup ok ht (r1.append r2))
    · cases h
  · split at h
    · rename_i a b hl
      cases h
      obtain ⟨p, vs, rfl, h1, r1⟩ := DT.list ok hx
      obtain ⟨p', vs', rfl, h2, r2⟩ := DT.list ok hy
      refine .inr (.inr ⟨p, p', vs, vs', rfl, rfl, h1, h2, lineM (by rw [r1.length, r2.length]; exact hl), fun t ht => ?_⟩)
      exact q _ _ (Wd.put_le ok (.lst (vs ++ vs')) ht) (Wd.put_ok ok _ ht) rfl (DR.lst upd_same ((r1.append r2).sub (sub_upd (ok.none_F ht))))
    · cases h
  · cases h
theorem sv_mul : Serves2 Γ (rI CMul fun i j => .int (i * j)) opMul := fun ω x y dx dy dz Q ok hx hy h q => by
  unfold opMul at h
  split at h
  · split at h
    · rename_i i j e
      cases h
      refine ⟨i, j, hx.int, hy.int, ?_, done_int ok q⟩
      rw [Bool.or_eq_true] at e
      unfold smallI at e
      rcases e with e | e
      · rw [Bool.and_eq_true, decide_eq_true_eq, decide_eq_true_eq] at e; exact .inl ⟨by omega, by omega⟩
      · rw [Bool.and_eq_true, decide_eq_true_eq, decide_eq_true_eq] at e; exact .inr ⟨by omega, by omega⟩
    · cases h
  · cases h
theorem sv_mod : Serves2 Γ (rI (fun _ j => 0 < j) fun i j => .int (i % j)) opMod := fun ω x y dx dy dz Q ok hx hy h q => by
  unfold opMod at h
  split at h
  · split at h
    · rename_i i j e
      cases h
      exact ⟨i, j, hx.int, hy.int, e, done_int ok q⟩
    · cases h
  · cases h
theorem sv_fdiv : Serves2 Γ (rI CDiv fun i j => .int (i / j)) opFdiv := fun ω x y dx dy dz Q ok hx hy h q => by
  unfold opFdiv at h
  split at h
  · split at h
    · rename_i i j e
      cases h
      exact ⟨i, j, hx.int, hy.int, e, done_int ok q⟩
    · cases h
  · cases h
end

/-! ### in short: one word for each operator -/
section
variable {Γ : Gam} {X : Cx} {O : List Nat} {a b : Expr} {ma mb : Mean} {c1 c2 : Bool} {pos : Pos}
theorem me_add (c : Ctx Γ X) (ha : PE X a (T Γ O ma c1)) (hb : PE X b (T Γ O mb c2)) : PE X (.BinOp a .Add b pos) (T Γ O (eBin opAdd ma mb) true) := me_op op_addP (sv_add c) ha hb
theorem me_sub (ha : PE X a (T Γ O ma c1)) (hb : PE X b (T Γ O mb c2)) : PE X (.BinOp a .Sub b pos) (T Γ O (eBin opSub ma mb) true) := me_op op_sub sv_iII ha hb
theorem me_mul (ha : PE X a (T Γ O ma c1)) (hb : PE X b (T Γ O mb c2)) : PE X (.BinOp a .Mult b pos) (T Γ O (eBin opMul ma mb) true) := me_op op_mul sv_mul ha hb
theorem me_mod (ha : PE X a (T Γ O ma c1)) (hb : PE X b (T Γ O mb c2)) : PE X (.BinOp a .Mod b pos) (T Γ O (eBin opMod ma mb) true) := me_op op_mod sv_mod ha hb
theorem me_fdiv (ha : PE X a (T Γ O ma c1)) (hb : PE X b (T Γ O mb c2)) : PE X (.BinOp a .FloorDiv b pos) (T Γ O (eBin opFdiv ma mb) true) := me_op op_fdiv sv_fdiv ha hb
/-- a comparison's operator: its rule and its datum -/
inductive CmpIs (Γ : Gam) (X : Cx) : CmpOp → (D → D → Option D) → Prop
  | mk {op : CmpOp} {r : R2} {f : D → D → Option D} (h : OpR X (compareOp op) r) (s : Serves2 Γ r f) : CmpIs Γ X op f
theorem c_eq (c : Ctx Γ X) : CmpIs Γ X .Eq opEq := .mk (op_eqP c.units) (sv_eq c)
theorem c_ne (c : Ctx Γ X) : CmpIs Γ X .NotEq opNe := .mk (op_neP c.units) (sv_ne c)
theorem c_in (c : Ctx Γ X) : CmpIs Γ X .In opIn := .mk (op_inP c.units) (sv_in c)
theorem c_notIn (c : Ctx Γ X) : CmpIs Γ X .NotIn opNotIn := .mk (op_notInP c.units) (sv_notIn c)
theorem c_is (c : Ctx Γ X) : CmpIs Γ X .Is opIs := .mk op_isN sv_is
theorem c_isNot (c : Ctx Γ X) : CmpIs Γ X .IsNot opIsNot := .mk op_notN sv_isNot
theorem c_lt (c : Ctx Γ X) : CmpIs Γ X .Lt opLt := .mk (op_ltP c) (sv_lt c)
theorem c_le (c : Ctx Γ X) : CmpIs Γ X .LtE opLe := .mk op_le sv_bII
theorem c_gt (c : Ctx Γ X) : CmpIs Γ X .Gt opGt := .mk op_gt sv_bII
theorem c_ge (c : Ctx Γ X) : CmpIs Γ X .GtE opGe := .mk op_ge sv_bII
theorem me_c {op : CmpOp} {f : D → D → Option D} (h : CmpIs Γ X op f) (ha : PE X a (T Γ O ma c1)) (hb : PE X b (T Γ O mb c2)) (hm : behindInMarks op b = false := by with_unfolding_all rfl) : PE X (.Compare a [op] [b] pos) (T Γ O (eBin f ma mb) true) := by
  cases h with
  | mk h s => exact me_cmp h s ha hb hm
theorem mt_c {op : CmpOp} {f : D → D → Option D} (h : CmpIs Γ X op f) (ha : PE X a (T Γ O ma c1)) (hb : PE X b (T Γ O mb c2)) (hm : behindInMarks op b = false := by with_unfolding_all rfl) : PT X (.Compare a [op] [b] pos) (TB Γ O (eBin f ma mb)) := by
  cases h with
  | mk h s => exact mt_cmp h s ha hb hm
end
end MP
set_option Elab.async false
set_option linter.all false
set_option maxRecDepth 20000
/-! Part 4: subscripts, slices, built-in calls of one argument, displays, arguments, calls, objects. -/
namespace MP
open PySem L2
open PySem.PyData (strOk)

/-! ### subscripts -/
theorem DRs.atI {K : PySem.W.Frag} {F : Hp} {vs : List V} {ds : List D} {i : Int} {z : D} (r : DRs K F vs ds) (h : L2.atI ds i = some z) : ∃ v, L2.atI vs i = some v ∧ DR K F v z := by
  unfold L2.atI at h ⊢
  rw [r.length]
  cases e : ixN ds.length i with
  | none => rw [e] at h; cases h
  | some j => rw [e] at h; exact r.get h
def items (S : Store) : Val → Option (List D)
  | .d (.list ds) => some ds
  | .d (.tuple ds) => some ds
  | .obj n => match S[n]? with
    | some (.cells xs) => some xs
    | _ => none
  | _ => none
def eIx (a b : Mean) : Mean := fun ρ S => match a ρ S with
  | some (u, S1) => match b ρ S1 with
    | some (.d (.int i), S2) => match items S2 u with
      | some ds => (L2.atI ds i).map fun z => (.d z, S2)
      | none => none
    | _ => none
  | none => none
theorem eIx_some {a b : Mean} {ρ : Env} {S S' : Store} {w : Val} (h : eIx a b ρ S = some (w, S')) : ∃ u S1 i ds z, a ρ S = some (u, S1) ∧ b ρ S1 = some (.d (.int i), S') ∧ items S' u = some ds ∧ L2.atI ds i = some z ∧ w = .d z := by
  unfold eIx at h
  split at h
  · rename_i u S1 e1
    split at h
    · rename_i i S2 e2
      split at h
      · rename_i ds e3
        cases e4 : L2.atI ds i with
        | none => rw [e4] at h; cases h
        | some z => rw [e4] at h; cases h; exact ⟨u, S1, i, ds, z, e1, e2, e3, e4, rfl⟩
      · cases h
    · cases h
  · cases h
section
variable {Γ : Gam} {X : Cx} {O : List Nat} {a b : Expr} {ma mb : Mean} {c1 c2 : Bool} {pos : Pos}
/-- what is at an object of the store -/
theorem WOk.cells {ω : Wd} (ok : WOk Γ ω) {n : Nat} {xs : List D} {v : V} (h : ω.S[n]? = some (.cells xs)) (r : ∃ a, ω.φ[n]? = some a ∧ v = .ref a) : ∃ a vs, v = .ref a ∧ a ∈ ω.φ ∧ ω.φ[n]? = some a ∧ ω.H a = some (.lst vs) ∧ DRs Γ.K ω.F vs xs := by
  obtain ⟨a, e, rfl⟩ := r
  obtain ⟨b, e', vs, q, d⟩ := ok.ob n _ h
  rw [e] at e'; cases e'
  exact ⟨a, vs, rfl, List.mem_of_getElem? e, e, q, d⟩
/-- a list or a tuple that is read, by its items -/
theorem items_at (c : Ctx Γ X) {ω : Wd} (ok : WOk Γ ω) {v : V} {u : Val} {ds : List D} (r : RT (Γ := Γ) false ω v u) (h : items ω.S u = some ds) :
    ∃ p vs, v = .ref p ∧ (ω.H p = some (.lst vs) ∨ SqT X.K ω.H p vs) ∧ DRs Γ.K ω.F vs ds := by
  cases u with
  | scr ns => cases h
  | obj n =>
    simp only [items] at h
    split at h
    · rename_i xs e
      cases h
      obtain ⟨a, vs, rfl, _, _, q, d⟩ := ok.cells e r
      exact ⟨a, vs, rfl, .inl q, d⟩
    · cases h
  | d x =>
    cases x with
    | list xs =>
      cases h
      obtain ⟨p, vs, e, q, d⟩ := DT.list ok r
      exact ⟨p, vs, e, .inl q, d⟩
    | tuple xs =>
      cases h
      obtain ⟨p, vs, e, q, _, d⟩ := DT.tup ok r
      rw [c.hK] at q
      exact ⟨p, vs, e, .inr q, d⟩
    | _ => cases h
theorem me_ix (c : Ctx Γ X) (ha : PE X a (T Γ O ma c1)) (hb : PE X b (T Γ O mb c2)) (hs : PlainIx b := by exact fun _ _ => rfl) : PE X (.Subscript a b pos) (T Γ O (eIx ma mb) true) :=
  PE.mono (pe_ix ix_seq (PM.weak ha) (PM.weak hb) hs) fun σ H Q ⟨ω, ρ, w, S', e1, ok, E, e2, k⟩ => by
  obtain ⟨u, S1, i, ds, z, ea, eb, ei, ez, rfl⟩ := eIx_some e2
  refine ⟨ω, ρ, u, S1, e1, ok, E, ea, fun ω1 v1 l1 ok1 es1 r1 => ?_⟩
  refine ⟨ω1, ρ, _, S', rfl, ok1, E.le l1, by rw [es1]; exact eb, fun ω2 v2 l2 ok2 es2 r2 => ?_⟩
  obtain rfl : v2 = .int i := DT.int r2
  subst es2
  obtain ⟨p, vs, rfl, q, d⟩ := items_at c ok2 (RT.le l2 r1) ei
  obtain ⟨y, ey, ry⟩ := d.atI ez
  have fin := k ω2 y (l1.trans l2) ok2 rfl ry
  rcases q with q | q
  · exact .inl ⟨p, vs, i, y, rfl, rfl, .of q, ey, fin⟩
  · exact .inr (.inl ⟨p, vs, i, y, rfl, rfl, q, ey, fin⟩)

/-! ### slices -/
abbrev MO := Env → Store → Option (Option Int × Store)
def oNo : MO := fun _ S => some (none, S)
def oSome (m : Mean) : MO := fun ρ S => match m ρ S with
  | some (.d (.int i), S1) => some (some i, S1)
  | _ => none
def TPo (Γ : Gam) (O : List Nat) (m : MO) : TO := fun σ H Q => ∃ ω ρ o S', ω.H = H ∧ WOk Γ ω ∧ EnvR (Γ := Γ) O ω ρ σ ∧ m ρ ω.S = some (o, S') ∧
  ∀ ω', Le ω ω' → WOk Γ ω' → ω'.S = S' → Q o ω'.H
theorem PO.mono {e : Option Expr} {t t' : TO} (h : PO X e t) (m : ∀ σ H Q, t' σ H Q → t σ H Q) : PO X e t' := ⟨fun pins s σ H Q I q => h.run pins s σ H Q I (m σ H Q q)⟩
theorem mo_no : PO X none (TPo Γ O oNo) := PO.mono po_none fun σ H Q ⟨ω, ρ, o, S', e1, ok, E, e2, k⟩ => by
  cases e2
  subst e1
  exact k ω (Le.refl ω) ok rfl
theorem mo_some (h : PE X a (T Γ O ma c1)) : PO X (some a) (TPo Γ O (oSome ma)) := PO.mono (po_some (PM.weak h)) fun σ H Q ⟨ω, ρ, o, S', e1, ok, E, e2, k⟩ => by
  unfold oSome at e2
  split at e2
  · rename_i i S1 e
    cases e2
    exact ⟨ω, ρ, _, S', e1, ok, E, e, fun ω1 v l ok1 es r => ⟨i, DT.int r, k ω1 l ok1 es⟩⟩
  · cases e2
def cutD (ds : List D) (lo hi : Option Int) : List D := (ds.drop (HT.sIx ds.length 0 lo)).take (HT.sIx ds.length ds.length hi - HT.sIx ds.length 0 lo)
theorem DRs.cut {K : PySem.W.Frag} {F : Hp} {vs : List V} {ds : List D} (r : DRs K F vs ds) (lo hi : Option Int) : DRs K F (cutV vs lo hi) (cutD ds lo hi) := by
  unfold cutV cutD
  rw [r.length]
  exact (r.drop _).take _
theorem cutD_all {ds : List D} {lo hi : Option Int} (h : HT.sIx ds.length 0 lo = 0 ∧ HT.sIx ds.length ds.length hi = ds.length) : cutD ds lo hi = ds := by
  unfold cutD
  rw [h.1, h.2]
  simp
def opSl (u : Val) (lo hi : Option Int) : Option D := match u with
  | .d (.list ds) => some (.list (cutD ds lo hi))
  | .d (.tuple ds) => some (.tuple (cutD ds lo hi))
  | .scr ns => some (.list (cutD (ns.map PyData.int) lo hi))
  | _ => none
def eSl (a : Mean) (lo hi : MO) : Mean := fun ρ S => match a ρ S with
  | some (u, S1) => match lo ρ S1 with
    | some (l, S2) => match hi ρ S2 with
      | some (h, S3) => (opSl u l h).map fun z => (.d z, S3)
      | none => none
    | none => none
  | none => none
theorem eSl_some {a : Mean} {lo hi : MO} {ρ : Env} {S S' : Store} {w : Val} (h : eSl a lo hi ρ S = some (w, S')) : ∃ u S1 l S2 g z, a ρ S = some (u, S1) ∧ lo ρ S1 = some (l, S2) ∧ hi ρ S2 = some (g, S') ∧ opSl u l g = some z ∧ w = .d z := by
  unfold eSl at h
  split at h
  · rename_i u S1 e1
    split at h
    · rename_i l S2 e2
      split at h
      · rename_i g S3 e3
        cases e4 : opSl u l g with
        | none => rw [e4] at h; cases h
        | some z => rw [e4] at h; cases h; exact ⟨u, S1, l, S2, g, z, e1, e2, e3, e4, rfl⟩
      · cases h
    · cases h
  · cases h
def rSlP (K : PySem.W.Frag) : V → Option Int → Option Int → Hp → VK → Prop := fun x lo hi H Q => rSlL K x lo hi H Q ∨ rSlT2 K x lo hi H Q
theorem new_list {ω : Wd} (ok : WOk Γ ω) {vs : List V} {ds : List D} {Q : VK} (r : DRs Γ.K ω.F vs ds) (q : ∀ ω' v, Le ω ω' → WOk Γ ω' → ω'.S = ω.S → DR Γ.K ω'.F v (.list ds) → Q v ω'.H) {p : Addr} (hp : ω.H p = none) :
    Q (.ref p) (upd ω.H p (.lst vs)) := q _ _ (Wd.put_le ok (.lst vs) hp) (Wd.put_ok ok _ hp) rfl (DR.lst upd_same (r.sub (sub_upd (ok.none_F hp))))
theorem new_tuple {ω : Wd} (ok : WOk Γ ω) {vs : List V} {ds : List D} {Q : VK} (r : DRs Γ.K ω.F vs ds) (q : ∀ ω' v, Le ω ω' → WOk Γ ω' → ω'.S = ω.S → DR Γ.K ω'.F v (.tuple ds) → Q v ω'.H) {p : Addr} {us : Array Value} {n : Nat} (hp : ω.H p = none) :
    Q (.ref p) (upd ω.H p (tupO us n vs)) := q _ _ (Wd.put_le ok (tupO us n vs) hp) (Wd.put_ok ok _ hp) rfl (DR.new_tup ok hp r)
theorem sl_serves (c : Ctx Γ X) {ω : Wd} (ok : WOk Γ ω) {x : V} {u : Val} {lo hi : Option Int} {z : D} {Q : VK} (r : RT (Γ := Γ) false ω x u) (h : opSl u lo hi = some z)
    (q : ∀ ω' v, Le ω ω' → WOk Γ ω' → ω'.S = ω.S → DR Γ.K ω'.F v z → Q v ω'.H) : rSlP X.K x lo hi ω.H Q := by
  cases u with
  | obj n => cases h
  | scr ns =>
    cases h
    obtain ⟨a, rfl, hs⟩ := r
    have hs' := ok.sub.sqL hs
    rw [c.hK] at hs'
    exact .inl ⟨a, _, rfl, hs', fun p hp => new_list ok ((DRs.of_ints ns).cut lo hi) q hp⟩
  | d y =>
    cases y with
    | list ds =>
      cases h
      obtain ⟨p, vs, rfl, e, d⟩ := DT.list ok r
      exact .inl ⟨p, vs, rfl, .of e, fun t ht => new_list ok (d.cut lo hi) q ht⟩
    | tuple ds =>
      cases h
      obtain ⟨p, vs, rfl, e, f, g, d⟩ := DT.tupP ok r
      rw [c.hK] at e
      refine .inr ⟨p, vs, rfl, e, fun hw => ?_, fun hw t us n ht => new_tuple ok (d.cut lo hi) q ht⟩
      rw [d.length] at hw
      rw [cutD_all hw] at q
      exact q ω _ (Le.refl ω) ok rfl (.tup f g d)
    | _ => cases h
theorem me_sl (c : Ctx Γ X) {lo hi : Option Expr} {ml mh : MO} {p2 : Pos} (ha : PE X a (T Γ O ma c1)) (hl : PO X lo (TPo Γ O ml)) (hh : PO X hi (TPo Γ O mh)) : PE X (.Subscript a (.Slice lo hi none p2) pos) (T Γ O (eSl ma ml mh) true) :=
  PE.mono (pe_slice (r := rSlP X.K) (sl_list.or sl_tupP) (PM.weak ha) hl hh) fun σ H Q ⟨ω, ρ, w, S', e1, ok, E, e2, k⟩ => by
  obtain ⟨u, S1, l, S2, g, z, ea, el, eh, ez, rfl⟩ := eSl_some e2
  refine ⟨ω, ρ, u, S1, e1, ok, E, ea, fun ω1 v1 l1 ok1 es1 r1 => ?_⟩
  refine ⟨ω1, ρ, l, S2, rfl, ok1, E.le l1, by rw [es1]; exact el, fun ω2 l2 ok2 es2 => ?_⟩
  refine ⟨ω2, ρ, g, S', rfl, ok2, (E.le l1).le l2, by rw [es2]; exact eh, fun ω3 l3 ok3 es3 => ?_⟩
  exact sl_serves c ok3 (RT.le l3 (RT.le l2 r1)) ez fun ω4 v l4 ok4 es4 r4 => k ω4 v (((l1.trans l2).trans l3).trans l4) ok4 (es4.trans es3) r4
/-- xs[::-1] of a list -/
def eRev (a : Mean) : Mean := fun ρ S => match a ρ S with
  | some (.d (.list ds), S1) => some (.d (.list ds.reverse), S1)
  | _ => none
theorem me_rev (c : Ctx Γ X) {k : Nat} {p1 p2 p3 : Pos} (ha : PE X a (T Γ O ma c1)) : PE X (.Subscript a (.Slice none none (some (.UnaryOp .USub (.Constant (.int 1) k p1) p2)) p3) pos) (T Γ O (eRev ma) true) :=
  PE.mono (pe_revL (PM.weak ha)) fun σ H Q ⟨ω, ρ, w, S', e1, ok, E, e2, k⟩ => by
  unfold eRev at e2
  split at e2
  · rename_i ds S1 e
    cases e2
    refine ⟨ω, ρ, _, S', e1, ok, E, e, fun ω1 v1 l1 ok1 es1 r1 => ?_⟩
    obtain ⟨p, vs, rfl, h, d⟩ := DT.list ok1 r1
    exact ⟨p, vs, rfl, .of h, fun t ht => new_list ok1 d.reverse (fun ω2 v l2 ok2 es2 r2 => k ω2 v (l1.trans l2) ok2 (es2.trans es1) r2) ht⟩
  · cases e2

/-! ### built-in calls of one argument -/
def eU (op : Val → Option D) (a : Mean) : Mean := fun ρ S => match a ρ S with
  | some (u, S1) => (op u).map fun z => (.d z, S1)
  | none => none
theorem eU_some {op : Val → Option D} {a : Mean} {ρ : Env} {S S' : Store} {w : Val} (h : eU op a ρ S = some (w, S')) : ∃ u z, a ρ S = some (u, S') ∧ op u = some z ∧ w = .d z := by
  unfold eU at h
  split at h
  · rename_i u S1 e
    cases e2 : op u with
    | none => rw [e2] at h; cases h
    | some z => rw [e2] at h; cases h; exact ⟨u, z, e, e2, rfl⟩
  · cases h
def Serves1 (Γ : Gam) (r : List V → Hp → VK → Prop) (op : Val → Option D) : Prop := ∀ (ω : Wd) (x : V) (u : Val) (z : D) (Q : VK), WOk Γ ω → RT (Γ := Γ) false ω x u → op u = some z →
  (∀ ω' v, Le ω ω' → WOk Γ ω' → ω'.S = ω.S → DR Γ.K ω'.F v z → Q v ω'.H) → r [x] ω.H Q
theorem T_un {r : List V → Hp → VK → Prop} {op : Val → Option D} (hs : Serves1 Γ r op) {σ : St} {H : Hp} {Q : VK} (h : T Γ O (eU op ma) true σ H Q) : tCB r (tCons (T Γ O ma false) tNil) σ H Q := by
  obtain ⟨ω, ρ, w, S', e1, ok, E, e2, k⟩ := h
  obtain ⟨u, z, ea, ez, rfl⟩ := eU_some e2
  refine ⟨ω, ρ, u, S', e1, ok, E, ea, fun ω1 v1 l1 ok1 es1 r1 => ?_⟩
  exact hs ω1 v1 u z Q ok1 r1 ez fun ω2 v l2 ok2 es2 r2 => k ω2 v (l1.trans l2) ok2 (es2.trans es1) r2
theorem me_b1 {id : String} {r : List V → Hp → VK → Prop} {op : Val → Option D} {x : Str} {p : Pos} (hc : CallR X (.builtin id) r) (hs : Serves1 Γ r op) (hm : X.mg x = none) (hv : bootBuiltins x = some (.builtin id)) (hg : Gl X x) (ha : PE X a (T Γ O ma c1))
    (hn : x ≠ "__name__" := by decide) (hdb : (x == ("__debug__" : Str)) = false := by decide) (na : starEach [a] X.env = (false, eval a X.env) :: starEach [] X.env := by rfl) (hpl : (backTo pos (starEach [] X.env)).any (·.1) = false := by rfl) :
    PE X (.Call (.Name x p) [a] [] pos) (T Γ O (eU op ma) true) :=
  PE.mono (pe_callB hc hg hm hv (pa_cons (PM.weak ha) pa_nil na) hn hdb na hpl) fun σ H Q h => T_un hs h
theorem me_t1 {id : String} {r : List V → Hp → VK → Prop} {op : Val → Option D} {x : Str} {p : Pos} (hc : CallR X (.type id) r) (hs : Serves1 Γ r op) (hm : X.mg x = none) (hv : bootBuiltins x = some (.type id)) (hg : Gl X x) (ha : PE X a (T Γ O ma c1))
    (hn : x ≠ "__name__" := by decide) (hdb : (x == ("__debug__" : Str)) = false := by decide) (na : starEach [a] X.env = (false, eval a X.env) :: starEach [] X.env := by rfl) (hpl : (backTo pos (starEach [] X.env)).any (·.1) = false := by rfl) :
    PE X (.Call (.Name x p) [a] [] pos) (T Γ O (eU op ma) true) :=
  PE.mono (pe_callTy hc hg hm hv (pa_cons (PM.weak ha) pa_nil na) hn hdb na hpl) fun σ H Q h => T_un hs h
def opLen : Val → Option D
  | .d (.list ds) => some (.int ds.length)
  | .d (.tuple ds) => some (.int ds.length)
  | _ => none
def opAll : Val → Option D
  | .d (.list ds) => (boolsD ds).map fun bs => .bool (bs.all id)
  | _ => none
def opAny : Val → Option D
  | .d (.list ds) => (boolsD ds).map fun bs => .bool (bs.any id)
  | _ => none
def opSum : Val → Option D
  | .d (.list ds) => (intsD ds).map fun is => .int is.sum
  | _ => none
def opTuple : Val → Option D
  | .d (.list ds) => some (.tuple ds)
  | .d (.tuple ds) => some (.tuple ds)
  | _ => none
def opInt : Val → Option D
  | .d (.int i) => some (.int i)
  | .d (.bool b) => some (.int (if b then 1 else 0))
  | _ => none
theorem sv_len (c : Ctx Γ X) : Serves1 Γ (fun xs H Q => ∃ p ys, xs = [.ref p] ∧ (SqL X.K H p ys ∨ SqT X.K H p ys) ∧ Q (.int ys.length) H) opLen := fun ω x u z Q ok r h q => by
  cases u with
  | obj n => cases h
  | scr ns => cases h
  | d y =>
    cases y with
    | list ds =>
      cases h
      obtain ⟨p, vs, rfl, e, d⟩ := DT.list ok r
      exact ⟨p, vs, rfl, .inl (.of e), by rw [d.length]; exact done_int ok q⟩
    | tuple ds =>
      cases h
      obtain ⟨p, vs, rfl, e, _, d⟩ := DT.tup ok r
      rw [c.hK] at e
      exact ⟨p, vs, rfl, .inr e, by rw [d.length]; exact done_int ok q⟩
    | _ => cases h
theorem sv_all (c : Ctx Γ X) : Serves1 Γ (rAll X.K) opAll := fun ω x u z Q ok r h q => by
  cases u with
  | obj n => cases h
  | scr ns => cases h
  | d y =>
    cases y with
    | list ds =>
      simp only [opAll] at h
      cases e2 : boolsD ds with
      | none => rw [e2] at h; cases h
      | some bs =>
        rw [e2] at h; cases h
        obtain ⟨p, vs, rfl, e, d⟩ := DT.list ok r
        rw [bools_map e2] at d
        rw [d.boolsD] at e
        exact ⟨p, bs, rfl, .of e, done_bl ok q⟩
    | _ => cases h
theorem sv_any (c : Ctx Γ X) : Serves1 Γ (rAny X.K) opAny := fun ω x u z Q ok r h q => by
  cases u with
  | obj n => cases h
  | scr ns => cases h
  | d y =>
    cases y with
    | list ds =>
      simp only [opAny] at h
      cases e2 : boolsD ds with
      | none => rw [e2] at h; cases h
      | some bs =>
        rw [e2] at h; cases h
        obtain ⟨p, vs, rfl, e, d⟩ := DT.list ok r
        rw [bools_map e2] at d
        rw [d.boolsD] at e
        exact ⟨p, bs, rfl, .of e, done_bl ok q⟩
    | _ => cases h
theorem sv_sum (c : Ctx Γ X) : Serves1 Γ (rSum X.K) opSum := fun ω x u z Q ok r h q => by
  cases u with
  | obj n => cases h
  | scr ns => cases h
  | d y =>
    cases y with
    | list ds =>
      simp only [opSum] at h
      cases e2 : intsD ds with
      | none => rw [e2] at h; cases h
      | some bs =>
        rw [e2] at h; cases h
        obtain ⟨p, vs, rfl, e, d⟩ := DT.list ok r
        rw [ints_map e2] at d
        rw [d.intsD] at e
        exact ⟨p, bs, rfl, .of e, done_int ok q⟩
    | _ => cases h
theorem sv_tuple (c : Ctx Γ X) : Serves1 Γ (fun xs H Q => ∃ p ys, xs = [.ref p] ∧ ((SqL X.K H p ys ∧ ∀ l us n, H l = none → Q (.ref l) (upd H l (tupO us n ys))) ∨ (SqT X.K H p ys ∧ Q (.ref p) H))) opTuple := fun ω x u z Q ok r h q => by
  cases u with
  | obj n => cases h
  | scr ns => cases h
  | d y =>
    cases y with
    | list ds =>
      cases h
      obtain ⟨p, vs, rfl, e, d⟩ := DT.list ok r
      exact ⟨p, vs, rfl, .inl ⟨.of e, fun l us n hl => new_tuple ok d q hl⟩⟩
    | tuple ds =>
      cases h
      obtain ⟨p, vs, rfl, e, f, g, d⟩ := DT.tupP ok r
      rw [c.hK] at e
      exact ⟨p, vs, rfl, .inr ⟨e, q ω _ (Le.refl ω) ok rfl (.tup f g d)⟩⟩
    | _ => cases h
theorem sv_int : Serves1 Γ (fun xs H Q => (∃ i, xs = [.int i] ∧ Q (.int i) H) ∨ ∃ k, xs = [.bl k] ∧ Q (.int (if k then 1 else 0)) H) opInt := fun ω x u z Q ok r h q => by
  cases u with
  | obj n => cases h
  | scr ns => cases h
  | d y =>
    cases y with
    | int i =>
      cases h
      exact .inl ⟨i, by rw [DT.int r], done_int ok q⟩
    | bool b =>
      cases h
      exact .inr ⟨b, by rw [DT.bl r], done_int ok q⟩
    | _ => cases h
variable {p : Pos}
theorem me_len (c : Ctx Γ X) (hg : Gl X "len") (ha : PE X a (T Γ O ma c1)) (na : starEach [a] X.env = (false, eval a X.env) :: starEach [] X.env := by rfl) : PE X (.Call (.Name "len" p) [a] [] pos) (T Γ O (eU opLen ma) true) :=
  me_b1 call_len_seq (sv_len c) c.b_len PySem.boot_len hg ha (by decide) (by decide) na
theorem me_all (c : Ctx Γ X) (hg : Gl X "all") (ha : PE X a (T Γ O ma c1)) (na : starEach [a] X.env = (false, eval a X.env) :: starEach [] X.env := by rfl) : PE X (.Call (.Name "all" p) [a] [] pos) (T Γ O (eU opAll ma) true) :=
  me_b1 (cr_all c.calm) (sv_all c) c.b_all (by decide +kernel) hg ha (by decide) (by decide) na
theorem me_any (c : Ctx Γ X) (hg : Gl X "any") (ha : PE X a (T Γ O ma c1)) (na : starEach [a] X.env = (false, eval a X.env) :: starEach [] X.env := by rfl) : PE X (.Call (.Name "any" p) [a] [] pos) (T Γ O (eU opAny ma) true) :=
  me_b1 (cr_any c.calm) (sv_any c) c.b_any (by decide +kernel) hg ha (by decide) (by decide) na
theorem me_sum (c : Ctx Γ X) (hg : Gl X "sum") (ha : PE X a (T Γ O ma c1)) (na : starEach [a] X.env = (false, eval a X.env) :: starEach [] X.env := by rfl) : PE X (.Call (.Name "sum" p) [a] [] pos) (T Γ O (eU opSum ma) true) :=
  me_b1 (cr_sum c.calm) (sv_sum c) c.b_sum (by decide +kernel) hg ha (by decide) (by decide) na
theorem me_tuple (c : Ctx Γ X) (hg : Gl X "tuple") (ha : PE X a (T Γ O ma c1)) (na : starEach [a] X.env = (false, eval a X.env) :: starEach [] X.env := by rfl) : PE X (.Call (.Name "tuple" p) [a] [] pos) (T Γ O (eU opTuple ma) true) :=
  me_t1 call_tupleP (sv_tuple c) c.b_tuple (by decide +kernel) hg ha (by decide) (by decide) na
theorem me_int_ (c : Ctx Γ X) (hg : Gl X "int") (ha : PE X a (T Γ O ma c1)) (na : starEach [a] X.env = (false, eval a X.env) :: starEach [] X.env := by rfl) : PE X (.Call (.Name "int" p) [a] [] pos) (T Γ O (eU opInt ma) true) :=
  me_t1 call_int1 sv_int c.b_int (by decide +kernel) hg ha (by decide) (by decide) na
/-- list(xs): new -/
def eList (a : Mean) : Mean := fun ρ S => match a ρ S with
  | some (.d (.list ds), S1) => some (.d (.list ds), S1)
  | some (.d (.tuple ds), S1) => some (.d (.list ds), S1)
  | some (.scr ns, S1) => some (.d (.list (ns.map PyData.int)), S1)
  | _ => none
theorem mf_list (c : Ctx Γ X) (hg : Gl X "list") (ha : PE X a (T Γ O ma c1)) (na : starEach [a] X.env = (false, eval a X.env) :: starEach [] X.env := by rfl) (hpl : (backTo pos (starEach [] X.env)).any (·.1) = false := by rfl) : PE X (.Call (.Name "list" p) [a] [] pos) (TF Γ O (eList ma)) :=
  PE.mono (pe_callTy call_list_of hg c.b_list (by decide +kernel) (pa_cons (PM.weak ha) pa_nil na) (by decide) (by decide) na hpl) fun σ H Q ⟨ω, ρ, ds, S', e1, ok, E, e2, k⟩ => by
  have key : ∃ u, ma ρ ω.S = some (u, S') ∧ ((u = .d (.list ds) ∨ u = .d (.tuple ds)) ∨ ∃ ns, u = .scr ns ∧ ds = ns.map PyData.int) := by
    unfold eList at e2
    split at e2
    · rename_i e; cases e2; exact ⟨_, e, .inl (.inl rfl)⟩
    · rename_i e; cases e2; exact ⟨_, e, .inl (.inr rfl)⟩
    · rename_i e; cases e2; exact ⟨_, e, .inr ⟨_, rfl, rfl⟩⟩
    · cases e2
  obtain ⟨u, eu, hu⟩ := key
  refine ⟨ω, ρ, u, S', e1, ok, E, eu, fun ω1 v1 l1 ok1 es1 r1 => ?_⟩
  have fin : ∀ (vs : List V), DRs Γ.K ω1.F vs ds → ∀ l, ω1.H l = none → Q (.ref l) (upd ω1.H l (.lst vs)) := fun vs d l hl =>
    k _ l vs (l1.trans (Wd.lay_le ok1 (.lst vs) hl)) (Wd.lay_ok ok1 _ hl) es1 upd_same d (ok1.none_F hl) (ok1.fresh hl) (le_none l1 hl)
  rcases hu with (rfl | rfl) | ⟨ns, rfl, rfl⟩
  · obtain ⟨p, vs, rfl, e, d⟩ := DT.list ok1 r1
    exact ⟨p, vs, rfl, .inl (.of e), fin vs d⟩
  · obtain ⟨p, vs, rfl, e, _, d⟩ := DT.tup ok1 r1
    rw [c.hK] at e
    exact ⟨p, vs, rfl, .inr e, fin vs d⟩
  · obtain ⟨p, rfl, hs⟩ := r1
    have hs' := ok1.sub.sqL hs
    rw [c.hK] at hs'
    exact ⟨p, _, rfl, .inl hs', fin _ (DRs.of_ints ns)⟩
theorem eList_list : ∀ (ρ : Env) (S : Store) (u : Val) (S' : Store), eList ma ρ S = some (u, S') → ∃ ds, u = .d (.list ds) := fun ρ S u S' h => by
  unfold eList at h
  split at h <;> first | (cases h; exact ⟨_, rfl⟩) | cases h
theorem me_list (c : Ctx Γ X) (hg : Gl X "list") (ha : PE X a (T Γ O ma c1)) (na : starEach [a] X.env = (false, eval a X.env) :: starEach [] X.env := by rfl) (hpl : (backTo pos (starEach [] X.env)).any (·.1) = false := by rfl) : PE X (.Call (.Name "list" p) [a] [] pos) (T Γ O (eList ma) true) :=
  PM.fresh (mf_list c hg ha na hpl) eList_list
/-- [x] * n: new -/
def eRep (a b : Mean) : Mean := fun ρ S => match a ρ S with
  | some (.d (.list ds), S1) => match b ρ S1 with
    | some (.d (.int k), S2) => if 0 ≤ k ∧ k ≤ 1000 ∧ ds.length ≤ 1000 then some (.d (.list (List.replicate k.toNat ds).flatten), S2) else none
    | _ => none
  | _ => none
theorem DRs.rep {K : PySem.W.Frag} {F : Hp} {vs : List V} {ds : List D} (r : DRs K F vs ds) : ∀ n, DRs K F (List.replicate n vs).flatten (List.replicate n ds).flatten
  | 0 => .nil
  | n + 1 => by rw [List.replicate_succ, List.replicate_succ, List.flatten_cons, List.flatten_cons]; exact r.append (DRs.rep r n)
theorem mf_rep (ha : PE X a (T Γ O ma c1)) (hb : PE X b (T Γ O mb c2)) : PE X (.BinOp a .Mult b pos) (TF Γ O (eRep ma mb)) :=
  PE.mono (pe_op op_rep (PM.weak ha) (PM.weak hb)) fun σ H Q ⟨ω, ρ, ds, S', e1, ok, E, e2, k⟩ => by
  unfold eRep at e2
  split at e2
  · rename_i es S1 ea
    split at e2
    · rename_i n S2 eb
      split at e2
      · rename_i hn
        cases e2
        refine ⟨ω, ρ, _, S1, e1, ok, E, ea, fun ω1 v1 l1 ok1 es1 r1 => ?_⟩
        refine ⟨ω1, ρ, _, S', rfl, ok1, E.le l1, by rw [es1]; exact eb, fun ω2 v2 l2 ok2 es2 r2 => ?_⟩
        obtain ⟨p, vs, rfl, e, d⟩ := DT.list ok2 (DT.le l2 r1)
        have hz : vs.length * n.toNat ≤ sizeLine := by
          rw [d.length]
          refine Nat.le_trans (Nat.mul_le_mul hn.2.2 (show n.toNat ≤ 1000 by omega)) ?_
          rw [sizeLine_eq]; decide
        exact ⟨p, n, vs, rfl, DT.int r2, e, by omega, by omega, hz, fun t ht =>
          k _ t _ ((l1.trans l2).trans (Wd.lay_le ok2 (.lst _) ht)) (Wd.lay_ok ok2 _ ht) es2 upd_same (d.rep _) (ok2.none_F ht) (ok2.fresh ht) (le_none (l1.trans l2) ht)⟩
      · cases e2
    · cases e2
  · cases e2
theorem eRep_list : ∀ (ρ : Env) (S : Store) (u : Val) (S' : Store), eRep ma mb ρ S = some (u, S') → ∃ ds, u = .d (.list ds) := fun ρ S u S' h => by
  unfold eRep at h
  split at h
  · split at h
    · split at h
      · cases h; exact ⟨_, rfl⟩
      · cases h
    · cases h
  · cases h
theorem me_rep (ha : PE X a (T Γ O ma c1)) (hb : PE X b (T Γ O mb c2)) : PE X (.BinOp a .Mult b pos) (T Γ O (eRep ma mb) true) := PM.fresh (mf_rep ha hb) eRep_list
end
end MP
set_option Elab.async false
set_option linter.all false
set_option maxRecDepth 20000
/-! Part 5: arguments, displays, the call of a def, objects. -/
namespace MP
open PySem L2
open PySem.PyData (strOk)
section
variable {Γ : Gam} {X : Cx} {O : List Nat}
/-! ### arguments from the left -/
def aNil : Means := fun _ S => some ([], S)
def aCons (m : Mean) (ms : Means) : Means := fun ρ S => match m ρ S with
  | some (u, S1) => match ms ρ S1 with
    | some (us, S2) => some (u :: us, S2)
    | none => none
  | none => none
theorem aCons_some {m : Mean} {ms : Means} {ρ : Env} {S S' : Store} {us : List Val} (h : aCons m ms ρ S = some (us, S')) : ∃ u S1 ws, m ρ S = some (u, S1) ∧ ms ρ S1 = some (ws, S') ∧ us = u :: ws := by
  unfold aCons at h
  split at h
  · rename_i u S1 e1
    split at h
    · rename_i ws S2 e2
      cases h
      exact ⟨u, S1, ws, e1, e2, rfl⟩
    · cases h
  · cases h
theorem ma_nil : PA X [] (TAs Γ O aNil) := PA.mono pa_nil fun σ H Q ⟨ω, ρ, us, S', e1, ok, E, e2, k⟩ => by
  cases e2
  subst e1
  exact k ω [] (Le.refl ω) ok rfl .nil
theorem ma_cons {e : Expr} {es : List Expr} {m : Mean} {ms : Means} (h : PE X e (T Γ O m true)) (hr : PA X es (TAs Γ O ms)) (hs : starEach (e :: es) X.env = (false, eval e X.env) :: starEach es X.env := by rfl) : PA X (e :: es) (TAs Γ O (aCons m ms)) :=
  PA.mono (pa_cons h hr hs) fun σ H Q ⟨ω, ρ, us, S', e1, ok, E, e2, k⟩ => by
  obtain ⟨u, S1, ws, ea, eb, rfl⟩ := aCons_some e2
  refine ⟨ω, ρ, u, S1, e1, ok, E, ea, fun ω1 v1 l1 ok1 es1 r1 => ?_⟩
  refine ⟨ω1, ρ, ws, S', rfl, ok1, E.le l1, by rw [es1]; exact eb, fun ω2 vs l2 ok2 es2 r2 => ?_⟩
  exact k ω2 (v1 :: vs) (l1.trans l2) ok2 es2 (.cons (RT.rv r1 |>.le l2) r2)

/-! ### displays -/
def datas : List Val → Option (List D)
  | [] => some []
  | .d x :: r => (datas r).map (x :: ·)
  | _ => none
theorem datas_rel {F : Hp} {φ : List Addr} {vs : List V} {us : List Val} (h : RVs Γ F φ vs us) : ∀ {ds : List D}, datas us = some ds → DRs Γ.K F vs ds := by
  induction h with
  | nil => intro ds e; cases e; exact .nil
  | @cons v u vs us a _ ih =>
    intro ds e
    cases u with
    | d x =>
      simp only [datas] at e
      cases e2 : datas us with
      | none => rw [e2] at e; cases e
      | some es => rw [e2] at e; cases e; exact .cons a (ih e2)
    | _ => cases e
theorem datas_length : ∀ {us : List Val} {ds : List D}, datas us = some ds → ds.length = us.length
  | [], ds, h => by cases h; rfl
  | .d x :: r, ds, h => by
    simp only [datas] at h
    cases e : datas r with
    | none => rw [e] at h; cases h
    | some es => rw [e] at h; cases h; simp [datas_length e]
  | .obj _ :: _, _, h => by cases h
  | .scr _ :: _, _, h => by cases h
def eTup (ms : Means) : Mean := fun ρ S => match ms ρ S with
  | some (us, S1) => (datas us).map fun ds => (.d (.tuple ds), S1)
  | none => none
def eLst (ms : Means) : Mean := fun ρ S => match ms ρ S with
  | some (us, S1) => (datas us).map fun ds => (.d (.list ds), S1)
  | none => none
/-- a list that is an object of the store -/
def eCells (ms : Means) : Mean := fun ρ S => match ms ρ S with
  | some (us, S1) => (datas us).map fun ds => (.obj S1.length, S1 ++ [.cells ds])
  | none => none
theorem eTup_some {ms : Means} {ρ : Env} {S S' : Store} {w : Val} (h : eTup ms ρ S = some (w, S')) : ∃ us ds, ms ρ S = some (us, S') ∧ datas us = some ds ∧ w = .d (.tuple ds) := by
  unfold eTup at h
  split at h
  · rename_i us S1 e
    cases e2 : datas us with
    | none => rw [e2] at h; cases h
    | some ds => rw [e2] at h; cases h; exact ⟨us, ds, e, e2, rfl⟩
  · cases h
theorem eLst_some {ms : Means} {ρ : Env} {S S' : Store} {w : Val} (h : eLst ms ρ S = some (w, S')) : ∃ us ds, ms ρ S = some (us, S') ∧ datas us = some ds ∧ w = .d (.list ds) := by
  unfold eLst at h
  split at h
  · rename_i us S1 e
    cases e2 : datas us with
    | none => rw [e2] at h; cases h
    | some ds => rw [e2] at h; cases h; exact ⟨us, ds, e, e2, rfl⟩
  · cases h
theorem eLst_list {ms : Means} : ∀ (ρ : Env) (S : Store) (u : Val) (S' : Store), eLst ms ρ S = some (u, S') → ∃ ds, u = .d (.list ds) := fun ρ S u S' h => by
  obtain ⟨_, ds, _, _, e⟩ := eLst_some h
  exact ⟨ds, e⟩
variable {es : List Expr} {ms : Means} {pos : Pos}
/-- n items are written -/
def aLen : List Expr → Means → Prop := fun es ms => ∀ ρ S us S', ms ρ S = some (us, S') → us.length = es.length
theorem al_nil : aLen [] aNil := fun ρ S us S' h => by cases h; rfl
theorem al_cons {e : Expr} {m : Mean} (h : aLen es ms) : aLen (e :: es) (aCons m ms) := fun ρ S us S' e => by
  obtain ⟨u, S1, ws, _, eb, rfl⟩ := aCons_some e
  simp [h _ _ _ _ eb]
theorem PAs.lt (h : PA X es (TAs Γ O ms)) : True := trivial
def small (n : Nat) : Prop := n ≤ 1000000
theorem me_tup {x1} (h : PA X es (TAs Γ O ms)) (hl : aLen es ms) (hn : es.length ≤ 1000 := by decide) : PE X (.Tuple es x1 pos) (T Γ O (eTup ms) true) := PE.mono (pe_tupP h) fun σ H Q ⟨ω, ρ, w, S', e1, ok, E, e2, k⟩ => by
  obtain ⟨us, ds, ea, ed, rfl⟩ := eTup_some e2
  refine ⟨ω, ρ, us, S', e1, ok, E, ea, fun ω1 vs l1 ok1 es1 r1 => ?_⟩
  have d := datas_rel r1 ed
  refine ⟨lineM ?_, fun p us n hp => new_tuple ok1 d (fun ω2 v l2 ok2 es2 r2 => k ω2 v (l1.trans l2) ok2 (es2.trans es1) r2) hp⟩
  rw [r1.length, hl _ _ _ _ ea]
  omega
theorem mf_lst (h : PA X es (TAs Γ O ms)) (hl : aLen es ms) (hn : es.length ≤ 1000 := by decide) : PE X (.List es pos) (TF Γ O (eLst ms)) := PE.mono (pe_lst h) fun σ H Q ⟨ω, ρ, ds', S', e1, ok, E, e2, k⟩ => by
  obtain ⟨us, ds, ea, ed, e3⟩ := eLst_some e2
  cases e3
  refine ⟨ω, ρ, us, S', e1, ok, E, ea, fun ω1 vs l1 ok1 es1 r1 => ?_⟩
  have d := datas_rel r1 ed
  refine ⟨lineM ?_, fun p hp => k _ p vs (l1.trans (Wd.lay_le ok1 (.lst vs) hp)) (Wd.lay_ok ok1 _ hp) es1 upd_same d (ok1.none_F hp) (ok1.fresh hp) (le_none l1 hp)⟩
  rw [r1.length, hl _ _ _ _ ea]
  omega
theorem me_lst (h : PA X es (TAs Γ O ms)) (hl : aLen es ms) (hn : es.length ≤ 1000 := by decide) : PE X (.List es pos) (T Γ O (eLst ms) true) := PM.fresh (mf_lst h hl hn) eLst_list
/-- a new object of the store -/
def Wd.add (ω : Wd) (p : Addr) (o : HO) (b : Ob) : Wd := { ω with H := upd ω.H p o, φ := ω.φ ++ [p], S := ω.S ++ [b] }
theorem ObR.more {ω : Wd} {p : Addr} {o : HO} {b : Ob} (ok : WOk Γ ω) (h : ω.H p = none) {a : Addr} {c : Ob} (r : ObR Γ ω a c) : ObR Γ (ω.add p o b) a c := by
  cases c with
  | cells xs => obtain ⟨vs, e, d⟩ := r; exact ⟨vs, by show upd ω.H p o a = _; rw [upd_ne (ne_of_none e h)]; exact e, d⟩
  | kept kvs => obtain ⟨xs, e, q⟩ := r; exact ⟨xs, by show upd ω.H p o a = _; rw [upd_ne (ne_of_none e h)]; exact e, q⟩
  | inst c fs => obtain ⟨dx, vs, e, d, l⟩ := r; exact ⟨dx, vs, by show upd ω.H p o a = _; rw [upd_ne (ne_of_none e h)]; exact e, d.mono (Sub.refl _) (List.prefix_append _ _), l⟩
theorem Wd.add_le {ω : Wd} (ok : WOk Γ ω) {p : Addr} (o : HO) (b : Ob) (h : ω.H p = none) : Le ω (ω.add p o b) where
  F := Sub.refl _
  φ := List.prefix_append _ _
  H := (Wd.lay_le ok o h).H
  Hs := (Wd.lay_le ok o h).Hs
  nF := fun q u e => .inl e
  nφ := fun q e => by
    rcases List.mem_append.mp e with e | e
    · exact .inl e
    · rw [List.mem_singleton] at e; subst e; exact .inr h
theorem Wd.add_ok {ω : Wd} (ok : WOk Γ ω) {p : Addr} {o : HO} {b : Ob} (h : ω.H p = none) (new : ObR Γ (ω.add p o b) p b) : WOk Γ (ω.add p o b) where
  sub := (Wd.lay_ok ok o h).sub
  len := by show (ω.φ ++ [p]).length = (ω.S ++ [b]).length; simp [ok.len]
  nd := by
    show (ω.φ ++ [p]).Nodup
    rw [List.nodup_append]
    refine ⟨ok.nd, by simp, fun a ha c hc => ?_⟩
    rw [List.mem_singleton] at hc
    subst hc
    intro z; subst z
    exact ok.fresh h ha
  fr := fun a ha => by
    rcases List.mem_append.mp ha with e | e
    · exact ok.fr a e
    · rw [List.mem_singleton] at e; subst e; exact ok.none_F h
  ob := fun n c e => by
    have e : (ω.S ++ [b])[n]? = some c := e
    by_cases hn : n < ω.S.length
    · rw [List.getElem?_append_left hn] at e
      obtain ⟨a, e1, r⟩ := ok.ob n c e
      exact ⟨a, prefix_get (List.prefix_append _ _) e1, ObR.more ok h r⟩
    · rw [List.getElem?_append_right (by omega)] at e
      have hz : n - ω.S.length = 0 := by
        have := (List.getElem?_eq_some_iff.mp e).1
        simp at this; omega
      rw [hz] at e
      cases e
      refine ⟨p, ?_, new⟩
      show (ω.φ ++ [p])[n]? = some p
      rw [List.getElem?_append_right (by rw [ok.len]; omega), show n - ω.φ.length = 0 by rw [ok.len]; exact hz]
      rfl
theorem add_get {ω : Wd} (ok : WOk Γ ω) {p : Addr} {o : HO} {b : Ob} : (ω.add p o b).φ[ω.S.length]? = some p := by
  show (ω.φ ++ [p])[ω.S.length]? = some p
  rw [← ok.len, List.getElem?_append_right (Nat.le_refl _), Nat.sub_self]
  rfl
theorem me_cells (h : PA X es (TAs Γ O ms)) (hl : aLen es ms) (hn : es.length ≤ 1000 := by decide) : PE X (.List es pos) (T Γ O (eCells ms) true) := PE.mono (pe_lst h) fun σ H Q ⟨ω, ρ, w, S', e1, ok, E, e2, k⟩ => by
  unfold eCells at e2
  split at e2
  · rename_i us S1 ea
    cases ed : datas us with
    | none => rw [ed] at e2; cases e2
    | some ds =>
      rw [ed] at e2
      cases e2
      refine ⟨ω, ρ, us, S1, e1, ok, E, ea, fun ω1 vs l1 ok1 es1 r1 => ?_⟩
      subst es1
      have d := datas_rel r1 ed
      refine ⟨lineM ?_, fun p hp => ?_⟩
      · rw [r1.length, hl _ _ _ _ ea]
        omega
      · exact k (ω1.add p (.lst vs) (.cells ds)) (.ref p) (l1.trans (Wd.add_le ok1 _ _ hp)) (Wd.add_ok ok1 hp ⟨vs, upd_same, d⟩) rfl ⟨p, add_get ok1, rfl⟩
  · cases e2

/-! ### the call of a def -/
/-- what the defs give at a level: by number, arguments, store -/
abbrev Calls := Nat → List Val → Store → Option (Val × Store)
/-- the promise of the def f, whose meaning is B f -/
def spF (Γ : Gam) (B : Calls) (f n : Nat) : Sp := fun vs H Q _ => ∃ ω us u S', ω.H = H ∧ WOk Γ ω ∧ RVs Γ ω.F ω.φ vs us ∧ us.length = n ∧ B f us ω.S = some (u, S') ∧
  ∀ ω' v, Le ω ω' → WOk Γ ω' → ω'.S = S' → RV Γ ω'.F ω'.φ v u → Q v ω'.H
def eCall (B : Calls) (f : Nat) (ms : Means) (dflt : List Val) : Mean := fun ρ S => match ms ρ S with
  | some (us, S1) => B f (us ++ dflt) S1
  | none => none
theorem eCall_some {B : Calls} {f : Nat} {dflt : List Val} {ρ : Env} {S : Store} {r : Val × Store} (h : eCall B f ms dflt ρ S = some r) : ∃ us S1, ms ρ S = some (us, S1) ∧ B f (us ++ dflt) S1 = some r := by
  unfold eCall at h
  split at h
  · rename_i us S1 e; exact ⟨us, S1, e, h⟩
  · cases h
theorem T_call {B : Calls} {f n : Nat} {dvs : List V} {dus : List Val} {m : Nat} (hd : ∀ (ω : Wd), RVs Γ ω.F ω.φ dvs dus) (hn : es.length + dus.length = n) (hl : aLen es ms) {σ : St} {H : Hp} {Q : VK} (h : T Γ O (eCall B f ms dus) true σ H Q) :
    tCall (spF Γ B f n) dvs E0 (TAs Γ O ms) σ H Q := by
  obtain ⟨ω, ρ, w, S', e1, ok, E, e2, k⟩ := h
  obtain ⟨us, S1, ea, eb⟩ := eCall_some e2
  refine ⟨ω, ρ, us, S1, e1, ok, E, ea, fun ω1 vs l1 ok1 es1 r1 => ?_⟩
  refine ⟨ω1, us ++ dus, w, S', rfl, ok1, r1.append (hd ω1), by rw [List.length_append, hl _ _ _ _ ea]; exact hn, by rw [es1]; exact eb, fun ω2 v l2 ok2 es2 r2 => ?_⟩
  exact k ω2 v (l1.trans l2) ok2 es2 (RT.of r2)
theorem me_call {B : Calls} {f n k : Nat} {fa : Addr} {fd : FuncData} {ps : List Str} {x : Str} {p : Pos} {e : Expr} {dvs : List V} {ds : List Value} {dus : List Val}
    (F : FnOk X.prog X.w X.K X.mg X.base CX0 k fa fd ps (spF Γ B f n)) (hr : Room k X.A) (hm : X.mg x = some (.ref fa)) (hk : PySem.W.keepIn X.K (.ref fa) = true) (hb : Binds X.K fd ps ds)
    (hdv : Vals dvs ds) (hd : ∀ (ω : Wd), RVs Γ ω.F ω.φ dvs dus) (hg : Gl X x) (hn : (e :: es).length + dus.length = n) (ha : PA X (e :: es) (TAs Γ O ms)) (hl : aLen (e :: es) ms) (hdb : (x == ("__debug__" : Str)) = false := by decide)
    (he : starEach (e :: es) X.env = (false, eval e X.env) :: starEach es X.env := by rfl) (hpl : (backTo pos (starEach es X.env)).any (·.1) = false := by rfl) :
    PE X (.Call (.Name x p) (e :: es) [] pos) (T Γ O (eCall B f ms dus) true) := PE.mono (pe_call F hr hg hm hk hb hdv pass0 ha hdb he hpl) fun σ H Q h => T_call (m := 0) hd hn hl h

/-! ### objects -/
/-- a def's meaning asked for an object's method -/
def eMeth (B : Calls) (c f : Nat) (o : Mean) (ms : Means) : Mean := fun ρ S => match o ρ S with
  | some (.obj n, S1) => match S1[n]? with
    | some (.inst c' _) => if c' = c then (match ms ρ S1 with
      | some (us, S2) => B f (.obj n :: us) S2
      | none => none) else none
    | _ => none
  | _ => none
theorem eMeth_some {B : Calls} {c f : Nat} {o : Mean} {ρ : Env} {S : Store} {r : Val × Store} (h : eMeth B c f o ms ρ S = some r) : ∃ n S1 fs us S2, o ρ S = some (.obj n, S1) ∧ S1[n]? = some (.inst c fs) ∧ ms ρ S1 = some (us, S2) ∧ B f (.obj n :: us) S2 = some r := by
  unfold eMeth at h
  split at h
  · rename_i n S1 e1
    split at h
    · rename_i c' fs e2
      split at h
      · rename_i e3
        subst e3
        split at h
        · rename_i us S2 e4
          exact ⟨n, S1, fs, us, S2, e1, e2, e4, h⟩
        · cases h
      · cases h
    · cases h
  · cases h
theorem zip_none {m : Str} : ∀ {ns : List Str} {vs : List V}, m ∉ ns → (ns.zip vs).lookup m = none
  | [], vs, _ => by simp
  | n :: ns, [], _ => by simp
  | n :: ns, v :: vs, h => by
    rw [List.zip_cons_cons, List.lookup_cons]
    have hne : (m == n) = false := by
      rw [beq_eq_false_iff_ne]
      exact fun e => h (by rw [e]; exact List.mem_cons_self)
    rw [hne]
    exact zip_none fun z => h (List.mem_cons_of_mem _ z)
theorem zip_at {m : Str} : ∀ {ns : List Str} {vs : List V} {i : Nat} {v : V}, ns.Nodup → ns[i]? = some m → vs[i]? = some v → (ns.zip vs).lookup m = some v
  | [], vs, i, v, _, h, _ => by simp at h
  | n :: ns, [], i, v, _, _, h => by simp at h
  | n :: ns, w :: vs, 0, v, _, h1, h2 => by
    simp at h1 h2
    subst h1 h2
    simp
  | n :: ns, w :: vs, i + 1, v, nd, h1, h2 => by
    have h1 : ns[i]? = some m := by simpa using h1
    have h2 : vs[i]? = some v := by simpa using h2
    rw [List.zip_cons_cons, List.lookup_cons]
    have hne : (m == n) = false := by
      rw [beq_eq_false_iff_ne]
      intro e
      subst e
      exact (List.nodup_cons.mp nd).1 (List.mem_of_getElem? h1)
    rw [hne]
    exact zip_at (List.nodup_cons.mp nd).2 h1 h2
/-- an instance of the store -/
theorem WOk.inst {ω : Wd} (ok : WOk Γ ω) {n c : Nat} {fs : List Val} {v : V} (h : ω.S[n]? = some (.inst c fs)) (r : ∃ a, ω.φ[n]? = some a ∧ v = .ref a) :
    ∃ a dx vs, v = .ref a ∧ a ∈ ω.φ ∧ ω.φ[n]? = some a ∧ ω.H a = some (.ins (Γ.cls c) dx ((Γ.flds c).zip vs)) ∧ RVs Γ ω.F ω.φ vs fs ∧ fs.length ≤ (Γ.flds c).length := by
  obtain ⟨a, e, rfl⟩ := r
  obtain ⟨b, e', dx, vs, q, d, l⟩ := ok.ob n _ h
  rw [e] at e'; cases e'
  exact ⟨a, dx, vs, rfl, List.mem_of_getElem? e, e, q, d, l⟩
theorem T_meth {B : Calls} {c f n : Nat} {o : Mean} {m : Str} (hn : es.length + 1 = n) (hl : aLen es ms) (hm : m ∉ Γ.flds c) {σ : St} {H : Hp} {Q : VK} (h : T Γ O (eMeth B c f o ms) true σ H Q) :
    tMeth (Γ.cls c) m (spF Γ B f n) [] E0 (T Γ O o true) (TAs Γ O ms) σ H Q := by
  obtain ⟨ω, ρ, w, S', e1, ok, E, e2, k⟩ := h
  obtain ⟨i, S1, fs, us, S2, eo, ei, ea, eb⟩ := eMeth_some e2
  refine ⟨ω, ρ, _, S1, e1, ok, E, eo, fun ω1 v1 l1 ok1 es1 r1 => ?_⟩
  obtain ⟨a, dx, vs, rfl, ha, hφ, hH, d, hlen⟩ := ok1.inst (by rw [es1]; exact ei) r1
  refine ⟨a, dx, _, rfl, hH, zip_none hm, ?_⟩
  refine ⟨ω1, ρ, us, S2, rfl, ok1, E.le l1, by rw [es1]; exact ea, fun ω2 ws l2 ok2 es2 r2 => ?_⟩
  show spF Γ B f n (V.ref a :: (ws ++ [])) ω2.H Q E0
  rw [List.append_nil]
  refine ⟨ω2, .obj i :: us, w, S', rfl, ok2, .cons ⟨a, prefix_get l2.φ hφ, rfl⟩ r2, by rw [List.length_cons, hl _ _ _ _ ea]; exact hn, by rw [es2]; exact eb, fun ω3 v l3 ok3 es3 r3 => ?_⟩
  exact k ω3 v ((l1.trans l2).trans l3) ok3 es3 (RT.of r3)
theorem me_meth {B : Calls} {c f n k : Nat} {fa : Addr} {fd : FuncData} {ps : List Str} {m : Str} {apos : Pos} {o e : Expr} {mo : Mean} {pl : Sem Bool}
    (F : FnOk X.prog X.w X.K X.mg X.base CX0 k fa fd ps (spF Γ B f n)) (hr : Room k X.A) (hc : Cls X.K (Γ.cls c)) (hm : Meth X.K (Γ.cls c) m fa) (hb : Binds X.K fd ps []) (hmn : m ∉ Γ.flds c) (hn : (e :: es).length + 1 = n)
    (ho : PE X o (T Γ O mo true)) (ha : PA X (e :: es) (TAs Γ O ms)) (hl : aLen (e :: es) ms)
    (hst : starEach (e :: es) X.env = (false, eval e X.env) :: starEach es X.env := by rfl) (hpl : (backTo pos (starEach es X.env)).any (·.1) = false := by rfl)
    (ht : eval (.Call (.Attribute o m apos) (e :: es) [] pos) X.env = (do
      let ov ← eval o X.env
      standAt apos.atName
      let (f, first) ← holding [ov] (getMethod ov m pl)
      callWith pos f first (backTo pos (starEach (e :: es) X.env)) (backToKw pos (keywordEach [] X.env))) := by rfl) :
    PE X (.Call (.Attribute o m apos) (e :: es) [] pos) (T Γ O (eMeth B c f mo ms) true) :=
  PE.mono (pe_meth (pl := pl) ho hc hm F hr hb .nil pass0 ha hst hpl ht) fun σ H Q h => T_meth hn hl hmn h
/-- a field -/
def eFld (c i : Nat) (o : Mean) : Mean := fun ρ S => match o ρ S with
  | some (.obj n, S1) => match S1[n]? with
    | some (.inst c' fs) => if c' = c then (fs[i]?).map fun u => (u, S1) else none
    | _ => none
  | _ => none
theorem me_fld {c i : Nat} {f : Str} {o : Expr} {mo : Mean} (hK : Γ.K = X.K) (hc : Cls X.K (Γ.cls c)) (hf : NoAttr X.K (Γ.cls c) f) (hnd : (Γ.flds c).Nodup) (hi : (Γ.flds c)[i]? = some f) (ho : PE X o (T Γ O mo true)) (hb : attributeBase o f X.env (eval o X.env) = eval o X.env := by rfl) :
    PE X (.Attribute o f pos) (T Γ O (eFld c i mo) true) := PE.mono (pe_fld ho hb) fun σ H Q ⟨ω, ρ, w, S', e1, ok, E, e2, k⟩ => by
  unfold eFld at e2
  split at e2
  · rename_i n S1 eo
    split at e2
    · rename_i c' fs ec0
      split at e2
      · rename_i ec
        subst ec
        cases ei : fs[i]? with
        | none => rw [ei] at e2; cases e2
        | some u =>
          rw [ei] at e2
          cases e2
          refine ⟨ω, ρ, _, _, e1, ok, E, eo, fun ω1 v1 l1 ok1 es1 r1 => ?_⟩
          obtain ⟨a, dx, vs, rfl, ha, hφ, hH, d, hlen⟩ := ok1.inst (by rw [es1]; exact ec0) r1
          obtain ⟨v, ev, rv⟩ := d.get ei
          exact ⟨a, _, dx, _, v, rfl, hH, hc, hf, zip_at hnd hi ev, k ω1 v l1 ok1 es1 (RT.of rv)⟩
      · cases e2
    · cases e2
  · cases e2
/-- a new instance; then its __init__ -/
def eMake (B : Calls) (c f : Nat) (ms : Means) : Mean := fun ρ S => match ms ρ S with
  | some (us, S1) => match B f (.obj S1.length :: us) (S1 ++ [.inst c []]) with
    | some (.d .none, S2) => some (.obj S1.length, S2)
    | _ => none
  | none => none
theorem zip_nil (ns : List Str) : ns.zip ([] : List V) = [] := by simp
theorem T_make {B : Calls} {c f n : Nat} (hn : es.length + 1 = n) (hl : aLen es ms) {σ : St} {H : Hp} {Q : VK} (h : T Γ O (eMake B c f ms) true σ H Q) : tMake (Γ.cls c) (spF Γ B f n) [] E0 (TAs Γ O ms) σ H Q := by
  obtain ⟨ω, ρ, w, S', e1, ok, E, e2, k⟩ := h
  unfold eMake at e2
  split at e2
  · rename_i us S1 ea
    split at e2
    · rename_i S2 eb
      cases e2
      refine ⟨ω, ρ, us, S1, e1, ok, E, ea, fun ω1 vs l1 ok1 es1 r1 => fun x dx hx hdx ne => ?_⟩
      subst es1
      have okA := Wd.lay_ok ok1 (.own x) hdx
      have leA := Wd.lay_le ok1 (.own x) hdx
      have hx' : (ω1.lay dx (.own x)).H x = none := by show upd ω1.H dx _ x = none; rw [upd_ne (Ne.symm ne)]; exact hx
      have okB : WOk Γ ((ω1.lay dx (.own x)).add x (.ins (Γ.cls c) dx []) (.inst c [])) := Wd.add_ok okA hx' ⟨dx, [], by rw [zip_nil]; exact upd_same, .nil, Nat.zero_le _⟩
      have leB := Wd.add_le okA (.ins (Γ.cls c) dx []) (.inst c []) hx'
      rw [List.append_nil]
      refine ⟨_, .obj ω1.S.length :: us, .d .none, S', rfl, okB, .cons ⟨x, add_get okA, rfl⟩ (RVs.le (leA.trans leB) r1), by rw [List.length_cons, hl _ _ _ _ ea]; exact hn, eb, fun ω2 v l2 ok2 es2 r2 => ?_⟩
      refine ⟨DR.of_non r2, ?_⟩
      exact k ω2 (.ref x) (((l1.trans leA).trans leB).trans l2) ok2 es2 ⟨x, prefix_get l2.φ (add_get okA), rfl⟩
    · cases e2
  · cases e2
theorem me_make {B : Calls} {c f n k : Nat} {fa : Addr} {fd : FuncData} {ps : List Str} {x : Str} {p : Pos} {e : Expr}
    (F : FnOk X.prog X.w X.K X.mg X.base CX0 k fa fd ps (spF Γ B f n)) (hr : Room (k + 1) X.A) (M : Mk X.K (Γ.cls c) fa) (hm : X.mg x = some (.ref (Γ.cls c))) (hb : Binds X.K fd ps []) (hg : Gl X x) (hn : (e :: es).length + 1 = n)
    (ha : PA X (e :: es) (TAs Γ O ms)) (hl : aLen (e :: es) ms) (hdb : (x == ("__debug__" : Str)) = false := by decide)
    (he : starEach (e :: es) X.env = (false, eval e X.env) :: starEach es X.env := by rfl) (hpl : (backTo pos (starEach es X.env)).any (·.1) = false := by rfl) :
    PE X (.Call (.Name x p) (e :: es) [] pos) (T Γ O (eMake B c f ms) true) := PE.mono (pe_make M F hr hg hm hb .nil pass0 ha hdb he hpl) fun σ H Q h => T_make hn hl h
theorem me_make0 {B : Calls} {c f k : Nat} {fa : Addr} {fd : FuncData} {ps : List Str} {x : Str} {p : Pos}
    (F : FnOk X.prog X.w X.K X.mg X.base CX0 k fa fd ps (spF Γ B f 1)) (hr : Room (k + 1) X.A) (M : Mk X.K (Γ.cls c) fa) (hm : X.mg x = some (.ref (Γ.cls c))) (hb : Binds X.K fd ps []) (hg : Gl X x) (hdb : (x == ("__debug__" : Str)) = false := by decide) :
    PE X (.Call (.Name x p) [] [] pos) (T Γ O (eMake B c f aNil) true) := PE.mono (pe_make0 M F hr hg hm hb .nil pass0 hdb) fun σ H Q h => by
  obtain ⟨ω, ρ, w, S', e1, ok, E, e2, k⟩ := T_make (Γ := Γ) (O := O) (es := []) (n := 1) rfl al_nil h
  cases e2
  subst e1
  exact k ω [] (Le.refl ω) ok rfl .nil
end
end MP
set_option Elab.async false
set_option linter.all false
set_option maxRecDepth 20000
/-! Part 6: what is walked, targets, comprehensions. -/
namespace MP
open PySem L2
open PySem.PyData (strOk)

/-! ### what is walked -/
abbrev MSrc := Env → Store → Option (List D × Store)
/-- J yields the data ds, in every world in which F still stands -/
def Walks (Γ : Gam) (J : It) (F : Hp) (ds : List D) : Prop := ∀ ω, Sub F ω.F → WOk Γ ω → ∀ i, (∀ d, ds[i]? = some d → J.go i ω.H ∧ ∀ x H', J.yld i ω.H x H' → H' = ω.H ∧ DR Γ.K ω.F x d) ∧ (ds.length ≤ i → J.stop i ω.H)
theorem Walks.sub {Γ : Gam} {J : It} {F F' : Hp} {ds : List D} (h : Walks Γ J F ds) (s : Sub F F') : Walks Γ J F' ds := fun ω s' => h ω (s.trans s')
def TI_ (Γ : Gam) (O : List Nat) (m : MSrc) : TI := fun σ H R => ∃ ω ρ ds S', ω.H = H ∧ WOk Γ ω ∧ EnvR (Γ := Γ) O ω ρ σ ∧ m ρ ω.S = some (ds, S') ∧
  ∀ ω' J, Le ω ω' → WOk Γ ω' → ω'.S = S' → Walks Γ J ω'.F ds → ds.length ≤ sizeLine → R J ω'.H
/-- .. in every world behind this one -/
def WalksL (Γ : Gam) (J : It) (ω₁ : Wd) (ds : List D) : Prop := ∀ ω, Le ω₁ ω → WOk Γ ω → ∀ i, (∀ d, ds[i]? = some d → J.go i ω.H ∧ ∀ x H', J.yld i ω.H x H' → H' = ω.H ∧ DR Γ.K ω.F x d) ∧ (ds.length ≤ i → J.stop i ω.H)
def TIc (Γ : Gam) (O : List Nat) (m : MSrc) : TI := fun σ H R => ∃ ω ρ ds S', ω.H = H ∧ WOk Γ ω ∧ EnvR (Γ := Γ) O ω ρ σ ∧ m ρ ω.S = some (ds, S') ∧
  ∀ ω' J, Le ω ω' → WOk Γ ω' → ω'.S = S' → WalksL Γ J ω' ds → ds.length ≤ sizeLine → R J ω'.H
theorem PI.mono {X : Cx} {tg e : Expr} {t t' : TI} (h : PI X tg e t) (m : ∀ σ H Q, t' σ H Q → t σ H Q) : PI X tg e t' := ⟨fun pins s σ H Q I q => h.run pins s σ H Q I (m σ H Q q)⟩
section
variable {Γ : Gam} {X : Cx} {O : List Nat} {tg e a b : Expr} {ma mb : Mean} {c1 c2 : Bool} {pos p : Pos}
/-- a list or a tuple is walked -/
def iSq (K : PySem.W.Frag) (t : TE) : TI := fun σ H R => t σ H fun x H1 => ∃ q xs, x = .ref q ∧ ((SqL K H1 q xs ∧ (xs.length ≤ sizeLine → R (Itl K q) H1)) ∨ (SqT K H1 q xs ∧ (xs.length ≤ sizeLine → R (Itt K q) H1)))
theorem pi_sq {t : TE} (h : PE X e t) : PI X tg e (iSq X.K t) := by
  constructor
  intro pins s σ H R I q
  refine thn (h.run pins s σ H _ I q) ?_
  rintro v s1 ⟨x, H1, I1, rx, k⟩
  obtain ⟨w, xs, ex, k⟩ := k
  subst ex
  cases rx
  have fpo : ∀ c ∈ [s1.heap.objs.size], FpOk X pins H1 c := fun c hc => by
    rw [List.mem_singleton] at hc
    subst hc
    exact I1.fpOk (Nat.le_refl _) (I1.hok.fresh (Nat.le_refl _))
  rcases k with ⟨hs, k⟩ | ⟨hs, k⟩
  · obtain ⟨its, rv, pl, hz⟩ := I1.list hs
    apply wpAny_pyIter_list pl.isList
    exact ⟨_, [s1.heap.objs.size], _, Itl X.K w, H1, rfl, I1.kept (t' := s1.toks) (fun c o ec => Heap.get?_push_of_some _ ec), turn_list w _, ⟨_, Heap.get?_push_size _ rfl, rfl, rfl⟩, fpo, k hz⟩
  · obtain ⟨its, rv, pl, hz⟩ := I1.tuple hs
    apply wpAny_pyIter_tuple (show s1.heap.IsTuple w its.toArray from pl)
    exact ⟨_, [s1.heap.objs.size], _, Itt X.K w, H1, rfl, I1.kept (t' := s1.toks) (fun c o ec => Heap.get?_push_of_some _ ec), turn_tuple w _, ⟨_, Heap.get?_push_size _ rfl, rfl, rfl⟩, fpo, k hz⟩
def sSq (m : Mean) : MSrc := fun ρ S => match m ρ S with
  | some (.d (.list ds), S1) => some (ds, S1)
  | some (.d (.tuple ds), S1) => some (ds, S1)
  | _ => none
theorem walks_l {K : PySem.W.Frag} (hK : Γ.K = K) {F : Hp} {q : Addr} {xs : List V} {ds : List D} (h : F q = some (.lst xs)) (d : DRs Γ.K F xs ds) : Walks Γ (Itl K q) F ds := fun ω s ok i => by
  have hH : SqL K ω.H q xs := .of (ok.sub _ _ (s _ _ h))
  refine ⟨fun z ez => ?_, fun hl => ⟨xs, hH, by rw [d.length]; exact hl⟩⟩
  obtain ⟨v, ev, rv⟩ := d.get ez
  refine ⟨⟨xs, v, hH, ev⟩, fun x H' hy => ⟨hy.1, ?_⟩⟩
  have e := hy.2 xs hH
  rw [ev] at e; cases e
  exact rv.sub s
theorem walks_t {K : PySem.W.Frag} (hK : Γ.K = K) {F : Hp} {q : Addr} {xs : List V} {ds : List D} (h : SqT Γ.K F q xs) (d : DRs Γ.K F xs ds) : Walks Γ (Itt K q) F ds := fun ω s ok i => by
  have hH : SqT K ω.H q xs := by rw [← hK]; exact ok.sub.sqT (s.sqT h)
  refine ⟨fun z ez => ?_, fun hl => ⟨xs, hH, by rw [d.length]; exact hl⟩⟩
  obtain ⟨v, ev, rv⟩ := d.get ez
  refine ⟨⟨xs, v, hH, ev⟩, fun x H' hy => ⟨hy.1, ?_⟩⟩
  have e := hy.2 xs hH
  rw [ev] at e; cases e
  exact rv.sub s
theorem mi_sq (c : Ctx Γ X) (h : PE X e (T Γ O ma true)) : PI X tg e (TI_ Γ O (sSq ma)) := PI.mono (pi_sq h) fun σ H R ⟨ω, ρ, ds, S', e1, ok, E, e2, k⟩ => by
  have key : ∃ u, ma ρ ω.S = some (u, S') ∧ (u = .d (.list ds) ∨ u = .d (.tuple ds)) := by
    unfold sSq at e2
    split at e2
    · rename_i e; cases e2; exact ⟨_, e, .inl rfl⟩
    · rename_i e; cases e2; exact ⟨_, e, .inr rfl⟩
    · cases e2
  obtain ⟨u, eu, hu⟩ := key
  refine ⟨ω, ρ, u, S', e1, ok, E, eu, fun ω1 v l1 ok1 es1 r1 => ?_⟩
  rcases hu with rfl | rfl
  · obtain ⟨q, xs, rfl, hq, d⟩ := DR.of_lst r1
    exact ⟨q, xs, rfl, .inl ⟨.of (ok1.sub _ _ hq), fun hz => k ω1 _ l1 ok1 es1 (walks_l c.hK hq d) (by rw [← d.length]; exact hz)⟩⟩
  · obtain ⟨q, xs, rfl, hq, d⟩ := DR.of_tup r1
    exact ⟨q, xs, rfl, .inr ⟨by rw [← c.hK]; exact ok1.sub.sqT hq, fun hz => k ω1 _ l1 ok1 es1 (walks_t c.hK hq d) (by rw [← d.length]; exact hz)⟩⟩
theorem toc {m : MSrc} (h : PI X tg e (TI_ Γ O m)) : PI X tg e (TIc Γ O m) := PI.mono h fun σ H R ⟨ω, ρ, ds, S', e1, ok, E, e2, k⟩ => ⟨ω, ρ, ds, S', e1, ok, E, e2, fun ω' J l ok' es wk hz => k ω' J l ok' es (fun ω2 l2 ok2 i => wk ω2 l2.F ok2 i) hz⟩
/-- an own list, in a comprehension -/
theorem mi_own (c : Ctx Γ X) (h : PE X e (T Γ O ma c1)) : PI X tg e (TIc Γ O (sSq ma)) := PI.mono (pi_sq (PM.weak h)) fun σ H R ⟨ω, ρ, ds, S', e1, ok, E, e2, k⟩ => by
  have key : ∃ u, ma ρ ω.S = some (u, S') ∧ (u = .d (.list ds) ∨ u = .d (.tuple ds)) := by
    unfold sSq at e2
    split at e2
    · rename_i e; cases e2; exact ⟨_, e, .inl rfl⟩
    · rename_i e; cases e2; exact ⟨_, e, .inr rfl⟩
    · cases e2
  obtain ⟨u, eu, hu⟩ := key
  refine ⟨ω, ρ, u, S', e1, ok, E, eu, fun ω1 v l1 ok1 es1 r1 => ?_⟩
  rcases hu with rfl | rfl
  · rcases (show DT (Γ := Γ) ω1 v (.list ds) from r1) with r1 | ⟨q, xs, ds', rfl, eds, hq, d, hF, hφ⟩
    · obtain ⟨q, xs, rfl, hq, d⟩ := DR.of_lst r1
      exact ⟨q, xs, rfl, .inl ⟨.of (ok1.sub _ _ hq), fun hz => k ω1 _ l1 ok1 es1 (fun ω2 l2 ok2 i => walks_l c.hK hq d ω2 l2.F ok2 i) (by rw [← d.length]; exact hz)⟩⟩
    · cases eds
      refine ⟨q, xs, rfl, .inl ⟨.of hq, fun hz => k ω1 _ l1 ok1 es1 (fun ω2 l2 ok2 i => ?_) (by rw [← d.length]; exact hz)⟩⟩
      have hH : SqL X.K ω2.H q xs := .of (l2.H q _ hq hφ)
      refine ⟨fun z ez => ?_, fun hl => ⟨xs, hH, by rw [d.length]; exact hl⟩⟩
      obtain ⟨v, ev, rv⟩ := d.get ez
      refine ⟨⟨xs, v, hH, ev⟩, fun x H' hy => ⟨hy.1, ?_⟩⟩
      have e := hy.2 xs hH
      rw [ev] at e; cases e
      exact rv.sub l2.F
  · obtain ⟨q, xs, rfl, hH, hq, d⟩ := DT.tup ok1 r1
    exact ⟨q, xs, rfl, .inr ⟨by rw [← c.hK]; exact ok1.sub.sqT hq, fun hz => k ω1 _ l1 ok1 es1 (fun ω2 l2 ok2 i => walks_t c.hK hq d ω2 l2.F ok2 i) (by rw [← d.length]; exact hz)⟩⟩
/-- a, a + 1, .. (n of them) -/
def upFrom (lo : Int) (n : Nat) : List D := (List.range n).map fun (i : Nat) => PyData.int (lo + (i : Int))
theorem upFrom_get {lo : Int} {n i : Nat} {d : D} (h : (upFrom lo n)[i]? = some d) : i < n ∧ d = .int (lo + (i : Int)) := by
  unfold upFrom at h
  rw [List.getElem?_map] at h
  by_cases hi : i < n
  · rw [List.getElem?_range hi] at h
    exact ⟨hi, (Option.some.inj h).symm⟩
  · rw [List.getElem?_eq_none (by simpa using Nat.le_of_not_lt hi)] at h
    cases h
theorem upFrom_len (lo : Int) (n : Nat) : (upFrom lo n).length = n := by simp [upFrom]
theorem walks_r {F : Hp} (lo : Int) (n : Nat) : Walks Γ (Itr lo n) F (upFrom lo n) := fun ω s ok i => by
  refine ⟨fun d ed => ?_, fun hl => by rw [upFrom_len] at hl; exact hl⟩
  obtain ⟨hi, rfl⟩ := upFrom_get ed
  exact ⟨hi, fun x H' hy => ⟨hy.1, by rw [hy.2]; exact .int _⟩⟩
def sRg1 (m : Mean) : MSrc := fun ρ S => match m ρ S with
  | some (.d (.int j), S1) => if -1000000 ≤ j ∧ j ≤ 1000000 then some (upFrom 0 j.toNat, S1) else none
  | _ => none
def sRg2 (m n : Mean) : MSrc := fun ρ S => match m ρ S with
  | some (.d (.int i), S1) => match n ρ S1 with
    | some (.d (.int j), S2) => if -1000000 ≤ i ∧ i ≤ 1000000 ∧ -1000000 ≤ j ∧ j ≤ 1000000 then some (upFrom i (j - i).toNat, S2) else none
    | _ => none
  | _ => none
theorem mi_rg1 (c : Ctx Γ X) (hg : Gl X "range") (h : PE X a (T Γ O ma true)) (na : starEach [a] X.env = (false, eval a X.env) :: starEach [] X.env := by rfl) (hs : starEach [a] X.env = [(false, eval a X.env)] := by rfl) : PI X tg (.Call (.Name "range" p) [a] [] pos) (TI_ Γ O (sRg1 ma)) :=
  PI.mono (pi_range1 hg c.b_range (pa_cons h pa_nil na) hs) fun σ H R ⟨ω, ρ, ds, S', e1, ok, E, e2, k⟩ => by
  unfold sRg1 at e2
  split at e2
  · rename_i j S1 e
    split at e2
    · rename_i hj
      cases e2
      refine ⟨ω, ρ, _, _, e1, ok, E, e, fun ω1 v l1 ok1 es1 r1 => ⟨j, by rw [DR.of_int r1], by omega, by omega, ?_⟩⟩
      exact k ω1 _ l1 ok1 es1 (walks_r 0 j.toNat) (by rw [upFrom_len]; exact lineM (by omega))
    · cases e2
  · cases e2
theorem mi_rg2 (c : Ctx Γ X) (hg : Gl X "range") (h : PE X a (T Γ O ma true)) (h2 : PE X b (T Γ O mb true)) (na2 : starEach [b] X.env = (false, eval b X.env) :: starEach [] X.env := by rfl) (na : starEach [a, b] X.env = (false, eval a X.env) :: starEach [b] X.env := by rfl)
    (hs : starEach [a, b] X.env = [(false, eval a X.env), (false, eval b X.env)] := by rfl) (hs2 : starEach [b] X.env = [(false, eval b X.env)] := by rfl) : PI X tg (.Call (.Name "range" p) [a, b] [] pos) (TI_ Γ O (sRg2 ma mb)) :=
  PI.mono (pi_range2 hg c.b_range (pa_cons h (pa_cons h2 pa_nil na2) na) hs hs2) fun σ H R ⟨ω, ρ, ds, S', e1, ok, E, e2, k⟩ => by
  unfold sRg2 at e2
  split at e2
  · rename_i i S1 ea
    split at e2
    · rename_i j S2 eb
      split at e2
      · rename_i hj
        cases e2
        refine ⟨ω, ρ, _, S1, e1, ok, E, ea, fun ω1 v l1 ok1 es1 r1 => ?_⟩
        refine ⟨ω1, ρ, _, _, rfl, ok1, E.le l1, by rw [es1]; exact eb, fun ω2 v2 l2 ok2 es2 r2 => ⟨i, j, by rw [DR.of_int r1, DR.of_int r2], by omega, ?_⟩⟩
        exact k ω2 _ (l1.trans l2) ok2 es2 (walks_r i (j - i).toNat) (by rw [upFrom_len]; exact Nat.le_trans (show (j - i).toNat ≤ 2000000 by omega) (by rw [sizeLine_eq]; decide))
      · cases e2
    · cases e2
  · cases e2

/-! ### targets: a name, or names in a tuple -/
inductive Tg where
  | n (i : Nat)
  | t (is : List Nat)
def setAll {α : Type} (l : List (Option α)) : List Nat → List α → List (Option α)
  | i :: is, x :: xs => setAll (l.set i (some x)) is xs
  | _, _ => l
def Tg.slots : Tg → List Nat
  | .n i => [i]
  | .t is => is
def Tg.set : Tg → D → Env → Option Env
  | .n i, d, ρ => some (ρ.set i (some (.d d)))
  | .t is, .tuple ds, ρ => if ds.length = is.length then some (setAll ρ is (ds.map Val.d)) else none
  | .t _, _, _ => none
def gNs : List Nat → TGs
  | [] => gNil
  | i :: is => gCons (gName i) (gNs is)
def Tg.g (K : PySem.W.Frag) : Tg → TG
  | .n i => gName i
  | .t is => gTup K is.length (gNs is)
theorem gNs_ok : ∀ {is : List Nat} {vs : List V} {σ : St} {H : Hp} {Q : St → Hp → Prop}, vs.length = is.length → Q (setAll σ is vs) H → gNs is vs σ H Q
  | [], [], _, _, _, _, q => ⟨rfl, q⟩
  | i :: is, v :: vs, σ, H, Q, h, q => ⟨v, vs, rfl, gNs_ok (by simpa using h) q⟩
  | [], _ :: _, _, _, _, h, _ => by simp at h
  | _ :: _, [], _, _, _, h, _ => by simp at h
theorem EnvR.set {ω : Wd} {ρ : Env} {σ : St} (E : EnvR (Γ := Γ) O ω ρ σ) {i : Nat} {v : V} {u : Val} (hi : i ∉ O) (r : RV Γ ω.F ω.φ v u) : EnvR (Γ := Γ) O ω (ρ.set i (some u)) (σ.set i (some v)) where
  len := by simp [E.len]
  var := fun j w e n => by
    by_cases hj : i = j
    · subst hj
      have hl : i < ρ.length := by
        have := (List.getElem?_eq_some_iff.mp e).1
        simpa using this
      rw [List.getElem?_set_self hl] at e
      cases e
      exact ⟨v, by rw [List.getElem?_set_self (by rw [← E.len]; exact hl)], r⟩
    · rw [List.getElem?_set_ne hj] at e ⊢
      exact E.var j w e n
  own := fun j w e n => by
    have hj : i ≠ j := fun z => by subst z; exact hi n
    rw [List.getElem?_set_ne hj] at e ⊢
    exact E.own j w e n
  apart := fun j k u w p hj hk hne e1 e2 e3 => by
    have h1 : i ≠ j := fun z => by subst z; exact hi hj
    have h2 : i ≠ k := fun z => by subst z; exact hi hk
    rw [List.getElem?_set_ne h1] at e1 e3
    rw [List.getElem?_set_ne h2] at e2 ⊢
    exact E.apart j k u w p hj hk hne e1 e2 e3
theorem EnvR.setAll {ω : Wd} : ∀ {is : List Nat} {vs : List V} {ds : List D} {ρ : Env} {σ : St}, EnvR (Γ := Γ) O ω ρ σ → (∀ i ∈ is, i ∉ O) → DRs Γ.K ω.F vs ds → EnvR (Γ := Γ) O ω (MP.setAll ρ is (ds.map Val.d)) (MP.setAll σ is vs)
  | [], _, _, _, _, E, _, _ => E
  | i :: is, vs, [], _, _, E, _, r => by rw [r.of_nil]; exact E
  | i :: is, vs, d :: ds, ρ, σ, E, h, r => by
    obtain ⟨v, ws, rfl, r1, r2⟩ := r.of_cons
    exact EnvR.setAll (is := is) (ρ := ρ.set i (some (.d d))) (σ := σ.set i (some v)) (E.set (u := .d d) (h i List.mem_cons_self) r1) (fun j hj => h j (List.mem_cons_of_mem _ hj)) r2
/-- a datum goes to a target -/
theorem Tg.go {K : PySem.W.Frag} (hK : Γ.K = K) {t : Tg} {ω : Wd} (ok : WOk Γ ω) {ρ ρ' : Env} {σ : St} {v : V} {d : D} {Q : St → Hp → Prop} (E : EnvR (Γ := Γ) O ω ρ σ) (hO : ∀ i ∈ t.slots, i ∉ O) (r : DR Γ.K ω.F v d) (h : t.set d ρ = some ρ')
    (q : ∀ vs, EnvR (Γ := Γ) O ω ρ' (MP.setAll σ t.slots vs) → Q (MP.setAll σ t.slots vs) ω.H) : t.g K v σ ω.H Q := by
  cases t with
  | n i =>
    cases h
    exact q [v] (E.set (u := .d d) (hO i (by simp [Tg.slots])) r)
  | t is =>
    cases d with
    | tuple ds =>
      simp only [Tg.set] at h
      split at h
      · rename_i hl
        cases h
        obtain ⟨a, xs, rfl, hq, dr⟩ := r.of_tup
        have hlen : xs.length = is.length := by rw [dr.length]; exact hl
        refine ⟨a, xs, rfl, by rw [← hK]; exact ok.sub.sqT hq, hlen, gNs_ok hlen ?_⟩
        exact q xs (E.setAll hO dr)
      · cases h
    | _ => cases h
/-- .. is written so -/
inductive TgOk (X : Cx) : Expr → Tg → Prop
  | n {i : Nat} {x : Str} {pos : Pos} (hi : X.N[i]? = some x) (hx : Loc X.env.scope x) (hf : X.fn x = true ∨ X.env.scope.names.lookup x = some .local) : TgOk X (.Name x pos) (.n i)
  | t {es : List Expr} {k : Nat} {is : List Nat} {pos : Pos} (h : PGs X es (gNs is)) (hn : (assignEach es X.env).length = is.length) (hst : (assignEach es X.env).findIdx? (·.1) = none) : TgOk X (.Tuple es k pos) (.t is)
theorem TgOk.pg (c : Ctx Γ X) {t : Tg} (h : TgOk X tg t) : PG X tg (t.g X.K) := by
  cases h with
  | n hi hx hf => exact pg_name c.nd hi hx hf
  | t h hn hst => exact pg_tup c.calm h hn hst
theorem gs_nil : PGs X [] (gNs []) := pgs_nil
theorem gs_cons {i : Nat} {x : Str} {es : List Expr} {is : List Nat} {pos : Pos} (c : Ctx Γ X) (hr : PGs X es (gNs is)) (hi : X.N[i]? = some x := by rfl) (hx : Loc X.env.scope x := by first | exact Or.inl rfl | exact Or.inr rfl)
    (hf : X.fn x = true ∨ X.env.scope.names.lookup x = some .local := by first | exact Or.inl rfl | exact Or.inr rfl) (hs : (assignEach (.Name x pos :: es) X.env).map (·.2) = assign (.Name x pos) X.env :: (assignEach es X.env).map (·.2) := by rfl) : PGs X (.Name x pos :: es) (gNs (i :: is)) :=
  pgs_cons (pg_name c.nd hi hx hf) hr hs

/-! ### comprehensions -/
def wipeE (ρ : Env) : List Nat → Env
  | [] => ρ
  | v :: vs => (wipeE ρ vs).set v none
theorem wipeE_length (ρ : Env) : ∀ vs, (wipeE ρ vs).length = ρ.length
  | [] => rfl
  | v :: vs => by simp [wipeE, wipeE_length ρ vs]
theorem wipeE_some {ρ : Env} {i : Nat} {x : Val} : ∀ {vs : List Nat}, (wipeE ρ vs)[i]? = some (some x) → ρ[i]? = some (some x) ∧ i ∉ vs
  | [], h => ⟨h, by simp⟩
  | v :: vs, h => by
    unfold wipeE at h
    by_cases hi : v = i
    · subst hi
      by_cases hv : v < (wipeE ρ vs).length
      · rw [List.getElem?_set_self hv] at h; cases h
      · rw [List.getElem?_eq_none (by simpa using hv)] at h; cases h
    · rw [List.getElem?_set_ne hi] at h
      obtain ⟨h1, h2⟩ := wipeE_some h
      exact ⟨h1, by rw [List.mem_cons, not_or]; exact ⟨fun z => hi z.symm, h2⟩⟩
theorem wipe_keep {σ : St} {i : Nat} : ∀ {vs : List Nat}, i ∉ vs → (wipe σ vs)[i]? = σ[i]?
  | [], _ => rfl
  | v :: vs, h => by
    rw [List.mem_cons, not_or] at h
    show ((wipe σ vs).set v none)[i]? = _
    rw [List.getElem?_set_ne (Ne.symm h.1)]
    exact wipe_keep h.2
theorem EnvR.wipe {ω : Wd} {ρ : Env} {σ : St} (E : EnvR (Γ := Γ) O ω ρ σ) (vs : List Nat) : EnvR (Γ := Γ) O ω (wipeE ρ vs) (L2.wipe σ vs) where
  len := by rw [wipeE_length, wipe_length]; exact E.len
  var := fun i u e n => by
    obtain ⟨e, hv⟩ := wipeE_some e
    rw [wipe_keep hv]
    exact E.var i u e n
  own := fun i u e n => by
    obtain ⟨e, hv⟩ := wipeE_some e
    rw [wipe_keep hv]
    exact E.own i u e n
  apart := fun i j u w p hi hj hne e1 e2 e3 => by
    obtain ⟨e1, h1⟩ := wipeE_some e1
    obtain ⟨e2, h2⟩ := wipeE_some e2
    rw [wipe_keep h1] at e3
    rw [wipe_keep h2]
    exact E.apart i j u w p hi hj hne e1 e2 e3
theorem wipe_at (σ : St) : ∀ (vs : List Nat) (j : Nat), (wipe σ vs)[j]? = if j ∈ vs ∧ j < σ.length then some none else σ[j]?
  | [], j => by simp [wipe]
  | v :: vs, j => by
    show ((wipe σ vs).set v none)[j]? = _
    by_cases hj : v = j
    · subst hj
      by_cases hv : v < σ.length
      · rw [List.getElem?_set_self (by rw [wipe_length]; exact hv), if_pos ⟨List.mem_cons_self, hv⟩]
      · rw [List.getElem?_eq_none (by rw [List.length_set, wipe_length]; omega), if_neg (fun z => hv z.2), List.getElem?_eq_none (by omega)]
    · rw [List.getElem?_set_ne hj, wipe_at σ vs j]
      by_cases hm : j ∈ vs
      · by_cases hl : j < σ.length
        · rw [if_pos ⟨hm, hl⟩, if_pos ⟨List.mem_cons_of_mem _ hm, hl⟩]
        · rw [if_neg (fun z => hl z.2), if_neg (fun z => hl z.2)]
      · rw [if_neg (fun z => hm z.1), if_neg (fun z => by
          rcases List.mem_cons.mp z.1 with q | q
          · exact hj q.symm
          · exact hm q)]
theorem wipe_eq {σ τ : St} {vs : List Nat} (hl : σ.length = τ.length) (h : ∀ j, j ∉ vs → σ[j]? = τ[j]?) : wipe σ vs = wipe τ vs := by
  apply List.ext_getElem?
  intro j
  rw [wipe_at, wipe_at, hl]
  by_cases hj : j ∈ vs ∧ j < τ.length
  · rw [if_pos hj, if_pos hj]
  · rw [if_neg hj, if_neg hj]
    by_cases hm : j ∈ vs
    · have h1 : τ.length ≤ j := Nat.le_of_not_lt fun z => hj ⟨hm, z⟩
      rw [List.getElem?_eq_none (by omega), List.getElem?_eq_none h1]
    · exact h j hm
theorem setAll_length {α : Type} : ∀ (is : List Nat) (l : List (Option α)) (xs : List α), (setAll l is xs).length = l.length
  | [], _, _ => rfl
  | i :: is, l, [] => rfl
  | i :: is, l, x :: xs => by unfold setAll; rw [setAll_length is, List.length_set]
theorem setAll_keep {α : Type} : ∀ {is : List Nat} {l : List (Option α)} {xs : List α} {j : Nat}, j ∉ is → (setAll l is xs)[j]? = l[j]?
  | [], _, _, _, _ => rfl
  | i :: is, l, [], _, _ => rfl
  | i :: is, l, x :: xs, j, h => by
    rw [List.mem_cons, not_or] at h
    unfold setAll
    rw [setAll_keep h.2, List.getElem?_set_ne (Ne.symm h.1)]
theorem wipe_set {σ : St} {vs is : List Nat} {xs : List V} (h : ∀ i ∈ is, i ∈ vs) : wipe (setAll (wipe σ vs) is xs) vs = wipe σ vs :=
  wipe_eq (by rw [setAll_length, wipe_length]) fun j hj => by
    rw [setAll_keep fun z => hj (h j z)]
    exact wipe_keep hj
def compRun (t : Tg) (tst elt : Mean) (ρ : Env) : List D → Store → Option (List D × Store)
  | [], S => some ([], S)
  | d :: ds, S => match t.set d ρ with
    | none => none
    | some ρ1 => match tst ρ1 S with
      | some (.d (.bool true), S1) => match elt ρ1 S1 with
        | some (.d y, S2) => match compRun t tst elt ρ ds S2 with
          | some (ys, S3) => some (y :: ys, S3)
          | none => none
        | _ => none
      | some (.d (.bool false), S1) => compRun t tst elt ρ ds S1
      | _ => none
def eComp (src : MSrc) (t : Tg) (vs : List Nat) (tst elt : Mean) : Mean := fun ρ S => match src ρ S with
  | some (ds, S1) => match compRun t tst elt (wipeE ρ vs) ds S1 with
    | some (ys, S2) => some (.d (.list ys), S2)
    | none => none
  | none => none
theorem eComp_list {src : MSrc} {t : Tg} {vs : List Nat} {tst elt : Mean} : ∀ (ρ : Env) (S : Store) (u : Val) (S' : Store), eComp src t vs tst elt ρ S = some (u, S') → ∃ ds, u = .d (.list ds) := fun ρ S u S' h => by
  unfold eComp at h
  split at h
  · split at h
    · cases h; exact ⟨_, rfl⟩
    · cases h
  · cases h
theorem compRun_cons {t : Tg} {tst elt : Mean} {ρ : Env} {d : D} {ds : List D} {S S' : Store} {zs : List D} (h : compRun t tst elt ρ (d :: ds) S = some (zs, S')) :
    ∃ ρ1 b S1, t.set d ρ = some ρ1 ∧ tst ρ1 S = some (.d (.bool b), S1) ∧ (if b = true then ∃ y S2 ys, elt ρ1 S1 = some (.d y, S2) ∧ compRun t tst elt ρ ds S2 = some (ys, S') ∧ zs = y :: ys else compRun t tst elt ρ ds S1 = some (zs, S')) := by
  unfold compRun at h
  split at h
  · cases h
  · rename_i ρ1 e1
    split at h
    · rename_i S1 e2
      split at h
      · rename_i y S2 e3
        split at h
        · rename_i ys S3 e4
          cases h
          exact ⟨ρ1, true, S1, e1, e2, iteT ⟨y, S2, ys, e3, e4, rfl⟩⟩
        · cases h
      · cases h
    · rename_i S1 e2
      exact ⟨ρ1, false, S1, e1, e2, iteF h⟩
    · cases h
theorem PTs.mono {ifs : List Expr} {t t' : L2.TT} (h : PTs X ifs t) (m : ∀ σ H Q, t' σ H Q → t σ H Q) : PTs X ifs t' := ⟨fun pins s σ H Q I q => h.run pins s σ H Q I (m σ H Q q)⟩
theorem mts_nil : PTs X [] (TB Γ O (eC (.bool true))) := PTs.mono pts_nil fun σ H Q ⟨ω, ρ, b, S', e1, ok, E, e2, k⟩ => by
  cases e2
  subst e1
  exact k ω (Le.refl ω) ok rfl
theorem mts_one (h : PT X e (TB Γ O ma)) : PTs X [e] (TB Γ O ma) := pts_one h
/-- the list so far, in the world of a turn -/
theorem le_upd {ω₀ ω : Wd} (l : Le ω₀ ω) {p : Addr} {o : HO} (h : ω₀.H p = none) : Le ω₀ { ω with H := upd ω.H p o } where
  F := l.F
  φ := l.φ
  H := fun q u e n => by
    show upd ω.H p o q = some u
    rw [upd_ne (ne_of_none e h)]
    exact l.H q u e n
  Hs := fun q e => by
    show upd ω.H p o q ≠ none
    by_cases hq : q = p
    · rw [hq, upd_same]; simp
    · rw [upd_ne hq]; exact l.Hs q e
  nF := l.nF
  nφ := l.nφ
theorem ok_upd {ω : Wd} (ok : WOk Γ ω) {p : Addr} {o : HO} (hf : ω.F p = none) (hφ : p ∉ ω.φ) : WOk Γ { ω with H := upd ω.H p o } where
  sub := fun q u e => by
    show upd ω.H p o q = some u
    rw [upd_ne (ne_of_none e hf)]
    exact ok.sub q u e
  len := ok.len
  nd := ok.nd
  fr := ok.fr
  ob := fun n b e => by
    obtain ⟨a, e1, r⟩ := ok.ob n b e
    have ha : a ≠ p := fun z => by subst z; exact hφ (List.mem_of_getElem? e1)
    refine ⟨a, e1, ?_⟩
    cases b with
    | cells xs => obtain ⟨vs, q, d⟩ := r; exact ⟨vs, by show upd ω.H p o a = _; rw [upd_ne ha]; exact q, d⟩
    | kept kvs => obtain ⟨xs, q, z⟩ := r; exact ⟨xs, by show upd ω.H p o a = _; rw [upd_ne ha]; exact q, z⟩
    | inst c fs => obtain ⟨dx, vs, q, d⟩ := r; exact ⟨dx, vs, by show upd ω.H p o a = _; rw [upd_ne ha]; exact q, d⟩
theorem T_comp {K : PySem.W.Frag} (hK : Γ.K = K) {src : MSrc} {t : Tg} {vs : List Nat} {tst elt : Mean} (hv : ∀ i ∈ t.slots, i ∈ vs) (hO : ∀ i ∈ t.slots, i ∉ O) {σ : St} {H : Hp} {Q : VK} (h : TF Γ O (eComp src t vs tst elt) σ H Q) :
    tLc (TIc Γ O src) (t.g K) (TB Γ O tst) (T Γ O elt true) vs σ H Q := by
  obtain ⟨ω, ρ, ys, S', e1, ok, E, e2, k⟩ := h
  unfold eComp at e2
  split at e2
  · rename_i ds S1 es
    split at e2
    · rename_i ys' S2 er
      cases e2
      refine ⟨ω, ρ, ds, S1, e1, ok, E, es, fun ω1 J l1 ok1 es1 wk hz => fun A hA => ?_⟩
      subst es1
      refine ⟨fun i m H => ∃ ω2 acc zs rest, ω2.H = H ∧ Le ω1 ω2 ∧ WOk Γ ω2 ∧ ω2.H A = some (.lst acc) ∧ ω2.F A = none ∧ A ∉ ω2.φ ∧ DRs Γ.K ω2.F acc zs ∧ acc.length ≤ i ∧ m = ds.length - i ∧ i ≤ ds.length ∧
        compRun t tst elt (wipeE ρ vs) (ds.drop i) ω2.S = some (rest, S') ∧ zs ++ rest = ys, ⟨ds.length, ω1.lay A (.lst []), [], [], ys, rfl, Wd.lay_le ok1 _ hA, Wd.lay_ok ok1 _ hA, upd_same, ok1.none_F hA, ok1.fresh hA, .nil, Nat.zero_le _, by simp, Nat.zero_le _, by rw [List.drop_zero]; exact er, rfl⟩, ?_⟩
      rintro i m H ⟨ω2, acc, zs, rest, rfl, l2, ok2, hD, hF, hφ, hd, ha, rfl, hi, hr, hy⟩
      by_cases hlt : i < ds.length
      · obtain ⟨go, yl⟩ := (wk ω2 l2 ok2 i).1 ds[i] (List.getElem?_eq_getElem hlt)
        refine .inr ⟨go, fun H => ∃ ω2 acc zs rest, ω2.H = H ∧ Le ω1 ω2 ∧ WOk Γ ω2 ∧ ω2.H A = some (.lst acc) ∧ ω2.F A = none ∧ A ∉ ω2.φ ∧ DRs Γ.K ω2.F acc zs ∧ acc.length ≤ i + 1 ∧
          compRun t tst elt (wipeE ρ vs) (ds.drop (i + 1)) ω2.S = some (rest, S') ∧ zs ++ rest = ys, fun H' ⟨ω3, a1, a2, a3, b1, b2, b3, b4, b5, b6, b7, b8, b9, b10⟩ => ⟨ds.length - (i + 1), by omega, ω3, a1, a2, a3, b1, b2, b3, b4, b5, b6, b7, b8, rfl, hlt, b9, b10⟩, fun x H' hx => ?_⟩
        obtain ⟨rfl, rx⟩ := yl x H' hx
        rw [List.drop_eq_getElem_cons hlt] at hr
        obtain ⟨ρ1, b, S3, et, eb, er2⟩ := compRun_cons hr
        refine Tg.go hK ok2 ((E.le (l1.trans l2)).wipe vs) hO rx et fun ws E2 => ?_
        refine ⟨wipe_set hv, ω2, ρ1, b, S3, rfl, ok2, E2, eb, fun ω3 l3 ok3 es3 => ?_⟩
        cases b with
        | false =>
          rw [if_neg (by decide)] at er2
          exact iteF ⟨ω3, acc, zs, rest, rfl, l2.trans l3, ok3, l3.H A _ hD hφ, keepsF l3 hD hF, keepsφ l3 hD hφ, hd.sub l3.F, by omega, by rw [es3]; exact er2, hy⟩
        | true =>
          rw [if_pos rfl] at er2
          obtain ⟨y, S4, ys4, ee, ec, rfl⟩ := er2
          refine iteT ⟨ω3, ρ1, .d y, S4, rfl, ok3, E2.le l3, by rw [es3]; exact ee, fun ω4 v l4 ok4 es4 r4 => ?_⟩
          have l34 := l3.trans l4
          have hD4 := l34.H A _ hD hφ
          have hF4 := keepsF l34 hD hF
          have hφ4 := keepsφ l34 hD hφ
          refine ⟨acc, hD4, Nat.lt_of_lt_of_le (Nat.lt_of_le_of_lt ha hlt) hz, { ω4 with H := upd ω4.H A (.lst (acc ++ [v])) }, acc ++ [v], zs ++ [y], ys4, rfl, le_upd (l2.trans l34) hA, ok_upd ok4 hF4 hφ4, upd_same, hF4, hφ4,
            (hd.sub l34.F).append (.cons r4 .nil), by rw [List.length_append, List.length_singleton]; omega, by rw [show ({ ω4 with H := upd ω4.H A (.lst (acc ++ [v])) } : Wd).S = S4 from es4]; exact ec, by rw [List.append_assoc]; exact hy⟩
      · have e : i = ds.length := by omega
        subst e
        refine .inl ⟨(wk ω2 l2 ok2 _).2 (Nat.le_refl _), ?_⟩
        rw [List.drop_length] at hr
        cases hr
        rw [List.append_nil] at hy
        subst hy
        exact k ω2 A acc (l1.trans l2) ok2 rfl hD hd hF hφ (le_none l1 hA)
    · cases e2
  · cases e2
theorem mf_comp (c : Ctx Γ X) {elt tgt iter : Expr} {ifs : List Expr} {scope : Scope} {own : List (Str × Nat)} {src : MSrc} {t : Tg} {vs : List Nat} {mt me : Mean} (hi : PI X tgt iter (TIc Γ O src)) (ok : BlkOk X.N X.env.scope scope own) (hvs : own.map (·.2) = vs)
    (hv : ∀ i ∈ t.slots, i ∈ vs) (hO : ∀ i ∈ t.slots, i ∉ O)
    (hg : ∀ (s : Shared) (H : Hp) (C : Addr) (cl : List (Str × Addr)) (fp : List Addr), TgOk (X.blk s H scope (compEnvC scope cl C X.env) fp) tgt t)
    (ht : ∀ (s : Shared) (H : Hp) (C : Addr) (cl : List (Str × Addr)) (fp : List Addr), Ctx Γ (X.blk s H scope (compEnvC scope cl C X.env) fp) → PTs (X.blk s H scope (compEnvC scope cl C X.env) fp) ifs (TB Γ O mt))
    (he : ∀ (s : Shared) (H : Hp) (C : Addr) (cl : List (Str × Addr)) (fp : List Addr), Ctx Γ (X.blk s H scope (compEnvC scope cl C X.env) fp) → PE (X.blk s H scope (compEnvC scope cl C X.env) fp) elt (T Γ O me true))
    (hs : ∀ x, foldedSetIterable iter X.env x = pure x := by intro _; rfl) : PE X (.ListComp elt [⟨tgt, iter, ifs, 0⟩] scope pos) (TF Γ O (eComp src t vs mt me)) := by
  subst hvs
  exact PE.mono (pe_lc (own := own) c.calm c.nd hi ok (fun s H C cl fp => (hg s H C cl fp).pg (c.blk s H scope _ fp)) (fun s H C cl fp => ht s H C cl fp (c.blk s H scope _ fp)) (fun s H C cl fp => he s H C cl fp (c.blk s H scope _ fp)) hs) fun σ H Q h => T_comp c.hK hv hO h
theorem me_comp {m : Mean} (h : PE X e (TF Γ O m)) (hl : ∀ ρ S u S', m ρ S = some (u, S') → ∃ ds, u = .d (.list ds)) : PE X e (T Γ O m true) := PM.fresh h hl
end
end MP
set_option Elab.async false
set_option linter.all false
set_option maxRecDepth 20000
/-! Part 7: statements, bodies, the table of defs. -/
namespace MP
open PySem L2
open PySem.PyData (strOk)

inductive Out where
  | nx (ρ : Env) (S : Store)
  | ret (u : Val) (S : Store)
  | brk (ρ : Env) (S : Store)
  | cnt (ρ : Env) (S : Store)
abbrev SMean := Env → Store → Option Out

/-- the state between two statements: ω₀ is the world at the entry -/
structure EnvS (Γ : Gam) (O : List Nat) (ω₀ ω : Wd) (ρ : Env) (σ : St) : Prop where
  env : EnvR (Γ := Γ) O ω ρ σ
  le : Le ω₀ ω
  ok : WOk Γ ω
  new : ∀ i u p, i ∈ O → ρ[i]? = some (some u) → σ[i]? = some (some (.ref p)) → ω₀.H p = none
def Post (Γ : Gam) (O : List Nat) (ω₀ : Wd) (F : Hp) (D : Ends) : Out → Prop
  | .nx ρ S => ∀ ω σ, EnvS Γ O ω₀ ω ρ σ → Sub F ω.F → ω.S = S → D.nx σ ω.H
  | .brk ρ S => ∀ ω σ, EnvS Γ O ω₀ ω ρ σ → Sub F ω.F → ω.S = S → D.bk σ ω.H
  | .cnt ρ S => ∀ ω σ, EnvS Γ O ω₀ ω ρ σ → Sub F ω.F → ω.S = S → D.ct σ ω.H
  | .ret u S => ∀ ω v, Le ω₀ ω → WOk Γ ω → ω.S = S → RV Γ ω.F ω.φ v u → D.rt v ω.H
def TS_ (Γ : Gam) (O : List Nat) (m : SMean) : TS := fun D σ H => ∃ ω₀ ω ρ r, ω.H = H ∧ EnvS Γ O ω₀ ω ρ σ ∧ m ρ ω.S = some r ∧ Post Γ O ω₀ ω.F D r
theorem Post.sub {Γ : Gam} {O : List Nat} {ω₀ : Wd} {F F' : Hp} {D : Ends} (s : Sub F F') : ∀ {r : Out}, Post Γ O ω₀ F D r → Post Γ O ω₀ F' D r
  | .nx _ _, h => fun ω σ E q => h ω σ E (s.trans q)
  | .brk _ _, h => fun ω σ E q => h ω σ E (s.trans q)
  | .cnt _ _, h => fun ω σ E q => h ω σ E (s.trans q)
  | .ret _ _, h => h
section
variable {Γ : Gam} {X : Cx} {O : List Nat}
theorem EnvS.le_ {ω₀ ω ω' : Wd} {ρ : Env} {σ : St} (E : EnvS Γ O ω₀ ω ρ σ) (l : Le ω ω') (ok : WOk Γ ω') : EnvS Γ O ω₀ ω' ρ σ := ⟨E.env.le l, E.le.trans l, ok, E.new⟩
theorem EnvS.set {ω₀ ω : Wd} {ρ : Env} {σ : St} (E : EnvS Γ O ω₀ ω ρ σ) {i : Nat} {v : V} {u : Val} (hi : i ∉ O) (r : RV Γ ω.F ω.φ v u) : EnvS Γ O ω₀ ω (ρ.set i (some u)) (σ.set i (some v)) :=
  ⟨E.env.set hi r, E.le, E.ok, fun j w p hj e1 e2 => by
    have hne : i ≠ j := fun z => by subst z; exact hi hj
    rw [List.getElem?_set_ne hne] at e1 e2
    exact E.new j w p hj e1 e2⟩

/-! ### blocks -/
def sSkip : SMean := fun ρ S => some (.nx ρ S)
def sSeq (a b : SMean) : SMean := fun ρ S => match a ρ S with
  | some (.nx ρ1 S1) => b ρ1 S1
  | r => r
def sNever : SMean := fun _ _ => none
theorem sSeq_some {a b : SMean} {ρ : Env} {S : Store} {r : Out} (h : sSeq a b ρ S = some r) : ∃ q, a ρ S = some q ∧ (match q with | .nx ρ1 S1 => b ρ1 S1 = some r | o => o = r) := by
  unfold sSeq at h
  split at h
  · rename_i ρ1 S1 e; exact ⟨_, e, h⟩
  · rename_i o hn
    refine ⟨r, h, ?_⟩
    cases r with
    | nx ρ1 S1 => exact absurd h (hn ρ1 S1)
    | _ => rfl
variable {st : Stmt} {rest : List Stmt} {ma mb : SMean} {e a b : Expr} {m n : Mean} {pos : Pos} {c1 c2 : Bool}
theorem mss_nil : PSs X [] (TS_ Γ O sSkip) := PSs.mono pss_nil fun D σ H ⟨ω₀, ω, ρ, r, e1, E, e2, k⟩ => by
  cases e2
  subst e1
  exact k ω σ E (Sub.refl _) rfl
theorem mss_cons (h : PS X st (TS_ Γ O ma)) (h2 : PSs X rest (TS_ Γ O mb)) : PSs X (st :: rest) (TS_ Γ O (sSeq ma mb)) := PSs.mono (pss_cons h h2) fun D σ H ⟨ω₀, ω, ρ, r, e1, E, e2, k⟩ => by
  obtain ⟨q, ea, er⟩ := sSeq_some e2
  refine ⟨ω₀, ω, ρ, q, e1, E, ea, ?_⟩
  cases q with
  | nx ρ1 S1 => exact fun ω' σ' E' s es => ⟨ω₀, ω', ρ1, r, rfl, E', by rw [es]; exact er, Post.sub s k⟩
  | _ => subst er; exact k
theorem mss_one (h : PS X st (TS_ Γ O ma)) : PSs X [st] (TS_ Γ O ma) := pss_one h
theorem mss_never : PSs X rest (TS_ Γ O sNever) := PSs.mono pss_never fun D σ H ⟨ω₀, ω, ρ, r, e1, E, e2, k⟩ => by cases e2
theorem ms_never : PS X st (TS_ Γ O sNever) := PS.mono ps_never fun D σ H ⟨ω₀, ω, ρ, r, e1, E, e2, k⟩ => by cases e2
theorem ms_pass : PS X (.Pass pos) (TS_ Γ O sSkip) := PS.mono ps_pass fun D σ H ⟨ω₀, ω, ρ, r, e1, E, e2, k⟩ => by
  cases e2
  subst e1
  exact k ω σ E (Sub.refl _) rfl
def sBrk : SMean := fun ρ S => some (.brk ρ S)
def sCnt : SMean := fun ρ S => some (.cnt ρ S)
theorem ms_break : PS X (.Break pos) (TS_ Γ O sBrk) := PS.mono ps_break fun D σ H ⟨ω₀, ω, ρ, r, e1, E, e2, k⟩ => by
  cases e2
  subst e1
  exact k ω σ E (Sub.refl _) rfl
theorem ms_continue : PS X (.Continue pos) (TS_ Γ O sCnt) := PS.mono ps_continue fun D σ H ⟨ω₀, ω, ρ, r, e1, E, e2, k⟩ => by
  cases e2
  subst e1
  exact k ω σ E (Sub.refl _) rfl
def sDrop (m : Mean) : SMean := fun ρ S => match m ρ S with
  | some (_, S1) => some (.nx ρ S1)
  | none => none
theorem ms_expr (h : PE X e (T Γ O m c1)) (hs : swapsWith e none pos.line X.env = pure false := by rfl) : PS X (.Expr e pos) (TS_ Γ O (sDrop m)) := PS.mono (ps_expr (PM.weak h) hs) fun D σ H ⟨ω₀, ω, ρ, r, e1, E, e2, k⟩ => by
  unfold sDrop at e2
  split at e2
  · rename_i u S1 em
    cases e2
    exact ⟨ω, ρ, u, S1, e1, E.ok, E.env, em, fun ω' v l ok' es r' => k ω' σ (E.le_ l ok') l.F es⟩
  · cases e2

/-! ### return: what is own is given away -/
theorem freeze1 {i : Nat} {ω₀ ω : Wd} {ρ : Env} {σ : St} (E : EnvS Γ (i :: O) ω₀ ω ρ σ) : ∃ ω', EnvS Γ O ω₀ ω' ρ σ ∧ ω'.H = ω.H ∧ ω'.S = ω.S ∧ ω'.φ = ω.φ := by
  by_cases hi : i ∈ O
  · have hm : ∀ j, j ∈ i :: O ↔ j ∈ O := fun j => ⟨fun z => (List.mem_cons.mp z).elim (fun q => q ▸ hi) id, List.mem_cons_of_mem _⟩
    exact ⟨ω, ⟨⟨E.env.len, fun j u e n => E.env.var j u e (fun z => n ((hm j).mp z)), fun j u e n => E.env.own j u e ((hm j).mpr n), fun j k u w p hj hk => E.env.apart j k u w p ((hm j).mpr hj) ((hm k).mpr hk)⟩, E.le, E.ok, fun j u p hj => E.new j u p ((hm j).mpr hj)⟩, rfl, rfl, rfl⟩
  · cases eu : ρ[i]?.join with
    | none =>
      have no : ∀ u, ρ[i]? ≠ some (some u) := fun u z => by rw [z] at eu; cases eu
      refine ⟨ω, ⟨⟨E.env.len, fun j u e n => ?_, fun j u e n => E.env.own j u e (List.mem_cons_of_mem _ n), fun j k u w p hj hk => E.env.apart j k u w p (List.mem_cons_of_mem _ hj) (List.mem_cons_of_mem _ hk)⟩, E.le, E.ok, fun j u p hj => E.new j u p (List.mem_cons_of_mem _ hj)⟩, rfl, rfl, rfl⟩
      refine E.env.var j u e fun z => ?_
      rcases List.mem_cons.mp z with q | q
      · subst q; exact no u e
      · exact n q
    | some u =>
      have eu : ρ[i]? = some (some u) := by
        cases e : ρ[i]? with
        | none => rw [e] at eu; cases eu
        | some x => rw [e] at eu; exact congrArg some eu
      obtain ⟨p, xs, ds, rfl, es, hH, d, hF, hφ⟩ := E.env.own i u eu List.mem_cons_self
      have h0 := E.new i _ p List.mem_cons_self eu es
      have s : Sub ω.F (upd ω.F p (.lst xs)) := sub_upd hF
      refine ⟨{ ω with F := upd ω.F p (.lst xs) }, ⟨⟨E.env.len, fun j w e n => ?_, fun j w e n => ?_, fun j k u w p hj hk => E.env.apart j k u w p (List.mem_cons_of_mem _ hj) (List.mem_cons_of_mem _ hk)⟩, Wd.take_le E.ok E.le hH hF h0, Wd.take_ok E.ok hH hF hφ, fun j u p hj => E.new j u p (List.mem_cons_of_mem _ hj)⟩, rfl, rfl, rfl⟩
      · by_cases hj : j = i
        · subst hj
          rw [eu] at e; cases e
          exact ⟨_, es, DR.lst upd_same (d.sub s)⟩
        · obtain ⟨v, e', r⟩ := E.env.var j w e fun z => (List.mem_cons.mp z).elim hj n
          exact ⟨v, e', r.mono s (List.prefix_refl _)⟩
      · have hj : j ≠ i := fun z => hi (z ▸ n)
        obtain ⟨q, ys, zs, e3, e4, h1, h2, h3, h4⟩ := E.env.own j w e (List.mem_cons_of_mem _ n)
        have hq : q ≠ p := fun z => by
          subst z
          exact E.env.apart i j _ _ q List.mem_cons_self (List.mem_cons_of_mem _ n) (Ne.symm hj) eu e es e4
        exact ⟨q, ys, zs, e3, e4, h1, h2.sub s, by show upd ω.F p _ q = none; rw [upd_ne hq]; exact h3, h4⟩
theorem freeze : ∀ {O : List Nat} {ω₀ ω : Wd} {ρ : Env} {σ : St}, EnvS Γ O ω₀ ω ρ σ → ∃ ω', EnvS Γ [] ω₀ ω' ρ σ ∧ ω'.H = ω.H ∧ ω'.S = ω.S
  | [], _, ω, _, _, E => ⟨ω, E, rfl, rfl⟩
  | i :: O, _, _, _, _, E => by
    obtain ⟨ω1, E1, h1, s1, _⟩ := freeze1 E
    obtain ⟨ω2, E2, h2, s2⟩ := freeze E1
    exact ⟨ω2, E2, h2.trans h1, s2.trans s1⟩
def sRet (m : Mean) : SMean := fun ρ S => match m ρ S with
  | some (u, S1) => some (.ret u S1)
  | none => none
theorem ms_ret (h : PE X e (T Γ [] m true)) : PS X (.Return (some e) pos) (TS_ Γ O (sRet m)) := PS.mono (ps_ret h) fun D σ H ⟨ω₀, ω, ρ, r, e1, E, e2, k⟩ => by
  unfold sRet at e2
  split at e2
  · rename_i u S1 em
    cases e2
    obtain ⟨ω1, E1, h1, s1⟩ := freeze E
    exact ⟨ω1, ρ, u, S1, h1.trans e1, E1.ok, E1.env, by rw [s1]; exact em, fun ω' v l ok' es r' => k ω' v (E1.le.trans l) ok' es (RT.rv r')⟩
  · cases e2

/-! ### if -/
def sIf (t : Mean) (a b : SMean) : SMean := fun ρ S => match t ρ S with
  | some (.d (.bool true), S1) => a ρ S1
  | some (.d (.bool false), S1) => b ρ S1
  | _ => none
theorem ms_if {c : Expr} {ss tt : List Stmt} (hc : PT X c (TB Γ O m)) (ha : PSs X ss (TS_ Γ O ma)) (hb : PSs X tt (TS_ Γ O mb)) : PS X (.If c ss tt pos) (TS_ Γ O (sIf m ma mb)) := PS.mono (ps_if hc ha hb) fun D σ H ⟨ω₀, ω, ρ, r, e1, E, e2, k⟩ => by
  unfold sIf at e2
  split at e2
  · rename_i S1 et
    exact ⟨ω, ρ, true, S1, e1, E.ok, E.env, et, fun ω' l ok' es => iteT ⟨ω₀, ω', ρ, r, rfl, E.le_ l ok', by rw [es]; exact e2, Post.sub l.F k⟩⟩
  · rename_i S1 et
    exact ⟨ω, ρ, false, S1, e1, E.ok, E.env, et, fun ω' l ok' es => iteF ⟨ω₀, ω', ρ, r, rfl, E.le_ l ok', by rw [es]; exact e2, Post.sub l.F k⟩⟩
  · cases e2

/-! ### stores to names -/
def sSet (i : Nat) (m : Mean) : SMean := fun ρ S => match m ρ S with
  | some (u, S1) => some (.nx (ρ.set i (some u)) S1)
  | none => none
theorem S_set {i : Nat} (hi : i ∉ O) {te : TE} (ht : ∀ σ H Q, T Γ O m true σ H Q → te σ H Q) {D : Ends} {σ : St} {H : Hp} (h : TS_ Γ O (sSet i m) D σ H) : tAsg te (gName i) D σ H := by
  obtain ⟨ω₀, ω, ρ, r, e1, E, e2, k⟩ := h
  unfold sSet at e2
  split at e2
  · rename_i u S1 em
    cases e2
    exact ht _ _ _ ⟨ω, ρ, u, S1, e1, E.ok, E.env, em, fun ω' v l ok' es r' => k ω' _ ((E.le_ l ok').set hi (RT.rv r')) l.F es⟩
  · cases e2
/-- a new list goes to a name that owns it -/
theorem EnvS.setOwn {ω₀ ω : Wd} {ρ : Env} {σ : St} (E : EnvS Γ O ω₀ ω ρ σ) {i : Nat} {p : Addr} {xs : List V} {ds : List D} (hi : i ∈ O) (hH : ω.H p = some (.lst xs)) (d : DRs Γ.K ω.F xs ds) (hF : ω.F p = none) (hφ : p ∉ ω.φ) (h0 : ω₀.H p = none)
    (hn : ∀ j u q, j ∈ O → ρ[j]? = some (some u) → σ[j]? = some (some (.ref q)) → j ≠ i → q ≠ p) : EnvS Γ O ω₀ ω (ρ.set i (some (.d (.list ds)))) (σ.set i (some (.ref p))) := by
  have hl : ∀ {u : Val}, (ρ.set i (some (.d (.list ds))))[i]? = some (some u) → i < ρ.length := fun {u} e => by simpa using (List.getElem?_eq_some_iff.mp e).1
  refine ⟨⟨by simp [E.env.len], fun j u e n => ?_, fun j u e n => ?_, fun j k u w q hj hk hne e1 e2 e3 => ?_⟩, E.le, E.ok, fun j u q hj e1 e2 => ?_⟩
  · have hne : i ≠ j := fun z => by subst z; exact n hi
    rw [List.getElem?_set_ne hne] at e ⊢
    exact E.env.var j u e n
  · by_cases hj : i = j
    · subst hj
      have hl := hl e
      rw [List.getElem?_set_self hl] at e
      cases e
      exact ⟨p, xs, ds, rfl, by rw [List.getElem?_set_self (by rw [← E.env.len]; exact hl)], hH, d, hF, hφ⟩
    · rw [List.getElem?_set_ne hj] at e ⊢
      exact E.env.own j u e n
  · by_cases h1 : i = j
    · subst h1
      have hl := hl e1
      rw [List.getElem?_set_self (by rw [← E.env.len]; exact hl)] at e3
      cases e3
      rw [List.getElem?_set_ne hne] at e2 ⊢
      exact fun z => hn k w _ hk e2 z (Ne.symm hne) rfl
    · rw [List.getElem?_set_ne h1] at e1 e3
      by_cases h2 : i = k
      · subst h2
        have hl := hl e2
        rw [List.getElem?_set_self (by rw [← E.env.len]; exact hl)]
        exact fun z => by
          cases z
          exact hn j u _ hj e1 e3 hne rfl
      · rw [List.getElem?_set_ne h2] at e2 ⊢
        exact E.env.apart j k u w q hj hk hne e1 e2 e3
  · by_cases h1 : i = j
    · subst h1
      have hl := hl e1
      rw [List.getElem?_set_self (by rw [← E.env.len]; exact hl)] at e2
      cases e2
      exact h0
    · rw [List.getElem?_set_ne h1] at e1 e2
      exact E.new j u q hj e1 e2
theorem EnvR.there {ω : Wd} {ρ : Env} {σ : St} (E : EnvR (Γ := Γ) O ω ρ σ) {j : Nat} {u : Val} {q : Addr} (hj : j ∈ O) (e1 : ρ[j]? = some (some u)) (e2 : σ[j]? = some (some (.ref q))) : ∃ xs, ω.H q = some (.lst xs) := by
  obtain ⟨p, xs, ds, rfl, es, hH, _⟩ := E.own j u e1 hj
  rw [es] at e2
  cases e2
  exact ⟨xs, hH⟩
theorem S_setOwn {i : Nat} (hi : i ∈ O) {te : TE} (ht : ∀ σ H Q, TF Γ O m σ H Q → te σ H Q) (hlst : ∀ ρ S u S', m ρ S = some (u, S') → ∃ ds, u = .d (.list ds)) {D : Ends} {σ : St} {H : Hp} (h : TS_ Γ O (sSet i m) D σ H) : tAsg te (gName i) D σ H := by
  obtain ⟨ω₀, ω, ρ, r, e1, E, e2, k⟩ := h
  unfold sSet at e2
  split at e2
  · rename_i u S1 em
    cases e2
    obtain ⟨ds, rfl⟩ := hlst _ _ _ _ em
    refine ht _ _ _ ⟨ω, ρ, ds, S1, e1, E.ok, E.env, em, fun ω' p xs l ok' es hH d hF hφ h0 => ?_⟩
    refine k ω' _ ((E.le_ l ok').setOwn hi hH d hF hφ (le_none E.le h0) fun j w q hj e3 e4 _ z => ?_) l.F es
    obtain ⟨ys, hq⟩ := E.env.there hj e3 e4
    rw [z, h0] at hq
    cases hq
  · cases e2
theorem ms_set {i : Nat} {x : Str} {pos' : Pos} (c : Ctx Γ X) (hO : i ∉ O) (he : PE X e (T Γ O m true)) (hi : X.N[i]? = some x := by rfl) (hx : Loc X.env.scope x := by first | exact Or.inl rfl | exact Or.inr rfl) (hs : swapsWith e (some (.Name x pos')) pos.line X.env = pure false := by rfl)
    (hf : X.fn x = true ∨ X.env.scope.names.lookup x = some .local := by first | exact .inl rfl | exact .inr rfl) : PS X (.Assign [.Name x pos'] e pos) (TS_ Γ O (sSet i m)) :=
  PS.mono (ps_set c.nd hi hx he hs hf) fun D σ H h => S_set hO (fun _ _ _ q => q) h
theorem ms_setF {i : Nat} {x : Str} {pos' : Pos} (c : Ctx Γ X) (hO : i ∈ O) (he : PE X e (TF Γ O m)) (hl : ∀ ρ S u S', m ρ S = some (u, S') → ∃ ds, u = .d (.list ds)) (hi : X.N[i]? = some x := by rfl) (hx : Loc X.env.scope x := by first | exact Or.inl rfl | exact Or.inr rfl) (hs : swapsWith e (some (.Name x pos')) pos.line X.env = pure false := by rfl)
    (hf : X.fn x = true ∨ X.env.scope.names.lookup x = some .local := by first | exact .inl rfl | exact .inr rfl) : PS X (.Assign [.Name x pos'] e pos) (TS_ Γ O (sSet i m)) :=
  PS.mono (ps_set c.nd hi hx he hs hf) fun D σ H h => S_setOwn hO (fun _ _ _ q => q) hl h
/-- a new list, taken as a datum -/
theorem TF_of_T (hl : ∀ ρ S u S', m ρ S = some (u, S') → ∃ ds, u = .d (.list ds)) {σ : St} {H : Hp} {Q : VK} (h : T Γ O m true σ H Q) : TF Γ O m σ H Q := by
  obtain ⟨ω, ρ, u, S', e1, ok, E, e2, k⟩ := h
  obtain ⟨ds, rfl⟩ := hl _ _ _ _ e2
  refine ⟨ω, ρ, ds, S', e1, ok, E, e2, fun ω' p xs l ok' es hp r hf hφ h0 => ?_⟩
  exact k { ω' with F := upd ω'.F p (.lst xs) } (.ref p) (Wd.take_le ok' l hp hf h0) (Wd.take_ok ok' hp hf hφ) es (DR.lst upd_same (r.sub (sub_upd hf)))
/-- name = [.. for ..] on one line -/
theorem ms_setLc {i : Nat} {y : Str} {py spos : Pos} (c : Ctx Γ X) (hOi : i ∉ O) {elt tgt iter : Expr} {ifs : List Expr} {scope : Scope} {own : List (Str × Nat)} {src : MSrc} {t : Tg} {vs : List Nat} {mt me : Mean} (hi : PI X tgt iter (TIc Γ O src)) (ok : BlkOk X.N X.env.scope scope own) (hvs : own.map (·.2) = vs)
    (hv : ∀ i ∈ t.slots, i ∈ vs) (hO : ∀ i ∈ t.slots, i ∉ O)
    (hg : ∀ (s : Shared) (H : Hp) (C : Addr) (cl : List (Str × Addr)) (fp : List Addr), TgOk (X.blk s H scope (compEnvC scope cl C X.env) fp) tgt t)
    (ht : ∀ (s : Shared) (H : Hp) (C : Addr) (cl : List (Str × Addr)) (fp : List Addr), Ctx Γ (X.blk s H scope (compEnvC scope cl C X.env) fp) → PTs (X.blk s H scope (compEnvC scope cl C X.env) fp) ifs (TB Γ O mt))
    (he : ∀ (s : Shared) (H : Hp) (C : Addr) (cl : List (Str × Addr)) (fp : List Addr), Ctx Γ (X.blk s H scope (compEnvC scope cl C X.env) fp) → PE (X.blk s H scope (compEnvC scope cl C X.env) fp) elt (T Γ O me true))
    (hsw : swapsWith (.ListComp elt [⟨tgt, iter, ifs, 0⟩] scope pos) (some (.Name y py)) spos.line X.env = pure true) (hy : X.N[i]? = some y := by rfl) (hyl : X.env.scope.names.lookup y = some .local := by rfl)
    (hs : ∀ x, foldedSetIterable iter X.env x = pure x := by intro _; rfl) : PS X (.Assign [.Name y py] (.ListComp elt [⟨tgt, iter, ifs, 0⟩] scope pos) spos) (TS_ Γ O (sSet i (eComp src t vs mt me))) := by
  subst hvs
  exact PS.mono (ps_setLc (own := own) c.calm c.nd hy hyl hsw hi ok (fun s H C cl fp => (hg s H C cl fp).pg (c.blk s H scope _ fp)) (fun s H C cl fp => ht s H C cl fp (c.blk s H scope _ fp)) (fun s H C cl fp => he s H C cl fp (c.blk s H scope _ fp)) hs) fun D σ H h =>
    S_set hOi (fun _ _ _ q => T_comp c.hK hv hO (TF_of_T eComp_list q)) h
/-- a, b = .. of one datum -/
def sUnp (t : Tg) (m : Mean) : SMean := fun ρ S => match m ρ S with
  | some (.d d, S1) => (t.set d ρ).map fun ρ1 => .nx ρ1 S1
  | _ => none
theorem EnvS.go {K : PySem.W.Frag} (hK : Γ.K = K) {t : Tg} {ω₀ ω : Wd} {ρ ρ' : Env} {σ : St} {v : V} {d : D} {Q : St → Hp → Prop} (E : EnvS Γ O ω₀ ω ρ σ) (hO : ∀ i ∈ t.slots, i ∉ O) (r : DR Γ.K ω.F v d) (h : t.set d ρ = some ρ')
    (q : ∀ σ', EnvS Γ O ω₀ ω ρ' σ' → Q σ' ω.H) : t.g K v σ ω.H Q := by
  refine Tg.go hK E.ok E.env hO r h fun vs E' => q _ ⟨E', E.le, E.ok, fun j u p hj e1 e2 => ?_⟩
  have hne : j ∉ t.slots := fun z => hO j z hj
  have e2' : σ[j]? = some (some (.ref p)) := by rw [setAll_keep hne] at e2; exact e2
  have e1' : ρ[j]? = some (some u) := by
    cases t with
    | n i =>
      cases h
      have : i ≠ j := fun z => hne (by simp [Tg.slots, z])
      rw [List.getElem?_set_ne this] at e1
      exact e1
    | t is =>
      cases d with
      | tuple ds =>
        simp only [Tg.set] at h
        split at h
        · cases h; exact (setAll_keep (show j ∉ is from hne)).symm.trans e1
        · cases h
      | _ => cases h
  exact E.new j u p hj e1' e2'
theorem ms_unp {tg : Expr} {t : Tg} (c : Ctx Γ X) (hO : ∀ i ∈ t.slots, i ∉ O) (ht : TgOk X tg t) (he : PE X e (T Γ O m true)) (hs : swapsWithSole [tg] e pos.line X.env = pure false := by rfl) (hw : swappedStores [tg] e X.env = pure none := by rfl)
    (h1 : (assignEach [tg] X.env).map (·.2) = [assign tg X.env] := by rfl) : PS X (.Assign [tg] e pos) (TS_ Γ O (sUnp t m)) := PS.mono (ps_asg he (ht.pg c) hs hw h1) fun D σ H ⟨ω₀, ω, ρ, r, e1, E, e2, k⟩ => by
  unfold sUnp at e2
  split at e2
  · rename_i d S1 em
    cases ed : t.set d ρ with
    | none => rw [ed] at e2; cases e2
    | some ρ1 =>
      rw [ed] at e2
      cases e2
      exact ⟨ω, ρ, _, S1, e1, E.ok, E.env, em, fun ω' v l ok' es r' => (E.le_ l ok').go c.hK hO r' ed fun σ' E' => k ω' σ' E' l.F es⟩
  · cases e2
/-- a, b = x, y -/
def sPar (is : List Nat) (ms : Means) : SMean := fun ρ S => match ms ρ S with
  | some (us, S1) => if us.length = is.length then some (.nx (setAll ρ is us) S1) else none
  | none => none
theorem EnvS.setAll : ∀ {is : List Nat} {vs : List V} {us : List Val} {ω₀ ω : Wd} {ρ : Env} {σ : St}, EnvS Γ O ω₀ ω ρ σ → (∀ i ∈ is, i ∉ O) → RVs Γ ω.F ω.φ vs us → EnvS Γ O ω₀ ω (MP.setAll ρ is us) (MP.setAll σ is vs)
  | [], _, _, _, _, _, _, E, _, _ => E
  | i :: is, _, _, _, _, _, _, E, _, .nil => E
  | i :: is, _, _, ω₀, ω, ρ, σ, E, h, @RVs.cons _ _ _ v u vs us r1 r2 => EnvS.setAll (is := is) (ρ := ρ.set i (some u)) (σ := σ.set i (some v)) (E.set (h i List.mem_cons_self) r1) (fun j hj => h j (List.mem_cons_of_mem _ hj)) r2
theorem ms_par {i j : Nat} {x y : Str} {ms : Means} {px py pt : Pos} {kt k2 : Nat} {pt2 : Pos} (c : Ctx Γ X) (hO : ∀ k ∈ [i, j], k ∉ O) (hij : i ≠ j) (ha : PA X [a, b] (TAs Γ O ms)) (hl : aLen [a, b] ms) (hi : X.N[i]? = some x := by rfl) (hj : X.N[j]? = some y := by rfl)
    (hx : X.env.scope.names.lookup x = some .local := by rfl) (hy : X.env.scope.names.lookup y = some .local := by rfl)
    (hw : swappedStores [.Tuple [.Name x px, .Name y py] kt pt] (.Tuple [a, b] k2 pt2) X.env = pure (some [x, y]) := by rfl)
    (hs : swapsWithSole [.Tuple [.Name x px, .Name y py] kt pt] (.Tuple [a, b] k2 pt2) pos.line X.env = pure false := by rfl) :
    PS X (.Assign [.Tuple [.Name x px, .Name y py] kt pt] (.Tuple [a, b] k2 pt2) pos) (TS_ Γ O (sPar [i, j] ms)) := PS.mono (L2.ps_par c.calm c.nd hi hj hij hx hy ha hw hs) fun D σ H ⟨ω₀, ω, ρ, r, e1, E, e2, k⟩ => by
  unfold sPar at e2
  split at e2
  · rename_i us S1 em
    split at e2
    · rename_i hlen
      cases e2
      refine ⟨ω, ρ, us, S1, e1, E.ok, E.env, em, fun ω' vs l ok' es r' => ?_⟩
      have hvl : vs.length = 2 := by rw [r'.length]; exact hlen
      obtain ⟨v, w, rfl⟩ : ∃ v w, vs = [v, w] := by
        match vs, hvl with
        | [v, w], _ => exact ⟨v, w, rfl⟩
      refine ⟨v, w, rfl, ?_⟩
      exact k ω' _ ((E.le_ l ok').setAll hO r') l.F es
    · cases e2
  · cases e2
/-! ### loops -/
def whileRun (t : Mean) (b : SMean) : Nat → Env → Store → Option Out
  | 0, _, _ => none
  | n + 1, ρ, S => match t ρ S with
    | some (.d (.bool true), S1) => match b ρ S1 with
      | some (.nx ρ2 S2) => whileRun t b n ρ2 S2
      | some (.cnt ρ2 S2) => whileRun t b n ρ2 S2
      | some (.brk ρ2 S2) => some (.nx ρ2 S2)
      | some (.ret u S2) => some (.ret u S2)
      | none => none
    | some (.d (.bool false), S1) => some (.nx ρ S1)
    | _ => none
def sWhile (n : Nat) (t : Mean) (b : SMean) : SMean := whileRun t b n
theorem ms_while {c : Expr} {body : List Stmt} (k0 : Nat) (cx : Ctx Γ X) (hc : PT X c (TB Γ O m)) (hb : PSs X body (TS_ Γ O ma)) : PS X (.While c body [] pos) (TS_ Γ O (sWhile k0 m ma)) := PS.mono (ps_while cx.own hc hb) fun D σ H ⟨ω₀, ω, ρ, r, e1, E, e2, k⟩ => by
  refine ⟨fun n σ H => ∃ ω1 ρ1, ω1.H = H ∧ EnvS Γ O ω₀ ω1 ρ1 σ ∧ Sub ω.F ω1.F ∧ whileRun m ma n ρ1 ω1.S = some r, ⟨k0, ω, ρ, e1, E, Sub.refl _, e2⟩, ?_⟩
  rintro n σ1 H1 ⟨ω1, ρ1, rfl, E1, s1, er⟩
  cases n with
  | zero => cases er
  | succ n =>
    unfold whileRun at er
    split at er
    · rename_i S1 et
      refine ⟨ω1, ρ1, true, S1, rfl, E1.ok, E1.env, et, fun ω2 l2 ok2 es2 => iteT ?_⟩
      refine ⟨fun σ' H' => ∃ ω3 ρ3, ω3.H = H' ∧ EnvS Γ O ω₀ ω3 ρ3 σ' ∧ Sub ω.F ω3.F ∧ whileRun m ma n ρ3 ω3.S = some r, fun σ' H' h => ⟨n, Nat.lt_succ_self n, h⟩, ?_⟩
      have s2 : Sub ω.F ω2.F := s1.trans l2.F
      split at er
      · rename_i ρ2 S2 eb
        exact ⟨ω₀, ω2, ρ1, .nx ρ2 S2, rfl, E1.le_ l2 ok2, by rw [es2]; exact eb, fun ω3 σ3 E3 s3 es3 => ⟨ω3, ρ2, rfl, E3, s2.trans s3, by rw [es3]; exact er⟩⟩
      · rename_i ρ2 S2 eb
        exact ⟨ω₀, ω2, ρ1, .cnt ρ2 S2, rfl, E1.le_ l2 ok2, by rw [es2]; exact eb, fun ω3 σ3 E3 s3 es3 => ⟨ω3, ρ2, rfl, E3, s2.trans s3, by rw [es3]; exact er⟩⟩
      · rename_i ρ2 S2 eb
        cases er
        exact ⟨ω₀, ω2, ρ1, .brk ρ2 S2, rfl, E1.le_ l2 ok2, by rw [es2]; exact eb, fun ω3 σ3 E3 s3 es3 => k ω3 σ3 E3 (s2.trans s3) es3⟩
      · rename_i u S2 eb
        cases er
        exact ⟨ω₀, ω2, ρ1, .ret u S2, rfl, E1.le_ l2 ok2, by rw [es2]; exact eb, fun ω3 v l3 ok3 es3 r3 => k ω3 v l3 ok3 es3 r3⟩
      · cases er
    · rename_i S1 et
      cases er
      exact ⟨ω1, ρ1, false, S1, rfl, E1.ok, E1.env, et, fun ω2 l2 ok2 es2 => iteF (k ω2 σ1 (E1.le_ l2 ok2) (s1.trans l2.F) es2)⟩
    · cases er
def forRun (t : Tg) (b : SMean) : List D → Env → Store → Option Out
  | [], ρ, S => some (.nx ρ S)
  | d :: ds, ρ, S => match t.set d ρ with
    | none => none
    | some ρ1 => match b ρ1 S with
      | some (.nx ρ2 S2) => forRun t b ds ρ2 S2
      | some (.cnt ρ2 S2) => forRun t b ds ρ2 S2
      | some (.brk ρ2 S2) => some (.nx ρ2 S2)
      | some (.ret u S2) => some (.ret u S2)
      | none => none
def sFor (src : MSrc) (t : Tg) (b : SMean) : SMean := fun ρ S => match src ρ S with
  | some (ds, S1) => forRun t b ds ρ S1
  | none => none
theorem ms_for {tg iter : Expr} {body : List Stmt} {src : MSrc} {t : Tg} (c : Ctx Γ X) (hO : ∀ i ∈ t.slots, i ∉ O) (hi : PI X tg iter (TI_ Γ O src)) (ht : TgOk X tg t) (hb : PSs X body (TS_ Γ O ma)) (hs : ∀ x, foldedSetIterable iter X.env x = pure x := by intro _; rfl) :
    PS X (.For tg iter body [] pos) (TS_ Γ O (sFor src t ma)) := PS.mono (ps_for c.own c.calm hi (ht.pg c) hb hs) fun D σ H ⟨ω₀, ω, ρ, r, e1, E, e2, k⟩ => by
  unfold sFor at e2
  split at e2
  · rename_i ds S1 em
    refine ⟨ω, ρ, ds, S1, e1, E.ok, E.env, em, fun ω1 J l1 ok1 es1 wk hz => ?_⟩
    refine ⟨fun i n σ H => ∃ ω2 ρ2, ω2.H = H ∧ EnvS Γ O ω₀ ω2 ρ2 σ ∧ Sub ω1.F ω2.F ∧ n = ds.length - i ∧ i ≤ ds.length ∧ forRun t ma (ds.drop i) ρ2 ω2.S = some r, ⟨ds.length, ω1, ρ, rfl, E.le_ l1 ok1, Sub.refl _, by simp, Nat.zero_le _, by rw [List.drop_zero, es1]; exact e2⟩, ?_⟩
    rintro i n σ2 H2 ⟨ω2, ρ2, rfl, E2, s2, rfl, hi, er⟩
    have s02 : Sub ω.F ω2.F := l1.F.trans s2
    by_cases hlt : i < ds.length
    · obtain ⟨go, yl⟩ := (wk ω2 s2 E2.ok i).1 ds[i] (List.getElem?_eq_getElem hlt)
      refine .inr ⟨go, fun σ H => ∃ ω3 ρ3, ω3.H = H ∧ EnvS Γ O ω₀ ω3 ρ3 σ ∧ Sub ω1.F ω3.F ∧ forRun t ma (ds.drop (i + 1)) ρ3 ω3.S = some r, fun σ' H' ⟨ω3, ρ3, a1, a2, a3, a4⟩ => ⟨ds.length - (i + 1), by omega, ω3, ρ3, a1, a2, a3, rfl, hlt, a4⟩, fun x H' hx => ?_⟩
      obtain ⟨rfl, rx⟩ := yl x H' hx
      rw [List.drop_eq_getElem_cons hlt] at er
      unfold forRun at er
      split at er
      · cases er
      · rename_i ρ3 et
        refine E2.go c.hK hO rx et fun σ3 E3 => ?_
        split at er
        · rename_i ρ4 S4 eb
          exact ⟨ω₀, ω2, ρ3, .nx ρ4 S4, rfl, E3, eb, fun ω4 σ4 E4 s4 es4 => ⟨ω4, ρ4, rfl, E4, s2.trans s4, by rw [es4]; exact er⟩⟩
        · rename_i ρ4 S4 eb
          exact ⟨ω₀, ω2, ρ3, .cnt ρ4 S4, rfl, E3, eb, fun ω4 σ4 E4 s4 es4 => ⟨ω4, ρ4, rfl, E4, s2.trans s4, by rw [es4]; exact er⟩⟩
        · rename_i ρ4 S4 eb
          cases er
          exact ⟨ω₀, ω2, ρ3, .brk ρ4 S4, rfl, E3, eb, fun ω4 σ4 E4 s4 es4 => k ω4 σ4 E4 (s02.trans s4) es4⟩
        · rename_i u S4 eb
          cases er
          exact ⟨ω₀, ω2, ρ3, .ret u S4, rfl, E3, eb, fun ω4 v l4 ok4 es4 r4 => k ω4 v l4 ok4 es4 r4⟩
        · cases er
    · have e : i = ds.length := by omega
      subst e
      rw [List.drop_length] at er
      cases er
      exact .inl ⟨(wk ω2 s2 E2.ok _).2 (Nat.le_refl _), k ω2 σ2 E2 s02 rfl⟩
  · cases e2
end
end MP
set_option Elab.async false
set_option linter.all false
set_option maxRecDepth 20000
/-! Part 8: changes of own lists, of objects; augmented names; sorted; isinstance. -/
namespace MP
open PySem L2
open PySem.PyData (strOk)
section
variable {Γ : Gam} {X : Cx} {O : List Nat}
/-- what an own list holds is changed -/
theorem EnvS.upd {ω₀ ω : Wd} {ρ : Env} {σ : St} (E : EnvS Γ O ω₀ ω ρ σ) {i : Nat} {p : Addr} {u : Val} {ys : List V} {ds : List D} (hi : i ∈ O) (e1 : ρ[i]? = some (some u)) (e2 : σ[i]? = some (some (.ref p)))
    (d : DRs Γ.K ω.F ys ds) : EnvS Γ O ω₀ { ω with H := L2.upd ω.H p (.lst ys) } (ρ.set i (some (.d (.list ds)))) σ := by
  obtain ⟨p', xs, es, rfl, e3, hH, _, hF, hφ⟩ := E.env.own i u e1 hi
  rw [e2] at e3
  cases e3
  have h0 := E.new i _ p hi e1 e2
  have hl : i < ρ.length := (List.getElem?_eq_some_iff.mp e1).1
  refine ⟨⟨by rw [List.length_set]; exact E.env.len, fun j w e n => ?_, fun j w e n => ?_, fun j k w z q hj hk hne a1 a2 a3 => ?_⟩, le_upd E.le h0, ok_upd E.ok hF hφ, fun j w q hj a1 a2 => ?_⟩
  · have hne : i ≠ j := fun z => n (z ▸ hi)
    rw [List.getElem?_set_ne hne] at e
    exact E.env.var j w e n
  · by_cases hj : i = j
    · subst hj
      rw [List.getElem?_set_self hl] at e
      cases e
      exact ⟨p, ys, ds, rfl, e2, upd_same, d, hF, hφ⟩
    · rw [List.getElem?_set_ne hj] at e
      obtain ⟨q, zs, es2, b1, b2, b3, b4, b5, b6⟩ := E.env.own j w e n
      have hq : q ≠ p := fun z => by
        subst z
        exact E.env.apart i j _ _ q hi n hj e1 e e2 b2
      exact ⟨q, zs, es2, b1, b2, by show L2.upd ω.H p _ q = _; rw [upd_ne hq]; exact b3, b4, b5, b6⟩
  · have old : ∀ (j : Nat) (w : Val), (ρ.set i (some (Val.d (.list ds))))[j]? = some (some w) → ∃ w', ρ[j]? = some (some w') := fun j w a => by
      by_cases hj : i = j
      · subst hj; exact ⟨_, e1⟩
      · rw [List.getElem?_set_ne hj] at a; exact ⟨w, a⟩
    obtain ⟨w', b1⟩ := old j w a1
    obtain ⟨z', b2⟩ := old k z a2
    exact E.env.apart j k w' z' q hj hk hne b1 b2 a3
  · by_cases hj2 : i = j
    · subst hj2
      rw [e2] at a2
      cases a2
      exact h0
    · rw [List.getElem?_set_ne hj2] at a1
      exact E.new j w q hj a1 a2
def sApp (i : Nat) (m : Mean) : SMean := fun ρ S => match m ρ S with
  | some (.d d, S1) => match ρ.getD i none with
    | some (.d (.list ds)) => if ds.length < 1000000 then some (.nx (ρ.set i (some (.d (.list (ds ++ [d]))))) S1) else none
    | _ => none
  | _ => none
theorem getD_some {ρ : Env} {i : Nat} {u : Val} (h : ρ.getD i none = some u) : ρ[i]? = some (some u) := by
  rw [List.getD_eq_getElem?_getD] at h
  cases e : ρ[i]? with
  | none => rw [e] at h; cases h
  | some x => rw [e] at h; exact congrArg some h
theorem sApp_some {i : Nat} {m : Mean} {ρ : Env} {S : Store} {r : Out} (h : sApp i m ρ S = some r) : ∃ d S1 ds, m ρ S = some (.d d, S1) ∧ ρ[i]? = some (some (.d (.list ds))) ∧ ds.length < 1000000 ∧ r = .nx (ρ.set i (some (.d (.list (ds ++ [d]))))) S1 := by
  unfold sApp at h
  split at h
  · rename_i d S1 e
    split at h
    · rename_i ds e2
      split at h
      · rename_i e3
        cases h
        exact ⟨d, S1, ds, e, getD_some e2, e3, rfl⟩
      · cases h
    · cases h
  · cases h
variable {m : Mean} {e : Expr} {px apos cpos pos : Pos} {x : Str}
theorem ms_append {i : Nat} (c : Ctx Γ X) (hi : i ∈ O) (pv : PE X (.Name x px) (tVar i)) (he : PE X e (T Γ O m true)) (hs : swapsWith (.Call (.Attribute (.Name x px) "append" apos) [e] [] cpos) none pos.line X.env = pure false := by rfl)
    (hbase : attributeBase (.Name x px) "append" X.env (eval (.Name x px) X.env) = eval (.Name x px) X.env := by rfl)
    (hfew : ((backTo cpos (starEach [e] X.env)).all (fun x => !x.1) && (backToKw cpos (keywordEach [] X.env)).all (fun x => x.1.isSome)
      && decide ([e].length + ([] : List Keyword).length + (if ([] : List Keyword).isEmpty then 0 else 1) < 30)) = true := by rfl)
    (hline : (apos.endLine == cpos.line) = true := by rfl) (hst : starEach [e] X.env = (false, eval e X.env) :: starEach [] X.env := by rfl) (hplain : (backTo cpos (starEach [] X.env)).any (·.1) = false := by rfl) :
    PS X (.Expr (.Call (.Attribute (.Name x px) "append" apos) [e] [] cpos) pos) (TS_ Γ O (sApp i m)) :=
  PS.mono (ps_expr (pe_bm PySem.F.plainAttrs_list PySem.F.slot_list_append PySem.F.type_list_append mt_append pv (pa_cons he pa_nil hst) hbase hfew hline hst hplain) hs) fun D σ H ⟨ω₀, ω, ρ, r, e1, E, e2, k⟩ => by
  obtain ⟨d, S1, ds, em, ei, hz, rfl⟩ := sApp_some e2
  obtain ⟨p, xs, ds', eu, es, hH, dr, hF, hφ⟩ := E.env.own i _ ei hi
  cases eu
  subst e1
  refine ⟨.ref p, es, .inl ⟨rfl, _, SqL.of hH⟩, ω, ρ, _, S1, rfl, E.ok, E.env, em, fun ω' v l ok' es' r' => ?_⟩
  have hH' := l.H p _ hH hφ
  have dr' := dr.sub l.F
  refine ⟨p, xs, v, rfl, rfl, hH', ?_, ?_⟩
  · rw [dr.length]; rw [sizeLine_eq]; omega
  · exact k { ω' with H := L2.upd ω'.H p (.lst (xs ++ [v])) } σ ((E.le_ l ok').upd hi ei es (dr'.append (.cons r' .nil))) l.F es'
def sExt (i : Nat) (m : Mean) : SMean := fun ρ S => match m ρ S with
  | some (.d (.list es), S1) => match ρ.getD i none with
    | some (.d (.list ds)) => if ds.length + es.length ≤ 1000000 then some (.nx (ρ.set i (some (.d (.list (ds ++ es))))) S1) else none
    | _ => none
  | _ => none
theorem ms_extend {i : Nat} (c : Ctx Γ X) (hi : i ∈ O) (pv : PE X (.Name x px) (tVar i)) (he : PE X e (T Γ O m true)) (hs : swapsWith (.Call (.Attribute (.Name x px) "extend" apos) [e] [] cpos) none pos.line X.env = pure false := by rfl)
    (hbase : attributeBase (.Name x px) "extend" X.env (eval (.Name x px) X.env) = eval (.Name x px) X.env := by rfl)
    (hfew : ((backTo cpos (starEach [e] X.env)).all (fun x => !x.1) && (backToKw cpos (keywordEach [] X.env)).all (fun x => x.1.isSome)
      && decide ([e].length + ([] : List Keyword).length + (if ([] : List Keyword).isEmpty then 0 else 1) < 30)) = true := by rfl)
    (hline : (apos.endLine == cpos.line) = true := by rfl) (hst : starEach [e] X.env = (false, eval e X.env) :: starEach [] X.env := by rfl) (hplain : (backTo cpos (starEach [] X.env)).any (·.1) = false := by rfl) :
    PS X (.Expr (.Call (.Attribute (.Name x px) "extend" apos) [e] [] cpos) pos) (TS_ Γ O (sExt i m)) :=
  PS.mono (ps_expr (pe_bm PySem.F.plainAttrs_list PySem.F.slot_list_extend PySem.F.type_list_extend mt_extend pv (pa_cons he pa_nil hst) hbase hfew hline hst hplain) hs) fun D σ H ⟨ω₀, ω, ρ, r, e1, E, e2, k⟩ => by
  have key : ∃ es S1 ds, m ρ ω.S = some (.d (.list es), S1) ∧ ρ[i]? = some (some (.d (.list ds))) ∧ ds.length + es.length ≤ 1000000 ∧ r = .nx (ρ.set i (some (.d (.list (ds ++ es))))) S1 := by
    unfold sExt at e2
    split at e2
    · rename_i d S1 e
      split at e2
      · rename_i ds e3
        split at e2
        · rename_i e4
          cases e2
          exact ⟨_, S1, ds, e, getD_some e3, e4, rfl⟩
        · cases e2
      · cases e2
    · cases e2
  obtain ⟨fs, S1, ds, em, ei, hz, rfl⟩ := key
  obtain ⟨p, xs, ds', eu, es, hH, dr, hF, hφ⟩ := E.env.own i _ ei hi
  cases eu
  subst e1
  refine ⟨.ref p, es, .inl ⟨rfl, _, SqL.of hH⟩, ω, ρ, _, S1, rfl, E.ok, E.env, em, fun ω' v l ok' es' r' => ?_⟩
  have hH' := l.H p _ hH hφ
  have dr' := dr.sub l.F
  have r' : DR Γ.K ω'.F v (.list fs) := r'
  obtain ⟨b, zs, rfl, hB, dz⟩ := r'.of_lst
  refine ⟨p, b, xs, zs, rfl, rfl, hH', ok'.sub _ _ hB, ?_, ?_⟩
  · rw [dr.length, dz.length]; exact lineM hz
  · exact k { ω' with H := L2.upd ω'.H p (.lst (xs ++ zs)) } σ ((E.le_ l ok').upd hi ei es (dr'.append dz)) l.F es'
end
end MP
set_option Elab.async false
set_option linter.all false
set_option maxRecDepth 20000
/-! Part 9: objects changed; augmented names; minus; isinstance; three names at once; pop then append. -/
namespace MP
open PySem L2
open PySem.PyData (strOk)
section
variable {Γ : Gam} {X : Cx} {O : List Nat}
/-- the n-th object becomes b -/
def Wd.chg (ω : Wd) (n : Nat) (a : Addr) (o : HO) (b : Ob) : Wd := { ω with H := L2.upd ω.H a o, S := ω.S.set n b }
theorem Wd.chg_le {ω : Wd} {n : Nat} {a : Addr} {o : HO} {b : Ob} (h : ω.φ[n]? = some a) : Le ω (ω.chg n a o b) where
  F := Sub.refl _
  φ := List.prefix_refl _
  H := fun p u e np => by
    have hne : p ≠ a := fun z => np (z ▸ List.mem_of_getElem? h)
    show L2.upd ω.H a o p = some u
    rw [upd_ne hne]; exact e
  Hs := fun p e => by
    show L2.upd ω.H a o p ≠ none
    by_cases hq : p = a
    · rw [hq, upd_same]; simp
    · rw [upd_ne hq]; exact e
  nF := fun _ _ e => .inl e
  nφ := fun _ e => .inl e
theorem ObR.chg {ω : Wd} {n : Nat} {a c : Addr} {o : HO} {b d : Ob} (hne : c ≠ a) (r : ObR Γ ω c d) : ObR Γ (ω.chg n a o b) c d := by
  cases d with
  | cells xs => obtain ⟨vs, e, d⟩ := r; exact ⟨vs, by show L2.upd ω.H a o c = _; rw [upd_ne hne]; exact e, d⟩
  | kept kvs => obtain ⟨xs, e, q⟩ := r; exact ⟨xs, by show L2.upd ω.H a o c = _; rw [upd_ne hne]; exact e, q⟩
  | inst c2 fs => obtain ⟨dx, vs, e, d, l⟩ := r; exact ⟨dx, vs, by show L2.upd ω.H a o c = _; rw [upd_ne hne]; exact e, d, l⟩
theorem nodup_get {α : Type} {l : List α} (h : l.Nodup) {i j : Nat} {a : α} (h1 : l[i]? = some a) (h2 : l[j]? = some a) : i = j := by
  obtain ⟨hi, e1⟩ := List.getElem?_eq_some_iff.mp h1
  obtain ⟨hj, e2⟩ := List.getElem?_eq_some_iff.mp h2
  have h := List.pairwise_iff_getElem.mp h
  rcases Nat.lt_trichotomy i j with q | q | q
  · exact absurd (e1.trans e2.symm) (h i j hi hj q)
  · exact q
  · exact absurd (e2.trans e1.symm) (h j i hj hi q)
theorem Wd.chg_ok {ω : Wd} (ok : WOk Γ ω) {n : Nat} {a : Addr} {o : HO} {b : Ob} (h : ω.φ[n]? = some a) (new : ObR Γ (ω.chg n a o b) a b) : WOk Γ (ω.chg n a o b) where
  sub := fun p u e => by
    have hne : p ≠ a := fun z => by
      subst z
      have e : ω.F p = some u := e
      rw [ok.fr p (List.mem_of_getElem? h)] at e
      cases e
    show L2.upd ω.H a o p = some u
    rw [upd_ne hne]; exact ok.sub p u e
  len := by show ω.φ.length = (ω.S.set n b).length; rw [List.length_set]; exact ok.len
  nd := ok.nd
  fr := ok.fr
  ob := fun k d e => by
    have e : (ω.S.set n b)[k]? = some d := e
    by_cases hk : n = k
    · subst hk
      have hl : n < ω.S.length := by
        have := (List.getElem?_eq_some_iff.mp e).1
        rwa [List.length_set] at this
      rw [List.getElem?_set_self hl] at e
      cases e
      exact ⟨a, h, new⟩
    · rw [List.getElem?_set_ne hk] at e
      obtain ⟨c, e1, r⟩ := ok.ob k d e
      exact ⟨c, e1, r.chg fun z => hk (by subst z; exact nodup_get ok.nd h e1)⟩
def putAt (fs : List Val) (i : Nat) (u : Val) : Option (List Val) := if i < fs.length then some (fs.set i u) else if i = fs.length then some (fs ++ [u]) else none
theorem putF_zip {f : Str} {v : V} : ∀ {ns : List Str} {vs : List V} {i : Nat}, ns.Nodup → ns[i]? = some f → i ≤ vs.length → putF f v (ns.zip vs) = ns.zip (if i < vs.length then vs.set i v else vs ++ [v])
  | [], vs, i, _, h, _ => by simp at h
  | n :: ns, [], i, nd, h, hl => by
    have : i = 0 := by simpa using hl
    subst this
    simp at h
    subst h
    simp [putF]
  | n :: ns, w :: vs, 0, nd, h, hl => by
    simp at h
    subst h
    simp [putF]
  | n :: ns, w :: vs, i + 1, nd, h, hl => by
    have h : ns[i]? = some f := by simpa using h
    have hne : n ≠ f := fun z => by
      subst z
      exact (List.nodup_cons.mp nd).1 (List.mem_of_getElem? h)
    have ih := putF_zip (v := v) (List.nodup_cons.mp nd).2 h (show i ≤ vs.length by simpa using hl)
    rw [List.zip_cons_cons]
    show (if n = f then _ else (n, w) :: putF f v (ns.zip vs)) = _
    rw [if_neg hne, ih]
    by_cases hi : i < vs.length
    · rw [if_pos hi, if_pos (by simpa using hi)]; simp
    · rw [if_neg hi, if_neg (by simpa using hi)]; simp
variable {m mo mi mv : Mean} {e o ie : Expr} {px apos cpos pos pos' : Pos} {x : Str}
/-- o.f = e -/
def sFldSet (c i : Nat) (mo mv : Mean) : SMean := fun ρ S => match mv ρ S with
  | some (u, S1) => match mo ρ S1 with
    | some (.obj n, S2) => match S2[n]? with
      | some (.inst c' fs) => if c' = c then (putAt fs i u).map fun fs' => .nx ρ (S2.set n (.inst c fs')) else none
      | _ => none
    | _ => none
  | none => none
theorem sFldSet_some {c i : Nat} {ρ : Env} {S : Store} {r : Out} (h : sFldSet c i mo mv ρ S = some r) : ∃ u S1 n S2 fs fs', mv ρ S = some (u, S1) ∧ mo ρ S1 = some (.obj n, S2) ∧ S2[n]? = some (.inst c fs) ∧ putAt fs i u = some fs' ∧ r = .nx ρ (S2.set n (.inst c fs')) := by
  unfold sFldSet at h
  split at h
  · rename_i u S1 e1
    split at h
    · rename_i n S2 e2
      split at h
      · rename_i c' fs e3
        split at h
        · rename_i e4
          subst e4
          cases e5 : putAt fs i u with
          | none => rw [e5] at h; cases h
          | some fs' => rw [e5] at h; cases h; exact ⟨u, S1, n, S2, fs, fs', e1, e2, e3, e5, rfl⟩
        · cases h
      · cases h
    · cases h
  · cases h
theorem ms_fld {c i : Nat} {f : Str} (hc : Cls X.K (Γ.cls c)) (hf : NoAttr X.K (Γ.cls c) f) (hnd : (Γ.flds c).Nodup) (hi : (Γ.flds c)[i]? = some f) (hz : (Γ.flds c).length < 1000) (hv : PE X e (T Γ O mv true)) (ho : PE X o (T Γ O mo true))
    (hs : swapsWith e (some (.Attribute o f pos')) pos.line X.env = pure false := by rfl) : PS X (.Assign [.Attribute o f pos'] e pos) (TS_ Γ O (sFldSet c i mo mv)) :=
  PS.mono (ps_fld ho hv hs) fun D σ H ⟨ω₀, ω, ρ, r, e1, E, e2, k⟩ => by
  obtain ⟨u, S1, n, S2, fs, fs', ev, eo, en, ep, rfl⟩ := sFldSet_some e2
  refine ⟨ω, ρ, u, S1, e1, E.ok, E.env, ev, fun ω1 v l1 ok1 es1 r1 => ?_⟩
  refine ⟨ω1, ρ, _, S2, rfl, ok1, E.env.le l1, by rw [es1]; exact eo, fun ω2 w l2 ok2 es2 r2 => ?_⟩
  obtain ⟨a, dx, vs, rfl, ha, hφ, hH, d, hlen⟩ := ok2.inst (by rw [es2]; exact en) r2
  have hvl := d.length
  refine ⟨a, Γ.cls c, dx, _, rfl, hH, hc, hf, ?_, ?_⟩
  · rw [List.length_zip]; omega
  · have hi2 : i ≤ vs.length := by
      unfold putAt at ep
      split at ep
      · omega
      · split at ep
        · omega
        · cases ep
    rw [putF_zip hnd hi hi2]
    have hfl : i < (Γ.flds c).length := (List.getElem?_eq_some_iff.mp hi).1
    have r1' : RV Γ ω2.F ω2.φ v u := (RT.rv r1).le l2
    have new : RVs Γ ω2.F ω2.φ (if i < vs.length then vs.set i v else vs ++ [v]) fs' ∧ fs'.length ≤ (Γ.flds c).length := by
      unfold putAt at ep
      by_cases h1 : i < fs.length
      · rw [if_pos h1] at ep
        cases ep
        rw [if_pos (by omega)]
        exact ⟨d.set r1' i, by rw [List.length_set]; exact hlen⟩
      · rw [if_neg h1] at ep
        by_cases h2 : i = fs.length
        · rw [if_pos h2] at ep
          cases ep
          rw [if_neg (by omega)]
          exact ⟨d.append (.cons r1' .nil), by simp; omega⟩
        · rw [if_neg h2] at ep
          cases ep
    have hok := Wd.chg_ok (o := .ins (Γ.cls c) dx ((Γ.flds c).zip (if i < vs.length then vs.set i v else vs ++ [v]))) (b := .inst c fs') ok2 hφ ⟨dx, _, upd_same, new.1, new.2⟩
    refine k (ω2.chg n a _ (.inst c fs')) σ (((E.le_ l1 ok1).le_ l2 ok2).le_ (Wd.chg_le hφ) hok) (l1.F.trans l2.F) ?_
    show ω2.S.set n _ = S2.set n _
    rw [es2]
/-- o[i] = e, o an object of cells -/
def sCell (mo mi mv : Mean) : SMean := fun ρ S => match mv ρ S with
  | some (.d d, S1) => match mo ρ S1 with
    | some (.obj n, S2) => match mi ρ S2 with
      | some (.d (.int i), S3) => match S3[n]? with
        | some (.cells xs) => (ixN xs.length i).map fun j => .nx ρ (S3.set n (.cells (xs.set j d)))
        | _ => none
      | _ => none
    | _ => none
  | _ => none
theorem sCell_some {ρ : Env} {S : Store} {r : Out} (h : sCell mo mi mv ρ S = some r) : ∃ d S1 n S2 i S3 xs j, mv ρ S = some (.d d, S1) ∧ mo ρ S1 = some (.obj n, S2) ∧ mi ρ S2 = some (.d (.int i), S3) ∧ S3[n]? = some (.cells xs) ∧ ixN xs.length i = some j ∧ r = .nx ρ (S3.set n (.cells (xs.set j d))) := by
  unfold sCell at h
  split at h
  · rename_i d S1 e1
    split at h
    · rename_i n S2 e2
      split at h
      · rename_i i S3 e3
        split at h
        · rename_i xs e4
          cases e5 : ixN xs.length i with
          | none => rw [e5] at h; cases h
          | some j => rw [e5] at h; cases h; exact ⟨d, S1, n, S2, i, S3, xs, j, e1, e2, e3, e4, e5, rfl⟩
        · cases h
      · cases h
    · cases h
  · cases h
theorem ms_cell (hv : PE X e (T Γ O mv true)) (ho : PE X o (T Γ O mo true)) (hi : PE X ie (T Γ O mi true))
    (hs : swapsWithSole [.Subscript o ie pos'] e pos.line X.env = pure false := by rfl) (hw : swappedStores [.Subscript o ie pos'] e X.env = pure none := by rfl)
    (h1 : (assignEach [.Subscript o ie pos'] X.env).map (·.2) = [assign (.Subscript o ie pos') X.env] := by rfl)
    (ha : ∀ v, assign (.Subscript o ie pos') X.env v = (do
      let ov ← holding [v] (eval o X.env)
      let iv ← holding [v, ov] (eval ie X.env)
      standAt pos'
      holding [v, ov, iv] (setItem ov iv v)
      release [v, ov, iv] []) := by intro _; rfl) : PS X (.Assign [.Subscript o ie pos'] e pos) (TS_ Γ O (sCell mo mi mv)) :=
  PS.mono (ps_asg hv (pg_sub ho hi set_list ha) hs hw h1) fun D σ H ⟨ω₀, ω, ρ, r, e1, E, e2, k⟩ => by
  obtain ⟨d, S1, n, S2, i, S3, xs, j, ev, eo, ei, en, ej, rfl⟩ := sCell_some e2
  refine ⟨ω, ρ, _, S1, e1, E.ok, E.env, ev, fun ω1 v l1 ok1 es1 r1 => ?_⟩
  refine ⟨ω1, ρ, _, S2, rfl, ok1, E.env.le l1, by rw [es1]; exact eo, fun ω2 w l2 ok2 es2 r2 => ?_⟩
  refine ⟨ω2, ρ, _, S3, rfl, ok2, (E.env.le l1).le l2, by rw [es2]; exact ei, fun ω3 z l3 ok3 es3 r3 => ?_⟩
  obtain ⟨a, hφ, rfl⟩ := (RT.rv r2).le l3
  obtain ⟨a', e', vs, hH, dr⟩ := ok3.ob n _ (by rw [es3]; exact en)
  rw [hφ] at e'
  cases e'
  have rz : z = .int i := DR.of_int r3
  have rv : DR Γ.K ω3.F v d := DR.sub (DR.sub r1 l2.F) l3.F
  refine ⟨a, vs, i, j, rfl, rz, hH, by rw [dr.length]; exact ej, ?_⟩
  have hok := Wd.chg_ok (o := .lst (vs.set j v)) (b := .cells (xs.set j d)) ok3 hφ ⟨_, upd_same, dr.set j rv⟩
  refine k (ω3.chg n a _ _) σ ((((E.le_ l1 ok1).le_ l2 ok2).le_ l3 ok3).le_ (Wd.chg_le hφ) hok) ((l1.F.trans l2.F).trans l3.F) ?_
  show ω3.S.set n _ = S3.set n _
  rw [es3]
/-- own[i] = e -/
def sOwnSet (s : Nat) (mi mv : Mean) : SMean := fun ρ S => match mv ρ S with
  | some (.d d, S1) => match mi ρ S1 with
    | some (.d (.int i), S2) => match ρ.getD s none with
      | some (.d (.list xs)) => (ixN xs.length i).map fun j => .nx (ρ.set s (some (.d (.list (xs.set j d))))) S2
      | _ => none
    | _ => none
  | _ => none
theorem ms_ownSet {s : Nat} (hs0 : s ∈ O) (hv : PE X e (T Γ O mv true)) (pv : PE X (.Name x px) (tVar s)) (hi : PE X ie (T Γ O mi true))
    (hs : swapsWithSole [.Subscript (.Name x px) ie pos'] e pos.line X.env = pure false := by rfl) (hw : swappedStores [.Subscript (.Name x px) ie pos'] e X.env = pure none := by rfl)
    (h1 : (assignEach [.Subscript (.Name x px) ie pos'] X.env).map (·.2) = [assign (.Subscript (.Name x px) ie pos') X.env] := by rfl)
    (ha : ∀ v, assign (.Subscript (.Name x px) ie pos') X.env v = (do
      let ov ← holding [v] (eval (.Name x px) X.env)
      let iv ← holding [v, ov] (eval ie X.env)
      standAt pos'
      holding [v, ov, iv] (setItem ov iv v)
      release [v, ov, iv] []) := by intro _; rfl) : PS X (.Assign [.Subscript (.Name x px) ie pos'] e pos) (TS_ Γ O (sOwnSet s mi mv)) :=
  PS.mono (ps_asg hv (pg_sub pv hi set_list ha) hs hw h1) fun D σ H ⟨ω₀, ω, ρ, r, e1, E, e2, k⟩ => by
  have key : ∃ d S1 i S2 xs j, mv ρ ω.S = some (.d d, S1) ∧ mi ρ S1 = some (.d (.int i), S2) ∧ ρ[s]? = some (some (.d (.list xs))) ∧ ixN xs.length i = some j ∧ r = .nx (ρ.set s (some (.d (.list (xs.set j d))))) S2 := by
    unfold sOwnSet at e2
    split at e2
    · rename_i d S1 e3
      split at e2
      · rename_i i S2 e4
        split at e2
        · rename_i xs e5
          cases e6 : ixN xs.length i with
          | none => rw [e6] at e2; cases e2
          | some j => rw [e6] at e2; cases e2; exact ⟨d, S1, i, S2, xs, j, e3, e4, getD_some e5, e6, rfl⟩
        · cases e2
      · cases e2
    · cases e2
  obtain ⟨d, S1, i, S2, xs, j, ev, ei, en, ej, rfl⟩ := key
  obtain ⟨p, vs, ds', eu, es, hH, dr, hF, hφ⟩ := E.env.own s _ en hs0
  cases eu
  refine ⟨ω, ρ, _, S1, e1, E.ok, E.env, ev, fun ω1 v l1 ok1 es1 r1 => ?_⟩
  refine ⟨.ref p, es, ω1, ρ, _, S2, rfl, ok1, E.env.le l1, by rw [es1]; exact ei, fun ω2 z l2 ok2 es2 r2 => ?_⟩
  have rz : z = .int i := DR.of_int r2
  have rv : DR Γ.K ω2.F v d := DR.sub r1 l2.F
  have hH2 := (l1.trans l2).H p _ hH hφ
  refine ⟨p, vs, i, j, rfl, rz, hH2, by rw [dr.length]; exact ej, ?_⟩
  exact k { ω2 with H := L2.upd ω2.H p (.lst (vs.set j v)) } σ (((E.le_ l1 ok1).le_ l2 ok2).upd hs0 en es ((dr.sub (l1.F.trans l2.F)).set j rv)) (l1.F.trans l2.F) es2
/-! ### name op= e -/
def sAug (f : Int → Int → Int) (i : Nat) (m : Mean) : SMean := fun ρ S => match ρ.getD i none with
  | some (.d (.int a)) => match m ρ S with
    | some (.d (.int b), S1) => some (.nx (ρ.set i (some (.d (.int (f a b))))) S1)
    | _ => none
  | _ => none
theorem ms_aug {i : Nat} {op : Operator} {f : Int → Int → Int} (c : Ctx Γ X) (ho : PIp X op (ipI f)) (hO : i ∉ O) (he : PE X e (T Γ O m true)) (hi : X.N[i]? = some x := by rfl) (hx : Loc X.env.scope x := by first | exact Or.inl rfl | exact Or.inr rfl)
    (hf : X.fn x = true ∨ X.env.scope.names.lookup x = some .local := by first | exact .inl rfl | exact .inr rfl) : PS X (.AugAssign (.Name x pos') op e pos) (TS_ Γ O (sAug f i m)) :=
  PS.mono (ps_aug c.nd hi hx he ho hf) fun D σ H ⟨ω₀, ω, ρ, r, e1, E, e2, k⟩ => by
  have key : ∃ a b S1, ρ[i]? = some (some (.d (.int a))) ∧ m ρ ω.S = some (.d (.int b), S1) ∧ r = .nx (ρ.set i (some (.d (.int (f a b))))) S1 := by
    unfold sAug at e2
    split at e2
    · rename_i a e3
      split at e2
      · rename_i b S1 e4
        cases e2
        exact ⟨a, b, S1, getD_some e3, e4, rfl⟩
      · cases e2
    · cases e2
  obtain ⟨a, b, S1, ea, em, rfl⟩ := key
  obtain ⟨v, ev, rv⟩ := E.env.var i _ ea hO
  refine ⟨v, ev, ω, ρ, _, S1, e1, E.ok, E.env, em, fun ω1 w l1 ok1 es1 r1 => ⟨a, b, DR.of_int rv, DR.of_int r1, ?_⟩⟩
  exact k ω1 _ ((E.le_ l1 ok1).set hO (u := .d (.int (f a b))) (DR.int _)) l1.F es1
theorem ms_augAdd {i : Nat} (c : Ctx Γ X) (hO : i ∉ O) (he : PE X e (T Γ O m true)) (hi : X.N[i]? = some x := by rfl) (hx : Loc X.env.scope x := by first | exact Or.inl rfl | exact Or.inr rfl)
    (hf : X.fn x = true ∨ X.env.scope.names.lookup x = some .local := by first | exact .inl rfl | exact .inr rfl) : PS X (.AugAssign (.Name x pos') .Add e pos) (TS_ Γ O (sAug (fun i j => i + j) i m)) := ms_aug c ip_add hO he hi hx hf
theorem ms_augSub {i : Nat} (c : Ctx Γ X) (hO : i ∉ O) (he : PE X e (T Γ O m true)) (hi : X.N[i]? = some x := by rfl) (hx : Loc X.env.scope x := by first | exact Or.inl rfl | exact Or.inr rfl)
    (hf : X.fn x = true ∨ X.env.scope.names.lookup x = some .local := by first | exact .inl rfl | exact .inr rfl) : PS X (.AugAssign (.Name x pos') .Sub e pos) (TS_ Γ O (sAug (fun i j => i - j) i m)) := ms_aug c ip_sub hO he hi hx hf
/-- -e of an int -/
def eNeg (a : Mean) : Mean := fun ρ S => match a ρ S with
  | some (.d (.int i), S1) => some (.d (.int (-i)), S1)
  | _ => none
theorem me_neg (ha : PE X e (T Γ O m true)) : PE X (.UnaryOp .USub e pos) (T Γ O (eNeg m) true) := PE.mono (pe_un un_neg ha) fun σ H Q ⟨ω, ρ, c, S', e1, ok, E, e2, k⟩ => by
  unfold eNeg at e2
  split at e2
  · rename_i i S1 em
    cases e2
    exact ⟨ω, ρ, _, _, e1, ok, E, em, fun ω1 v l1 ok1 es1 r1 => ⟨i, DR.of_int r1, k ω1 _ l1 ok1 es1 (DR.int (-i))⟩⟩
  · cases e2
end
end MP
set_option Elab.async false
set_option linter.all false
set_option maxRecDepth 20000
/-! Part 10: sorted of a list of data; isinstance; three names at once; pop then append; the place in a list; a module's tuple. -/
namespace MP
open PySem L2
open PySem.PyData (strOk)
open PySem.W (EachIs alike AllAlike Sortable dataLe)
def isT1 : D → Bool
  | .tuple (_ :: _) => true
  | _ => false
def notTN : D → Bool
  | .none => false
  | .tuple _ => false
  | _ => true
/-- the list can be sorted -/
def sortOk (ds : List D) : Bool := (ds.all fun d => ds.all fun e => alike d e) && (ds.all isT1 || ds.all notTN) && ds.all okD
def sortD (ds : List D) : List D := ds.mergeSort (dataLe false id)
theorem isT1_eq {d : D} (h : isT1 d = true) : ∃ x r, d = .tuple (x :: r) := by
  unfold isT1 at h
  split at h
  · exact ⟨_, _, rfl⟩
  · cases h
theorem notTN_eq {d : D} (h : notTN d = true) : d ≠ .none ∧ ∀ xs, d ≠ .tuple xs := by
  unfold notTN at h
  split at h
  · cases h
  · cases h
  · rename_i h1 h2; exact ⟨h1, h2⟩
theorem sortOk_use {ds : List D} (h : sortOk ds = true) : AllAlike ds ∧ Sortable ds ∧ ∀ d ∈ ds, d.depth ≤ 1500 := by
  unfold sortOk at h
  rw [Bool.and_eq_true, Bool.and_eq_true, Bool.or_eq_true] at h
  obtain ⟨⟨h1, h2⟩, h3⟩ := h
  refine ⟨fun d hd d' hd' => List.all_eq_true.mp (List.all_eq_true.mp h1 d hd) d' hd', ?_, fun d hd => of_decide_eq_true (List.all_eq_true.mp h3 d hd)⟩
  rcases h2 with h2 | h2
  · exact .inl fun d hd => isT1_eq (List.all_eq_true.mp h2 d hd)
  · exact .inr fun d hd => notTN_eq (List.all_eq_true.mp h2 d hd)
section
variable {Γ : Gam} {X : Cx} {O : List Nat}
theorem each_reads {K : PySem.W.Frag} {pins : List (Addr × Obj)} {σ : St} {F H : Hp} {s : Shared} (I : Inv X pins σ H s) (hK : K = X.K) (sF : Sub F H) : ∀ {ds : List D} {xs : List V} {its : List Value}, DRs K F xs ds → Vals xs its →
    EachIs (fun v b => ∃ x, RelV x v ∧ DR K F x b) its ds ∧ EachIs (fun v b => ∃ as, Reads s.heap v (id b) as) its ds := by
  intro ds
  induction ds with
  | nil =>
    intro xs its r q
    cases r
    cases q
    exact ⟨EachIs.nil, EachIs.nil⟩
  | cons d ds ih =>
    intro xs its r q
    obtain ⟨y, ys, rfl, h, k⟩ := r.of_cons
    cases q with
    | cons rv rvs =>
      obtain ⟨i1, i2⟩ := ih k rvs
      subst hK
      exact ⟨EachIs.cons ⟨y, rv, h⟩ i1, EachIs.cons (Dp.reads I d y _ (h.sub sF).dp rv) i2⟩
theorem each_back {K : PySem.W.Frag} {F : Hp} : ∀ {ds : List D} {its : List Value}, EachIs (fun v b => ∃ x, RelV x v ∧ DR K F x b) its ds → ∃ xs, Vals xs its ∧ DRs K F xs ds
  | _, _, EachIs.nil => ⟨[], Paired.nil, DRs.nil⟩
  | _, _, EachIs.cons ⟨x, h, k⟩ t => by
    obtain ⟨xs, h2, k2⟩ := each_back t
    exact ⟨x :: xs, Paired.cons h h2, DRs.cons k k2⟩
def rSortD (K : PySem.W.Frag) : List V → Hp → VK → Prop := fun vs H Q => ∃ (F : Hp) (a : Addr) (xs : List V) (ds : List D), vs = [V.ref a] ∧ SqL K H a xs ∧ Sub F H ∧ DRs K F xs ds ∧ sortOk ds = true ∧
  ∀ (ys : List V) (p : Addr), DRs K F ys (sortD ds) → H p = none → Q (.ref p) (L2.upd H p (.lst ys))
theorem cr_sortD (c : Ctx Γ X) : CallR X (.builtin "sorted") (rSortD X.K) := by
  intro pins s σ H vs us Q I r h
  obtain ⟨F, a, xs, ds, rfl, hs, sF, hd, hok, q⟩ := h
  obtain ⟨its, rv, hl, hz⟩ := I.list hs
  rw [Vals.ref1 r]
  obtain ⟨e1, e2⟩ := each_reads I rfl sF hd rv
  obtain ⟨s1, s2, s3⟩ := sortOk_use hok
  have hlen : ds.length ≤ sizeLine := by rw [← hd.length]; exact hz
  have hm : ds.map id = ds := List.map_id ds
  refine PySem.W.sorted_data (enc := id) hl.isList e1 e2 (by rw [hm]; exact s1) (by rw [hm]; exact s2) hlen (fun b hb => ?_) fun out ho eo => ?_
  · have := s3 b hb
    have := c.units
    show X.A.units + 2 + (id b).depth < cLine
    simp only [id]
    omega
  · obtain ⟨ys, rv2, dr⟩ := each_back eo
    obtain ⟨ep, he⟩ := PyProof.Rows.sortedAll_at s.heap its (List.toArray out)
    have hyl : ys.length ≤ sizeLine := by rw [rv2.length, ho]; exact hlen
    exact ⟨.ref _, L2.upd H (s.heap.objs.size + 1) (.lst ys), I.laid (t' := s.toks) (fun _ _ => PyProof.Rows.sortedAll_old) (Nat.le_succ _) ⟨hyl, out, ep, rv2, he⟩, rfl, q ys _ dr (I.hok.fresh (Nat.le_succ _))⟩
def opSorted : Val → Option D
  | .d (.list ds) => if sortOk ds then some (.list (sortD ds)) else none
  | _ => none
theorem sv_sorted (c : Ctx Γ X) : Serves1 Γ (rSortD X.K) opSorted := fun ω x u z Q ok r h q => by
  cases u with
  | obj n => cases h
  | scr ns => cases h
  | d y =>
    cases y with
    | list ds =>
      simp only [opSorted] at h
      split at h
      · rename_i hok
        cases h
        obtain ⟨p, vs, rfl, e, d⟩ := DT.list ok r
        rw [← c.hK]
        exact ⟨ω.F, p, vs, ds, rfl, .of e, ok.sub, d, hok, fun ys p2 dr hp => new_list ok dr q hp⟩
      · cases h
    | _ => cases h
variable {a b e : Expr} {ma mb m : Mean} {c1 : Bool} {p pos pos' px : Pos} {x : Str}
theorem me_sorted (c : Ctx Γ X) (hg : Gl X "sorted") (ha : PE X a (T Γ O ma c1)) (na : starEach [a] X.env = (false, eval a X.env) :: starEach [] X.env := by rfl) : PE X (.Call (.Name "sorted" p) [a] [] pos) (T Γ O (eU opSorted ma) true) :=
  me_b1 (cr_sortD c) (sv_sorted c) c.b_sorted (by decide +kernel) hg ha (by decide) (by decide) na
/-! ### isinstance -/
def tyD : D → String
  | .none => "NoneType"
  | .bool _ => "bool"
  | .int _ => "int"
  | .str _ => "str"
  | .list _ => "list"
  | .tuple _ => "tuple"
  | .dict _ => "dict"
def isiT (a t : String) : Bool := a == t || (a == "bool" && t == "int")
def isiD (d : D) (t : String) : Bool := isiT (tyD d) t
def eIsi (t : String) (a : Mean) : Mean := fun ρ S => match a ρ S with
  | some (.d x, S1) => some (.d (.bool (isiD x t)), S1)
  | _ => none
/-- a class that isinstance asks about -/
def KitT (t : String) : Prop := ∀ a ∈ ["NoneType", "bool", "int", "str", "list", "tuple"], kitB a t = some (isiT a t)
theorem kitT_tuple : KitT "tuple" := by unfold KitT; decide +kernel
theorem kitT_list : KitT "list" := by unfold KitT; decide +kernel
theorem kitT_bool : KitT "bool" := by unfold KitT; decide +kernel
theorem kitT_int : KitT "int" := by unfold KitT; decide +kernel
theorem kitT_str : KitT "str" := by unfold KitT; decide +kernel
theorem tyD_in {d : D} (h : ∀ kvs, d ≠ .dict kvs) : tyD d ∈ ["NoneType", "bool", "int", "str", "list", "tuple"] := by
  cases d <;> first | exact absurd rfl (h _) | simp [tyD]
theorem tyx_seqT {H : Hp} {K : PySem.W.Frag} {a : Addr} {xs : List V} (h : SqT K H a xs) : TyX K H (.ref a) (.type "tuple") := by
  rcases h with (h | ⟨o, h⟩) | ⟨o, its, n, h, hc, _⟩
  · exact .base (.tup h)
  · exact .fTuple h
  · exact .kTuple h hc
theorem DR.tyx {K : PySem.W.Frag} {H : Hp} {v : V} {d : D} (h : DR K H v d) : TyX K H v (.type (tyD d)) := by
  cases h with
  | non => exact .base .non
  | bl b => exact .base (.bl b)
  | int i => exact .base (.int i)
  | str k => exact .base (.str _)
  | lst h _ => exact .base (.lst h)
  | tup h _ => exact tyx_seqT h
theorem me_isi {t : String} {y : Str} {py : Pos} (c : Ctx Γ X) (kt : KitT t) (hg : Gl X "isinstance") (hgt : Gl X y) (hmt : X.mg y = none) (hbt : bootBuiltins y = some (.type t)) (ha : PE X a (T Γ O ma c1)) (hn : y ≠ "__name__" := by decide) (hd : (y == ("__debug__" : Str)) = false := by decide)
    (n1 : starEach [a, .Name y py] X.env = (false, eval a X.env) :: starEach [.Name y py] X.env := by rfl) (n2 : starEach [.Name y py] X.env = (false, eval (.Name y py) X.env) :: starEach [] X.env := by rfl)
    (hpl : (backTo pos (starEach [.Name y py] X.env)).any (·.1) = false := by rfl) : PE X (.Call (.Name "isinstance" p) [a, .Name y py] [] pos) (T Γ O (eIsi t ma) true) :=
  PE.mono (pe_callB call_isi hg c.b_isi (by decide +kernel) (pa_cons (PM.weak ha) (pa_cons (pe_bltn (v := .ty t) hgt hmt hbt rfl hn hd) pa_nil n2) n1) (by decide) (by decide) n1 hpl) fun σ H Q ⟨ω, ρ, w, S', e1, ok, E, e2, k⟩ => by
  unfold eIsi at e2
  split at e2
  · rename_i d S1 em
    cases e2
    refine ⟨ω, ρ, _, _, e1, ok, E, em, fun ω1 v l1 ok1 es1 r1 => ?_⟩
    have r2 : DR Γ.K ω1.H v d := DT.inH ok1 r1
    refine ⟨v, .ty t, _, .type t, isiD d t, rfl, .ty t, ?_, kit_ty (kt _ (tyD_in fun kvs z => by subst z; exact r2.no_dict)), k ω1 _ l1 ok1 es1 (DR.bl _)⟩
    rw [← c.hK]
    exact r2.tyx
  · cases e2
/-! ### a, b, c = x, y, z -/
theorem ms_par3 {i j l : Nat} {x y z : Str} {d : Expr} {ms : Means} {px py pz pt : Pos} {kt k2 : Nat} {pt2 : Pos} (c : Ctx Γ X) (hO : ∀ k ∈ [i, j, l], k ∉ O) (hij : i ≠ j) (hil : i ≠ l) (hjl : j ≠ l) (ha : PA X [a, b, d] (TAs Γ O ms)) (hl : aLen [a, b, d] ms)
    (hi : X.N[i]? = some x := by rfl) (hj : X.N[j]? = some y := by rfl) (hk : X.N[l]? = some z := by rfl)
    (hx : X.env.scope.names.lookup x = some .local := by rfl) (hy : X.env.scope.names.lookup y = some .local := by rfl) (hz : X.env.scope.names.lookup z = some .local := by rfl)
    (hw : swappedStores [.Tuple [.Name x px, .Name y py, .Name z pz] kt pt] (.Tuple [a, b, d] k2 pt2) X.env = pure (some [x, y, z]) := by rfl)
    (hs : swapsWithSole [.Tuple [.Name x px, .Name y py, .Name z pz] kt pt] (.Tuple [a, b, d] k2 pt2) pos.line X.env = pure false := by rfl) :
    PS X (.Assign [.Tuple [.Name x px, .Name y py, .Name z pz] kt pt] (.Tuple [a, b, d] k2 pt2) pos) (TS_ Γ O (sPar [i, j, l] ms)) := PS.mono (L2.ps_par3 c.calm c.nd hi hj hk hij hil hjl hx hy hz ha hw hs) fun D σ H ⟨ω₀, ω, ρ, r, e1, E, e2, k⟩ => by
  unfold sPar at e2
  split at e2
  · rename_i us S1 em
    split at e2
    · rename_i hlen
      cases e2
      refine ⟨ω, ρ, us, S1, e1, E.ok, E.env, em, fun ω' vs l' ok' es r' => ?_⟩
      have hvl : vs.length = 3 := by rw [r'.length]; exact hlen
      obtain ⟨v, w, u, rfl⟩ : ∃ v w u, vs = [v, w, u] := by
        match vs, hvl with
        | [v, w, u], _ => exact ⟨v, w, u, rfl⟩
      refine ⟨v, w, u, rfl, ?_⟩
      exact k ω' _ ((E.le_ l' ok').setAll hO r') l'.F es
    · cases e2
  · cases e2
/-! ### own.append(other.pop(e)) -/
def sPopApp (i j : Nat) (m : Mean) : SMean := fun ρ S => match m ρ S with
  | some (.d (.int n), S1) => match ρ.getD i none, ρ.getD j none with
    | some (.d (.list ds)), some (.d (.list es)) => if ds.length < 1000000 then
        (if es.length ≤ 1000000 then (match ixN es.length n with
          | some k => match es[k]? with
            | some d => some (.nx ((ρ.set j (some (.d (.list (es.eraseIdx k))))).set i (some (.d (.list (ds ++ [d]))))) S1)
            | none => none
          | none => none) else none) else none
    | _, _ => none
  | _ => none
end
end MP
set_option Elab.async false
set_option linter.all false
set_option maxRecDepth 20000
/-! Part 11: own.append(other.pop(e)); the place in a list; a module's tuple. -/
namespace MP
open PySem L2
open PySem.PyData (strOk)
section
variable {Γ : Gam} {X : Cx} {O : List Nat}
variable {a b e : Expr} {ma mb m : Mean} {c1 c2 : Bool} {p pos pos' px apos cpos : Pos} {x : Str}
theorem sPopApp_some {i j : Nat} {ρ : Env} {S : Store} {r : Out} (h : sPopApp i j m ρ S = some r) : ∃ n S1 ds es k d, m ρ S = some (.d (.int n), S1) ∧ ρ[i]? = some (some (.d (.list ds))) ∧ ρ[j]? = some (some (.d (.list es))) ∧ ds.length < 1000000 ∧ es.length ≤ 1000000 ∧ ixN es.length n = some k ∧ es[k]? = some d ∧
    r = .nx ((ρ.set j (some (.d (.list (es.eraseIdx k))))).set i (some (.d (.list (ds ++ [d]))))) S1 := by
  unfold sPopApp at h
  split at h
  · rename_i n S1 e1
    split at h
    · rename_i ds es e2 e3
      split at h
      · rename_i e4
        split at h
        · rename_i e5
          split at h
          · rename_i k e6
            split at h
            · rename_i d e7
              cases h
              exact ⟨n, S1, ds, es, k, d, e1, getD_some e2, getD_some e3, e4, e5, e6, e7, rfl⟩
            · cases h
          · cases h
        · cases h
      · cases h
    · cases h
  · cases h
theorem ms_popApp {i j : Nat} {y : Str} {py ap2 cp2 : Pos} (c : Ctx Γ X) (hij : i ≠ j) (hi : i ∈ O) (hj : j ∈ O) (pv : PE X (.Name x px) (tVar i)) (pw : PE X (.Name y py) (tVar j)) (he : PE X e (T Γ O m true))
    (hs : swapsWith (.Call (.Attribute (.Name x px) "append" apos) [.Call (.Attribute (.Name y py) "pop" ap2) [e] [] cp2] [] cpos) none pos.line X.env = pure false := by rfl)
    (hbase : attributeBase (.Name x px) "append" X.env (eval (.Name x px) X.env) = eval (.Name x px) X.env := by rfl)
    (hfew : ((backTo cpos (starEach [.Call (.Attribute (.Name y py) "pop" ap2) [e] [] cp2] X.env)).all (fun x => !x.1) && (backToKw cpos (keywordEach [] X.env)).all (fun x => x.1.isSome)
      && decide ([Expr.Call (.Attribute (.Name y py) "pop" ap2) [e] [] cp2].length + ([] : List Keyword).length + (if ([] : List Keyword).isEmpty then 0 else 1) < 30)) = true := by rfl)
    (hline : (apos.endLine == cpos.line) = true := by rfl) (hst : starEach [.Call (.Attribute (.Name y py) "pop" ap2) [e] [] cp2] X.env = (false, eval (.Call (.Attribute (.Name y py) "pop" ap2) [e] [] cp2) X.env) :: starEach [] X.env := by rfl)
    (hplain : (backTo cpos (starEach [] X.env)).any (·.1) = false := by rfl)
    (kbase : attributeBase (.Name y py) "pop" X.env (eval (.Name y py) X.env) = eval (.Name y py) X.env := by rfl)
    (kfew : ((backTo cp2 (starEach [e] X.env)).all (fun x => !x.1) && (backToKw cp2 (keywordEach [] X.env)).all (fun x => x.1.isSome)
      && decide ([e].length + ([] : List Keyword).length + (if ([] : List Keyword).isEmpty then 0 else 1) < 30)) = true := by rfl)
    (kline : (ap2.endLine == cp2.line) = true := by rfl) (kst : starEach [e] X.env = (false, eval e X.env) :: starEach [] X.env := by rfl) (kplain : (backTo cp2 (starEach [] X.env)).any (·.1) = false := by rfl) :
    PS X (.Expr (.Call (.Attribute (.Name x px) "append" apos) [.Call (.Attribute (.Name y py) "pop" ap2) [e] [] cp2] [] cpos) pos) (TS_ Γ O (sPopApp i j m)) :=
  PS.mono (ps_expr (pe_bm PySem.F.plainAttrs_list PySem.F.slot_list_append PySem.F.type_list_append mt_append pv
    (pa_cons (pe_bm PySem.F.plainAttrs_list PySem.F.slot_list_pop PySem.F.type_list_pop mt_popAt pw (pa_cons he pa_nil kst) kbase kfew kline kst kplain) pa_nil hst) hbase hfew hline hst hplain) hs) fun D σ H ⟨ω₀, ω, ρ, r, e1, E, e2, k⟩ => by
  obtain ⟨n, S1, ds, es, kk, d, em, ei, ej, hz, hsm, hix, hd, rfl⟩ := sPopApp_some e2
  obtain ⟨p, xs, ds', eu, es1, hH, dr, hF, hφ⟩ := E.env.own i _ ei hi
  cases eu
  obtain ⟨q, ys, es', eu, es2, hH2, dr2, hF2, hφ2⟩ := E.env.own j _ ej hj
  cases eu
  have hne : q ≠ p := fun z => by
    subst z
    exact E.env.apart i j _ _ q hi hj hij ei ej es1 es2
  subst e1
  refine ⟨.ref p, es1, .inl ⟨rfl, _, SqL.of hH⟩, .ref q, es2, .inl ⟨rfl, _, SqL.of hH2⟩, ω, ρ, _, S1, rfl, E.ok, E.env, em, fun ω' v l ok' es3 r' => ?_⟩
  obtain ⟨hs1, hs2, hs3, hs4⟩ := ixN_seq hix
  have g1 := l.H p _ hH hφ
  have g2 := l.H q _ hH2 hφ2
  have dr' := dr.sub l.F
  have dr2' := dr2.sub l.F
  obtain ⟨w, hw, rw'⟩ := dr2'.get hd
  have E1 := (E.le_ l ok').upd hj ej es2 (dr2'.eraseIdx kk)
  have hlen : ys.length = es.length := dr2.length
  refine ⟨q, ys, n, kk, w, rfl, ?_, g2, ?_, ?_, by rw [hlen]; exact hs1, hw, ?_⟩
  · rw [show v = .int n from DR.of_int r']
  · have : (2:Int)^63 = 9223372036854775808 := by decide
    omega
  · have : (2:Int)^63 = 9223372036854775808 := by decide
    omega
  · refine ⟨p, xs, w, rfl, rfl, by rw [upd_ne (Ne.symm hne)]; exact g1, by rw [dr.length, sizeLine_eq]; omega, ?_⟩
    have ei' : (ρ.set j (some (Val.d (.list (es.eraseIdx kk)))))[i]? = some (some (.d (.list ds))) := by rw [List.getElem?_set_ne (Ne.symm hij)]; exact ei
    exact k _ σ (E1.upd hi ei' es1 (dr'.append (.cons rw' .nil))) l.F es3
/-! ### own.index(e) -/
def eIndex (a b : Mean) : Mean := fun ρ S => match a ρ S with
  | some (.d (.list ds), S1) => match b ρ S1 with
    | some (.d d, S2) => if (PyData.list ds).depth ≤ 64 ∧ d.depth ≤ 64 then (ds.findIdx? fun z => PyData.eqv z d).map fun j => (.d (.int (j : Nat)), S2) else none
    | _ => none
  | _ => none
theorem me_index {ap2 cp2 : Pos} {o : Expr} (c : Ctx Γ X) (ho : PE X o (T Γ O ma c1)) (he : PE X e (T Γ O mb c2))
    (kbase : attributeBase o "index" X.env (eval o X.env) = eval o X.env := by rfl)
    (kfew : ((backTo cp2 (starEach [e] X.env)).all (fun x => !x.1) && (backToKw cp2 (keywordEach [] X.env)).all (fun x => x.1.isSome)
      && decide ([e].length + ([] : List Keyword).length + (if ([] : List Keyword).isEmpty then 0 else 1) < 30)) = true := by rfl)
    (kline : (ap2.endLine == cp2.line) = true := by rfl) (kst : starEach [e] X.env = (false, eval e X.env) :: starEach [] X.env := by rfl) (kplain : (backTo cp2 (starEach [] X.env)).any (·.1) = false := by rfl) :
    PE X (.Call (.Attribute o "index" ap2) [e] [] cp2) (T Γ O (eIndex ma mb) true) :=
  PE.mono (pe_bm PySem.F.plainAttrs_list PySem.F.slot_list_index PySem.F.type_list_index (mt_indexD (by have := c.units; omega)) (PM.weak ho) (pa_cons (PM.weak he) pa_nil kst) kbase kfew kline kst kplain) fun σ H Q ⟨ω, ρ, w, S', e1, ok, E, e2, k⟩ => by
  unfold eIndex at e2
  split at e2
  · rename_i ds S1 ea
    split at e2
    · rename_i d S2 eb
      split at e2
      · rename_i hdp
        cases ei : ds.findIdx? (fun z => PyData.eqv z d) with
        | none => rw [ei] at e2; cases e2
        | some j =>
          rw [ei] at e2
          cases e2
          refine ⟨ω, ρ, _, S1, e1, ok, E, ea, fun ω1 v1 l1 ok1 es1 r1 => ?_⟩
          obtain ⟨q, vs, rfl, hH, dr⟩ := DT.list ok1 r1
          refine ⟨.inl ⟨rfl, _, SqL.of hH⟩, ω1, ρ, _, S', rfl, ok1, E.le l1, by rw [es1]; exact eb, fun ω2 v2 l2 ok2 es2 r2 => ?_⟩
          have R1 : DR Γ.K ω2.H (.ref q) (.list ds) := DT.inH ok2 (DT.le l2 r1)
          have R2 : DR Γ.K ω2.H v2 d := DT.inH ok2 r2
          obtain ⟨hlt, hp, hno⟩ := List.findIdx?_eq_some_iff_getElem.mp ei
          rw [← c.hK]
          refine ⟨q, v2, d, ds, j, ds[j], rfl, rfl, R1.dp, R2.dp, ?_, ?_, List.getElem?_eq_getElem hlt, hp, fun m z hm hz => ?_, k ω2 _ (l1.trans l2) ok2 es2 (DR.int _)⟩
          · show (_ && _) = true
            rw [R1.can, decide_eq_true hdp.1]; rfl
          · show (_ && _) = true
            rw [R2.can, decide_eq_true hdp.2]; rfl
          · have := hno m hm
            obtain ⟨h1, h2⟩ := List.getElem?_eq_some_iff.mp hz
            rw [h2] at this
            simpa using this
      · cases e2
    · cases e2
  · cases e2
/-! ### a module's data -/
theorem me_glob {u : Value} {v : V} {d : D} (hg : Gl X x) (hm : X.mg x = some u) (r : RelV v u) (hD : ∀ F, DR Γ.K F v d) (hd : (x == ("__debug__" : Str)) = false := by decide) : PE X (.Name x pos) (T Γ O (eC d) true) :=
  PE.mono (pe_glob (v := v) hg hm r hd) fun σ H Q ⟨ω, ρ, w, S', e1, ok, E, e2, k⟩ => by
  cases e2
  subst e1
  exact k ω v (Le.refl ω) ok rfl (hD _)
end
end MP
set_option Elab.async false
set_option linter.all false
set_option maxRecDepth 100000
set_option maxHeartbeats 4000000
/-! Part 12: sorted(set(xs)) of a list of ints. -/
namespace MP
open PySem PySem.Calls PySem.Spec PyProof.Rows L2
section
variable {P : Program} {w : World} {A : Around} {E : Value → Shared → Prop} {s : Shared}
def set0 (w : World) : Obj := { cls := .type "set", dict := none, data := .set #[] 0 (.fresh 0 0 (!w.params.followText "set-order")) }
/-- the list's items are put into the new set at q -/
theorem init_set_list {l q : Addr} {vs : Array Value} {ns : List Int} {s1 : Shared} {R : Result → Shared → Prop} (hH : A.handled = none) (hq : s1.heap.get? q = some (set0 w)) (hlist : s1.heap.IsList l vs) (hql : q ≠ l) (hints : IntsAre vs.toList ns) (hbnd : ns.length + 1 < scanBound)
    (done : ∀ (h2 : Heap) (tk c : Nat), SetR w h2 q (fun j => decide (j ∈ ns)) c → c ≤ ns.length → (∀ b o, b ≠ q → s1.heap.get? b = some o → h2.get? b = some o) → R (.ok (.ret .none)) { s1 with heap := h2, toks := tk }) :
    wpAny (model P w) A.in1 (Builtin.«set.__init__» ⟨[.ref q, .ref l], []⟩)
      (fun fin s2 => match fin with | .done f => R (.ok f) s2 | .again c => c.quiet = true ∧ codeAny (model P w) A c R s2) (fun e s2 => R (.error e) s2) s1 := by
  have hvn : vs.size = ns.length := (Array.length_toList (xs := vs)).symm.trans (IntsAre.length hints)
  have hlt : l < s1.heap.objs.size := by obtain ⟨o, ho, _⟩ := hlist; exact Heap.lt_size ho
  have hqt : q < s1.heap.objs.size := Heap.lt_size hq
  obtain ⟨⟨k1, k2, k3, k4⟩, ho, hk, n, hdt⟩ := hlist
  simp only at hk hdt
  subst hk hdt
  have isL : s1.heap.IsList l vs := ⟨_, ho, rfl, n, rfl⟩
  have u1 := F.sub_list_set
  have u2 := F.sub_list_frozenset
  have u3 : (Value.type "list" == Value.type "dict") = false := by decide
  have tq : s1.TypeIs (.ref q) "set" := ⟨_, hq, rfl⟩
  have hq' := hq
  unfold set0 at hq'
  unfold Builtin.«set.__init__» noKeywords Builtin.Frozenset.updateFrom
  generalize hgen : pyIter = G
  wp_walk
  subst hgen
  refine wpAny_pyIter_list isL (wpAny_bind (wpAny_runValue ?_))
  have in3 : A.in1.in1.handled = none := by simp [hH]
  have gl : l ≠ s1.heap.objs.size := Nat.ne_of_lt hlt
  have gq : q ∉ [s1.heap.objs.size, l] := by
    intro z
    rcases List.mem_cons.mp z with e | e
    · exact absurd e (Nat.ne_of_lt hqt)
    · exact hql (List.mem_singleton.mp e)
  have got : ∀ (i : Nat) (v : Value), vs[i]? = some v → ∃ k t, ns[i]? = some k ∧ v = .int k t := fun i v hv => by
    have hi : i < ns.length := hvn ▸ (Array.getElem?_eq_some_iff.mp hv).1
    obtain ⟨t, e⟩ := PyProof.Rows.IntsAre.int_at hints i v (by rw [Array.getElem?_toList]; exact hv)
    exact ⟨ns[i], t, List.getElem?_eq_getElem hi, by rw [e, List.getD_eq_getElem?_getD, List.getElem?_eq_getElem hi]; rfl⟩
  have sq : (s1.heap.push { cls := .type "list_iterator", data := .fields #[.ref l, .int 0 0] }).get? q = some (set0 w) := Heap.get?_push_of_some _ hq
  refine set_update_ints ((Walks.list in3 _ l gl vs).toS) q gq ns hvn hbnd got (vs.size - 0) 0 _ (by omega) (Nat.zero_le _) ⟨⟨_, Heap.get?_push_size _ rfl, rfl, rfl⟩, isL.push _⟩ ⟨0, Nat.le_refl 0, setR_new_at sq⟩ fun s3 c mv hc hS => ?_
  obtain ⟨h3, g3, d3, t3, o3⟩ := s3
  obtain rfl : g3 = s1.gens := mv.gens
  obtain rfl : d3 = s1.drawn := mv.drawn
  obtain rfl : o3 = s1.os := mv.os
  show wpAny _ _ _ _ _ _
  refine wpAny_pure ?_
  show wpAny _ _ (ret Value.none) _ _ _
  rw [hvn] at hc
  refine wpAny_pure (done h3 t3 c hS hc fun b o hb e => ?_)
  refine mv.heap b o (fun z => ?_) (Heap.get?_push_of_some _ e)
  rcases List.mem_cons.mp z with e2 | e2
  · exact hb e2
  · exact absurd (List.mem_singleton.mp e2) (Nat.ne_of_lt (Heap.lt_size e))
/-- set(xs) -/
theorem call_set_listR {l : Addr} {vs : Array Value} {ns : List Int} {Q : Value → Shared → Prop} (hH : A.handled = none) (hlist : s.heap.IsList l vs) (hints : IntsAre vs.toList ns) (hbnd : ns.length + 1 < scanBound)
    (fin : ∀ (h2 : Heap) (tk c : Nat), SetR w h2 s.heap.objs.size (fun j => decide (j ∈ ns)) c → c ≤ ns.length → (∀ b o, s.heap.get? b = some o → h2.get? b = some o) → Q (.ref s.heap.objs.size) { s with heap := h2, toks := tk }) :
    wpAny (model P w) A (call (.type "set") [.ref l]) Q E s := by
  have hlt : l < s.heap.objs.size := by obtain ⟨o, ho, _⟩ := hlist; exact Heap.lt_size ho
  obtain ⟨mc, mt, m1⟩ := F.called_set.mro
  have m2 := F.called_set.made
  have m3 := F.called_set.sub
  have m4 := F.called_set.notType
  have m5 := F.called_set.canCreate
  have m6 := F.typeCall_set_1 (.ref l)
  refine wpAny_call (codeAny_of_tree ?_)
  show wpAny _ _ (callAny (.type "set") _) _ _ _
  refine wpAny_pure ⟨Code.quiet_builtin _ (by decide +kernel), codeAny_builtin F.entry_type_call ?_⟩
  rw [Around.under_plain (weight_type_call_type "set" [.ref l] []) rfl]
  repeat (any_goals (first | assumption | wp_step))
  refine codeAny_mono (code_set_led1 (.ref l) (E := E) (Q₁ := fun v t => v = .ref s.heap.objs.size ∧ t = { s with heap := s.heap.push (set0 w) }) ⟨rfl, rfl⟩) fun r t hr => ?_
  cases r with
  | error e => exact hr
  | ok fl =>
    cases fl with
    | ret v =>
      obtain ⟨rfl, rfl⟩ := hr
      have q1 : (s.heap.push (set0 w)).get? s.heap.objs.size = some (set0 w) := Heap.get?_push_size _ rfl
      have q2 : Shared.TypeIs { s with heap := s.heap.push (set0 w) } (.ref s.heap.objs.size) "set" := ⟨_, q1, rfl⟩
      have q3 := F.called_set.init.lookup
      have q4 := F.called_set.init.bind (.ref s.heap.objs.size)
      repeat (any_goals (first | assumption | wp_step))
      refine codeAny_mono (codeAny_call_builtin (R := wants (fun v t => v = .none ∧ ∃ h2 tk c, t = { s with heap := h2, toks := tk } ∧ SetR w h2 s.heap.objs.size (fun j => decide (j ∈ ns)) c ∧ c ≤ ns.length ∧ (∀ b o, s.heap.get? b = some o → h2.get? b = some o)) E)
        F.called_set.init.plain F.entry_set_init (check_set_init_1 q2 ?_)) fun r2 t2 hr2 => ?_
      · refine init_set_list (s1 := { s with heap := s.heap.push (set0 w) }) (A := A.in1) (by simp [hH]) q1 (hlist.push _) (Nat.ne_of_gt hlt) hints hbnd fun h2 tk c hS hc hk => ?_
        exact ⟨rfl, h2, tk, c, rfl, hS, hc, fun b o e => hk b o (Nat.ne_of_lt (Heap.lt_size e)) (Heap.get?_push_of_some _ e)⟩
      · cases r2 with
        | error e => exact hr2
        | ok f2 =>
          cases f2 with
          | ret v2 =>
            obtain ⟨rfl, h2, tk, c, rfl, hS, hc, hk⟩ := hr2
            repeat (any_goals (first | assumption | wp_step))
            exact fin _ _ _ hS hc hk
          | _ => exact hr2.elim
    | _ => exact hr.elim
end
end MP
set_option Elab.async false
set_option linter.all false
set_option maxRecDepth 20000
/-! Part 13: sorted(set(xs)), the rule. -/
namespace MP
open PySem L2
open PySem.PyData (strOk)
/-- x among the rising xs -/
def insI (x : Int) : List Int → List Int
  | [] => [x]
  | y :: ys => if x < y then x :: y :: ys else if x = y then y :: ys else y :: insI x ys
def setI : List Int → List Int
  | [] => []
  | x :: xs => insI x (setI xs)
theorem insI_mem {x k : Int} : ∀ {ys : List Int}, k ∈ insI x ys ↔ k = x ∨ k ∈ ys
  | [] => by simp [insI]
  | y :: ys => by
    unfold insI
    split
    · simp
    · split
      · rename_i h1 h2; subst h2; simp
      · rw [List.mem_cons, insI_mem, List.mem_cons]
        constructor
        · rintro (h | h | h)
          · exact .inr (.inl h)
          · exact .inl h
          · exact .inr (.inr h)
        · rintro (h | h | h)
          · exact .inr (.inl h)
          · exact .inl h
          · exact .inr (.inr h)
theorem insI_up {x : Int} : ∀ {ys : List Int}, ys.Pairwise (· < ·) → (insI x ys).Pairwise (· < ·)
  | [], _ => by simp [insI]
  | y :: ys, h => by
    have h' := List.pairwise_cons.mp h
    unfold insI
    split
    · rename_i h1
      exact List.pairwise_cons.mpr ⟨fun z hz => by
        rcases List.mem_cons.mp hz with e | e
        · omega
        · have := h'.1 z e; omega, h⟩
    · split
      · exact h
      · rename_i h1 h2
        refine List.pairwise_cons.mpr ⟨fun z hz => ?_, insI_up h'.2⟩
        rcases insI_mem.mp hz with e | e
        · omega
        · exact h'.1 z e
theorem setI_mem {k : Int} : ∀ {xs : List Int}, k ∈ setI xs ↔ k ∈ xs
  | [] => by simp [setI]
  | x :: xs => by rw [setI, insI_mem, setI_mem, List.mem_cons]
theorem setI_up : ∀ (xs : List Int), (setI xs).Pairwise (· < ·)
  | [] => by simp [setI]
  | x :: xs => insI_up (setI_up xs)
theorem up_uniq : ∀ {xs ys : List Int}, xs.Pairwise (· < ·) → ys.Pairwise (· < ·) → (∀ k, k ∈ xs ↔ k ∈ ys) → xs = ys
  | [], [], _, _, _ => rfl
  | [], y :: ys, _, _, h => absurd ((h y).mpr List.mem_cons_self) (by simp)
  | x :: xs, [], _, _, h => absurd ((h x).mp List.mem_cons_self) (by simp)
  | x :: xs, y :: ys, h1, h2, h => by
    have p1 := List.pairwise_cons.mp h1
    have p2 := List.pairwise_cons.mp h2
    have e : x = y := by
      have a := (h x).mp List.mem_cons_self
      have b := (h y).mpr List.mem_cons_self
      rcases List.mem_cons.mp a with a | a
      · exact a
      · rcases List.mem_cons.mp b with b | b
        · exact b.symm
        · have := p2.1 x a
          have := p1.1 y b
          omega
    subst e
    rw [up_uniq p1.2 p2.2 fun k => ?_]
    constructor
    · intro hk
      have := p1.1 k hk
      rcases List.mem_cons.mp ((h k).mp (List.mem_cons_of_mem _ hk)) with e | e
      · omega
      · exact e
    · intro hk
      have := p2.1 k hk
      rcases List.mem_cons.mp ((h k).mpr (List.mem_cons_of_mem _ hk)) with e | e
      · omega
      · exact e
section
variable {Γ : Gam} {X : Cx} {O : List Nat}
def rSetOfL (K : PySem.W.Frag) (w : World) : List V → Hp → VK → Prop := fun vs H Q => ∃ (a : Addr) (ns : List Int), vs = [V.ref a] ∧ SqL K H a (ns.map V.int) ∧ ns.length < 64 ∧
  ∀ (p : Addr) (c : Nat), H p = none → c ≤ ns.length → Q (.ref p) (L2.upd H p (SetO w p (fun j => decide (j ∈ ns)) c))
theorem cr_setOfL (hc : X.calm = true) : CallR X (.type "set") (rSetOfL X.K X.w) := by
  intro pins s σ H vs us Q I r h
  obtain ⟨a, ns, rfl, hs, h64, q⟩ := h
  obtain ⟨its, rv, hl, hz⟩ := I.list hs
  rw [Vals.ref1 r]
  refine call_set_listR (I.ok.hd hc) hl.isList (ns := ns) (by simpa using rv.ints) (by unfold scanBound; omega) fun h2 tk c R hcn hk => ?_
  exact ⟨.ref _, L2.upd H s.heap.objs.size (SetO X.w s.heap.objs.size (fun j => decide (j ∈ ns)) c), I.laid (t' := tk) hk (Nat.le_refl _) (setO_new R), rfl, q _ c (I.hok.fresh (Nat.le_refl _)) hcn⟩
def eSortSet (a : Mean) : Mean := fun ρ S => match a ρ S with
  | some (.d (.list ds), S1) => match intsD ds with
    | some is => if is.length < 64 then some (.d (.list ((setI is).map PyData.int)), S1) else none
    | none => none
  | _ => none
variable {a : Expr} {ma : Mean} {c1 : Bool} {p p2 pos pos2 : Pos}
theorem me_sortSet (c : Ctx Γ X) (hg : Gl X "sorted") (hg2 : Gl X "set") (ha : PE X a (T Γ O ma c1)) (na : starEach [a] X.env = (false, eval a X.env) :: starEach [] X.env := by rfl)
    (nb : starEach [.Call (.Name "set" p2) [a] [] pos2] X.env = (false, eval (.Call (.Name "set" p2) [a] [] pos2) X.env) :: starEach [] X.env := by rfl)
    (hpl : (backTo pos (starEach [] X.env)).any (·.1) = false := by rfl) (hpl2 : (backTo pos2 (starEach [] X.env)).any (·.1) = false := by rfl) :
    PE X (.Call (.Name "sorted" p) [.Call (.Name "set" p2) [a] [] pos2] [] pos) (T Γ O (eSortSet ma) true) :=
  PE.mono (pe_callB (cr_sortedSet c.calm) hg c.b_sorted (by decide +kernel) (pa_cons (pe_callTy (cr_setOfL c.calm) hg2 c.b_set (by decide +kernel) (pa_cons (PM.weak ha) pa_nil na) (by decide) (by decide) na hpl2) pa_nil nb) (by decide) (by decide) nb hpl) fun σ H Q ⟨ω, ρ, w, S', e1, ok, E, e2, k⟩ => by
  unfold eSortSet at e2
  split at e2
  · rename_i ds S1 em
    split at e2
    · rename_i is ei
      split at e2
      · rename_i hn
        cases e2
        refine ⟨ω, ρ, _, _, e1, ok, E, em, fun ω1 v l1 ok1 es1 r1 => ?_⟩
        rw [ints_map ei] at r1
        obtain ⟨q, vs, rfl, hH, dr⟩ := DT.list ok1 r1
        rw [dr.intsD] at hH
        refine ⟨q, is, rfl, .of hH, hn, fun p3 c3 hp hc => ?_⟩
        refine ⟨p3, _, c3, rfl, upd_same, by omega, fun ns p4 hu hm hl hp4 => ?_⟩
        have e : ns = setI is := up_uniq hu (setI_up is) fun j => by rw [hm, setI_mem]; simp
        subst e
        have l2 := Wd.lay_le ok1 (SetO X.w p3 (fun j => decide (j ∈ is)) c3) hp
        have ok2 := Wd.lay_ok ok1 (SetO X.w p3 (fun j => decide (j ∈ is)) c3) hp
        exact new_list ok2 (DRs.of_ints (setI is)) (fun ω4 v4 l4 ok4 es4 r4 => k ω4 v4 ((l1.trans l2).trans l4) ok4 (es4.trans es1) r4) hp4
      · cases e2
    · cases e2
  · cases e2
end
end MP
set_option Elab.async false
set_option linter.all false
set_option maxRecDepth 20000
/-! Part 14: defs, the table, the law's end. -/
namespace MP
open PySem L2
open PySem.PyData (strOk)
/-- the built-in names are not the module's -/
structure Bl (mg : Str → Option Value) : Prop where
  b_len : mg "len" = none
  b_range : mg "range" = none
  b_sorted : mg "sorted" = none
  b_set : mg "set" = none
  b_all : mg "all" = none
  b_any : mg "any" = none
  b_sum : mg "sum" = none
  b_max : mg "max" = none
  b_tuple : mg "tuple" = none
  b_list : mg "list" = none
  b_dict : mg "dict" = none
  b_int : mg "int" = none
  b_bool : mg "bool" = none
  b_str : mg "str" = none
  b_isi : mg "isinstance" = none
def start0 (n : Nat) (us : List Val) : Env := us.map some ++ List.replicate (n - us.length) none
/-- a def's meaning from its body's -/
def runFn (n : Nat) (body : SMean) (us : List Val) (S : Store) : Option (Val × Store) := match body (start0 n us) S with
  | some (.nx _ S1) => some (.d .none, S1)
  | some (.ret u S1) => some (u, S1)
  | _ => none
/-- the defs at a level -/
def callN (tbl : Calls → Calls) : Nat → Calls
  | 0 => fun _ _ _ => none
  | n + 1 => tbl (callN tbl n)
section
variable {P : Program} {w : World} {K : PySem.W.Frag} {mg : Str → Option Value} {base : Heap} {Γ : Gam}
theorem spF_len {B : Calls} {f n : Nat} {vs : List V} {H : Hp} {Q : VK} {E : XK} (h : spF Γ B f n vs H Q E) : vs.length = n := by
  obtain ⟨ω, us, u, S', _, _, r, hl, _⟩ := h
  rw [r.length, hl]
theorem fn_none {B : Calls} {f n k : Nat} {fa : Addr} {fd : FuncData} {ps : List Str} (hB : ∀ us S, B f us S = none) : FnOk P w K mg base CX0 k fa fd ps (spF Γ B f n) :=
  ⟨fun vs H Q E ⟨ω, us, u, S', _, _, r, hl, e, _⟩ => (by rw [hB] at e; cases e), fun A outer s H args us vs Q E hr he hb hv ⟨ω, us', u, S', _, _, r, hl, e, _⟩ => (by rw [hB] at e; cases e)⟩
theorem start_get {n : Nat} {us : List Val} {i : Nat} {u : Val} (h : (start0 n us)[i]? = some (some u)) : i < us.length ∧ us[i]? = some u := by
  unfold start0 at h
  by_cases hi : i < us.length
  · rw [List.getElem?_append_left (by simpa using hi), List.getElem?_map] at h
    refine ⟨hi, ?_⟩
    cases e : us[i]? with
    | none => rw [e] at h; cases h
    | some x => rw [e] at h; cases h; rfl
  · rw [List.getElem?_append_right (by simpa using hi)] at h
    rw [List.getElem?_replicate] at h
    split at h <;> cases h
theorem start_env {O : List Nat} {N : List Str} {ω : Wd} {vs : List V} {us : List Val} (ok : WOk Γ ω) (r : RVs Γ ω.F ω.φ vs us) (hO : ∀ i ∈ O, us.length ≤ i) : EnvS Γ O ω ω (start0 N.length us) (L2.start N vs) := by
  have hl := r.length
  have no : ∀ {i : Nat} {u : Val}, i ∈ O → (start0 N.length us)[i]? = some (some u) → False := fun hi e => by
    have := (start_get e).1
    have := hO _ hi
    omega
  refine ⟨⟨?_, fun i u e n => ?_, fun i u e n => (no n e).elim, fun i j u z p hi hj hne e => (no hi e).elim⟩, Le.refl ω, ok, fun i u p hi e => (no hi e).elim⟩
  · unfold start0 L2.start
    simp [hl]
  · obtain ⟨hi, eu⟩ := start_get e
    obtain ⟨v, ev, rv⟩ := r.get eu
    refine ⟨v, ?_, rv⟩
    unfold L2.start
    rw [List.getElem?_append_left (by rw [List.length_map, hl]; exact hi), List.getElem?_map, ev]
    rfl
/-- THE RULE for a def -/
theorem fn_ok {x qual : Str} {st : Stmt} {f : Addr} {fd : FuncData} {N ps : List Str} {k ar i : Nat} {B : Calls} {body : SMean} {O : List Nat} (F : L2.Fun K x qual st f fd) (Sc : FnScope N ps (defScope st)) (bl : Bl mg) (hK : Γ.K = K) (hw : Γ.w = w) (har : ps.length = ar) (hO : ∀ i ∈ O, ar ≤ i) (hk : 100 ≤ k)
    (hB : ∀ us S, B i us S = runFn N.length body us S)
    (hbody : ∀ (cdv : Value) (A : Around) (outer : List PySem.Env) (s : Shared) (H : Hp) (E : XK), Room k (A.deeper (PyProof.Rows.envOfC qual (defScope st) s.heap.objs.size f cdv)) → Ctx Γ (cxOf CX0 P w K mg base N qual (defScope st) f cdv A outer s H E).nox →
      PSs (cxOf CX0 P w K mg base N qual (defScope st) f cdv A outer s H E).nox (defBody st) (TS_ Γ O body)) : FnOk P w K mg base CX0 (k + 1) f fd ps (spF Γ B i ar) := by
  refine F.ok Sc (fun vs H Q E h => (spF_len h).trans har.symm) (fun cdv A outer s H vs Q E hr h => ?_)
  have c : Ctx Γ (cxOf CX0 P w K mg base N qual (defScope st) f cdv A outer s H E).nox :=
    ⟨hK, hw, hr.mono hk, rfl, Sc.nd, PassesOwn.never, bl.b_len, bl.b_range, bl.b_sorted, bl.b_set, bl.b_all, bl.b_any, bl.b_sum, bl.b_max, bl.b_tuple, bl.b_list, bl.b_dict, bl.b_int, bl.b_bool, bl.b_str, bl.b_isi⟩
  refine ⟨_, hbody cdv A outer s H E hr c, ?_⟩
  obtain ⟨ω, us, u, S', rfl, ok, r, hl, e, q⟩ := h
  rw [hB] at e
  unfold runFn at e
  split at e
  · rename_i ρ1 S1 eb
    cases e
    exact ⟨ω, ω, _, _, rfl, start_env ok r (by rw [hl]; exact hO), eb, fun ω' σ' E' s' es => q ω' _ E'.le E'.ok es .non⟩
  · rename_i u1 S1 eb
    cases e
    exact ⟨ω, ω, _, _, rfl, start_env ok r (by rw [hl]; exact hO), eb, fun ω' v l ok' es rv => q ω' v l ok' es rv⟩
  · cases e
end
/-- the law's own promise, from its meaning -/
theorem law_sp {Γ : Gam} {B : Calls} {f : Nat} {H : Hp} {a : Addr} {ns : List Int} {S' : Store} (hS : SqL Γ.K H a (ns.map V.int)) (h : B f [.scr ns] [] = some (.d (.bool true), S')) :
    spF Γ B f 1 [.ref a] H (fun v _ => v = .bl true) (fun _ _ _ => False) :=
  ⟨⟨H, H, [], []⟩, [.scr ns], _, S', rfl, ⟨Sub.refl _, rfl, List.nodup_nil, fun a h => absurd h (by simp), fun n o h => by simp at h⟩, .cons ⟨a, rfl, hS⟩ .nil, rfl, h, fun ω' v l ok es r => DR.of_bl r⟩
/-- the law's promise -/
def spLaw (K : PySem.W.Frag) : Sp := fun vs H Q _ => ∃ (a : Addr) (ns : List Int), vs = [.ref a] ∧ SqL K H a (ns.map V.int) ∧ ns.length ≤ 63 ∧ ∀ H', Q (.bl true) H'
theorem fn_law {P : Program} {w : World} {K : PySem.W.Frag} {mg : Str → Option Value} {base : Heap} {Γ : Gam} {k i : Nat} {fa : Addr} {fd : FuncData} {ps : List Str} {B : Calls} (F : FnOk P w K mg base CX0 k fa fd ps (spF Γ B i 1)) (hK : Γ.K = K)
    (law : ∀ ns : List Int, ns.length ≤ 63 → ∃ S', B i [.scr ns] [] = some (.d (.bool true), S')) : FnOk P w K mg base CX0 k fa fd ps (spLaw K) := F.imp fun vs H Q E ⟨a, ns, e, hS, hl, q⟩ => by
  subst e
  obtain ⟨S', h⟩ := law ns hl
  subst hK
  exact ⟨⟨H, H, [], []⟩, [.scr ns], _, S', rfl, ⟨Sub.refl _, rfl, List.nodup_nil, fun a h => absurd h (by simp), fun n o h => by simp at h⟩, .cons ⟨a, rfl, hS⟩ .nil, rfl, h, fun ω' v l ok es r => by rw [DR.of_bl r]; exact q _⟩
theorem walkL {l : PySem.W.OpenLaw} {q : Program} {loose : List Str} {XP : (Str → Option Value) → Heap → Prop} {YP : World → Heap → Prop} {d : DefRec} {K : Params → PySem.W.Frag} {k : Nat} (hr : Room k callerA) (hn : l.most = some 63) (hdf : d.params.defaults = [])
    (hY : ∀ (w : World) (h : Heap), YP w h → (K w.params).In h)
    (F : ∀ (w : World) (mg : Str → Option Value) (fa : Addr) (h : Heap), (K w.params).In h → h.Ns mainGlobals mg → mg d.name = some (.ref fa) →
      ∃ fd : FuncData, (∀ (s : Shared) (u : Value), BindsTo s fd ⟨[u], []⟩ [("script", u)]) ∧ ∀ base : Heap, (K w.params).In base → base.Ns mainGlobals mg → FnOk l.prog w (K w.params) mg base CX0 k fa fd ["script"] (spLaw (K w.params))) :
    PySem.W.WalkO q loose XP YP l.row.toRowW d [] (fun f vs => PySem.call f vs) :=
  L2.walk_of (n := 63) (k := k) (x := "script") (CX := fun _ => CX0) (sp := fun w => spLaw (K w.params)) hn (by decide) hdf hr hY F (fun _ _ a ns hl _ hS => ⟨a, ns, rfl, hS, hl, fun _ => rfl⟩) fun _ _ _ _ _ z => z
end MP
set_option Elab.async false
set_option linter.all false
set_option maxRecDepth 20000
/-! Part 15: short words for the printed proofs. -/
namespace MP
open PySem L2
open PySem.PyData (strOk)
def eNever : Mean := fun _ _ => none
section
variable {Γ : Gam} {X : Cx} {O : List Nat} {e : Expr} {es : List Expr} {ms : Means} {pos p : Pos} {x : Str} {cl : Bool}
theorem me_never : PE X e (T Γ O eNever cl) := ⟨fun pins s σ H Q I ⟨ω, ρ, u, S', e1, ok, E, e2, k⟩ => by cases e2⟩
/-- a def of the text, as it stands -/
structure DF (K : PySem.W.Frag) (x qual : Str) (st : Stmt) (ps : List Str) where
  fa : Addr
  fd : FuncData
  fn : L2.Fun K x qual st fa fd
  bind : Binds K fd ps []
def df_mk {K : PySem.W.Frag} {x qual : Str} {st : Stmt} {ps : List Str} {f : Addr} {oc : Value} {od an : Option Addr} {osl : Array (Option Value)} {kV doc pm cdv ct : Value} (l : K.lookup f = some ⟨oc, od, .func (PySem.W.fnOf x qual (defArgs st) (defBody st) (defScope st) .none kV doc pm an cdv ct), osl⟩)
    (c : PySem.W.codeIn K cdv qual = true) (k : PySem.W.keepIn K (.ref f) = true)
    (h : ∀ (kV doc pm : Value) (an : Option Addr) (cdv ct : Value) (us : List Value), us.length = ps.length → bindArgs (PySem.W.fnOf x qual (defArgs st) (defBody st) (defScope st) .none kV doc pm an cdv ct) ⟨us, []⟩ = pure (ps.zip us)) : DF K x qual st ps :=
  ⟨f, _, fun_mk l c k, (fun_mk l c k).binds h⟩
/-- the levels -/
def lv : Nat → Nat
  | 0 => 100
  | n + 1 => lv n + 2
theorem lv_ge : ∀ n, 100 ≤ lv n + 1
  | 0 => by decide
  | n + 1 => Nat.le_trans (lv_ge n) (by show lv n + 1 ≤ lv n + 2 + 1; omega)
theorem me_call0 {B : Calls} {f n k : Nat} {fa : Addr} {fd : FuncData} {ps : List Str}
    (F : FnOk X.prog X.w X.K X.mg X.base CX0 k fa fd ps (spF Γ B f n)) (hr : Room k X.A) (hm : X.mg x = some (.ref fa)) (hk : PySem.W.keepIn X.K (.ref fa) = true) (hb : Binds X.K fd ps []) (ha : PA X (e :: es) (TAs Γ O ms)) (hl : aLen (e :: es) ms)
    (hg : Gl X x := by rfl) (hn : (e :: es).length + ([] : List Val).length = n := by rfl) (hdb : (x == ("__debug__" : Str)) = false := by decide)
    (he : starEach (e :: es) X.env = (false, eval e X.env) :: starEach es X.env := by rfl) (hpl : (backTo pos (starEach es X.env)).any (·.1) = false := by rfl) :
    PE X (.Call (.Name x p) (e :: es) [] pos) (T Γ O (eCall B f ms []) true) := me_call F hr hm hk hb .nil (fun _ => .nil) hg hn ha hl hdb he hpl
theorem me_make0_ {B : Calls} {c f n k : Nat} {fa : Addr} {fd : FuncData} {ps : List Str} {C : Addr}
    (F : FnOk X.prog X.w X.K X.mg X.base CX0 k fa fd ps (spF Γ B f n)) (hr : Room (k + 1) X.A) (M : Mk X.K C fa) (hm : X.mg x = some (.ref C)) (hb : Binds X.K fd ps []) (ha : PA X (e :: es) (TAs Γ O ms)) (hl : aLen (e :: es) ms)
    (hC : Γ.cls c = C := by rfl) (hg : Gl X x := by rfl) (hn : (e :: es).length + 1 = n := by rfl) (hdb : (x == ("__debug__" : Str)) = false := by decide)
    (he : starEach (e :: es) X.env = (false, eval e X.env) :: starEach es X.env := by rfl) (hpl : (backTo pos (starEach es X.env)).any (·.1) = false := by rfl) :
    PE X (.Call (.Name x p) (e :: es) [] pos) (T Γ O (eMake B c f ms) true) := by
  subst hC
  exact me_make F hr M hm hb hg hn ha hl hdb he hpl
theorem me_meth0 {B : Calls} {c f n k : Nat} {fa : Addr} {fd : FuncData} {ps : List Str} {m : Str} {apos : Pos} {o : Expr} {mo : Mean} {pl : Sem Bool} {C : Addr}
    (F : FnOk X.prog X.w X.K X.mg X.base CX0 k fa fd ps (spF Γ B f n)) (hr : Room k X.A) (hc : Cls X.K C) (hm : Meth X.K C m fa) (hb : Binds X.K fd ps []) (hmn : m ∉ Γ.flds c)
    (ho : PE X o (T Γ O mo true)) (ha : PA X (e :: es) (TAs Γ O ms)) (hl : aLen (e :: es) ms) (hC : Γ.cls c = C := by rfl) (hn : (e :: es).length + 1 = n := by rfl)
    (hst : starEach (e :: es) X.env = (false, eval e X.env) :: starEach es X.env := by rfl) (hpl : (backTo pos (starEach es X.env)).any (·.1) = false := by rfl)
    (ht : eval (.Call (.Attribute o m apos) (e :: es) [] pos) X.env = (do
      let ov ← eval o X.env
      standAt apos.atName
      let (f, first) ← holding [ov] (getMethod ov m pl)
      callWith pos f first (backTo pos (starEach (e :: es) X.env)) (backToKw pos (keywordEach [] X.env))) := by rfl) :
    PE X (.Call (.Attribute o m apos) (e :: es) [] pos) (T Γ O (eMeth B c f mo ms) true) := by
  subst hC
  exact me_meth F hr hc hm hb hmn hn ho ha hl hst hpl ht
/-- a block's names, by one test -/
def blkB (N : List Str) (sc scope : Scope) (own : List (Str × Nat)) : Bool :=
  (match scope.kind with | .function => true | _ => false) && scope.names.all (fun y => decide (scope.names.lookup y.1 = some y.2)) && own.all (fun p => decide (N[p.2]? = some p.1)) &&
  scope.names.all (fun y => decide (y.2 = .free → sc.names.lookup y.1 = some .cell ∨ sc.names.lookup y.1 = some .free)) && scope.names.all fun y => decide (y.2 = .local ∨ y.2 = .cell → y.1 ∈ own.map (·.1) ∨ y.1 ∉ N)
theorem blk_ok {N : List Str} {sc scope : Scope} {own : List (Str × Nat)} (h : blkB N sc scope own = true) : BlkOk N sc scope own := by
  unfold blkB at h
  simp only [Bool.and_eq_true, List.all_eq_true, decide_eq_true_eq] at h
  obtain ⟨⟨⟨⟨h1, h2⟩, h3⟩, h4⟩, h5⟩ := h
  refine ⟨?_, h2, h3, h4, h5⟩
  split at h1
  · assumption
  · cases h1
theorem tg1 {i : Nat} (hi : X.N[i]? = some x := by rfl) (hx : Loc X.env.scope x := by first | exact Or.inl rfl | exact Or.inr rfl) (hf : X.fn x = true ∨ X.env.scope.names.lookup x = some .local := by first | exact Or.inl rfl | exact Or.inr rfl) : TgOk X (.Name x pos) (.n i) := .n hi hx hf
end
/-- what a written tuple holds -/
inductive DV (K : PySem.W.Frag) (F : Hp) : List Value → List D → Prop
  | nil : DV K F [] []
  | str {x : Str} {t : Tok} {us : List Value} {ds : List D} (h : strOk x = true) (r : DV K F us ds) : DV K F (.str x t :: us) (.str x :: ds)
theorem DV.rel {K : PySem.W.Frag} {F : Hp} {us : List Value} {ds : List D} (h : DV K F us ds) : ∃ vs, Vals vs us ∧ DRs K F vs ds := by
  induction h with
  | nil => exact ⟨[], .nil, .nil⟩
  | @str x t us ds h _ ih =>
    obtain ⟨vs, r, d⟩ := ih
    exact ⟨.str x :: vs, .cons ⟨t, rfl⟩ r, .cons (.str h) d⟩
theorem dv_nil {K : PySem.W.Frag} {F : Hp} : DV K F [] [] := .nil
theorem dv_cons {K : PySem.W.Frag} {F : Hp} {x : Str} {t : Tok} {us : List Value} {ds : List D} (h : strOk x = true) (r : DV K F us ds) : DV K F (.str x t :: us) (.str x :: ds) := .str h r
theorem dr_ktup {K : PySem.W.Frag} {F : Hp} {a : Addr} {us : Array Value} {n : Nat} {sl : Array (Option Value)} {ds : List D} (l : K.lookup a = some ⟨.type "tuple", none, .seq us n, sl⟩) (hz : us.size ≤ 1000) (h : DV K F us.toList ds) : DR K F (V.ref a) (.tuple ds) := by
  obtain ⟨vs, r, d⟩ := h.rel
  exact .tup (.inr ⟨_, us, n, l, rfl, rfl, lineM (by omega), r⟩) (.inr ⟨_, l, rfl⟩) d
end MP
set_option Elab.async false
set_option linter.all false
set_option maxRecDepth 20000
/-! Part 19: comprehensions of two clauses; list(range(n)); names from a list; sorted of a tuple. -/
namespace MP
open PySem L2
open PySem.PyData (strOk)
section
variable {Γ : Gam} {X : Cx} {O : List Nat}
def comp2Run (t : Tg) (tst : Mean) (src1 : MSrc) (t1 : Tg) (vs1 : List Nat) (tst1 elt : Mean) (ρ : Env) : List D → Store → Option (List D × Store)
  | [], S => some ([], S)
  | d :: ds, S => match t.set d ρ with
    | none => none
    | some ρ1 => match tst ρ1 S with
      | some (.d (.bool true), S1) => match src1 ρ1 S1 with
        | some (es, S2) => match compRun t1 tst1 elt (wipeE ρ1 vs1) es S2 with
          | some (ys, S3) => match comp2Run t tst src1 t1 vs1 tst1 elt ρ ds S3 with
            | some (zs, S4) => some (ys ++ zs, S4)
            | none => none
          | none => none
        | none => none
      | some (.d (.bool false), S1) => comp2Run t tst src1 t1 vs1 tst1 elt ρ ds S1
      | _ => none
def eComp2 (src : MSrc) (t : Tg) (vs : List Nat) (tst : Mean) (src1 : MSrc) (t1 : Tg) (vs1 : List Nat) (tst1 elt : Mean) : Mean := fun ρ S => match src ρ S with
  | some (ds, S1) => match comp2Run t tst src1 t1 vs1 tst1 elt (wipeE ρ vs) ds S1 with
    | some (ys, S2) => if ys.length ≤ 1000000 then some (.d (.list ys), S2) else none
    | none => none
  | none => none
theorem eComp2_list {src : MSrc} {t : Tg} {vs : List Nat} {tst : Mean} {src1 : MSrc} {t1 : Tg} {vs1 : List Nat} {tst1 elt : Mean} : ∀ (ρ : Env) (S : Store) (u : Val) (S' : Store), eComp2 src t vs tst src1 t1 vs1 tst1 elt ρ S = some (u, S') → ∃ ds, u = .d (.list ds) := fun ρ S u S' h => by
  unfold eComp2 at h
  split at h
  · split at h
    · split at h
      · cases h; exact ⟨_, rfl⟩
      · cases h
    · cases h
  · cases h
theorem comp2Run_cons {t : Tg} {tst : Mean} {src1 : MSrc} {t1 : Tg} {vs1 : List Nat} {tst1 elt : Mean} {ρ : Env} {d : D} {ds : List D} {S S' : Store} {zs : List D} (h : comp2Run t tst src1 t1 vs1 tst1 elt ρ (d :: ds) S = some (zs, S')) :
    ∃ ρ1 b S1, t.set d ρ = some ρ1 ∧ tst ρ1 S = some (.d (.bool b), S1) ∧ (if b = true then ∃ es S2 ys S3 ws, src1 ρ1 S1 = some (es, S2) ∧ compRun t1 tst1 elt (wipeE ρ1 vs1) es S2 = some (ys, S3) ∧ comp2Run t tst src1 t1 vs1 tst1 elt ρ ds S3 = some (ws, S') ∧ zs = ys ++ ws
      else comp2Run t tst src1 t1 vs1 tst1 elt ρ ds S1 = some (zs, S')) := by
  unfold comp2Run at h
  split at h
  · cases h
  · rename_i ρ1 e1
    split at h
    · rename_i S1 e2
      split at h
      · rename_i es S2 e3
        split at h
        · rename_i ys S3 e4
          split at h
          · rename_i ws S4 e5
            cases h
            exact ⟨ρ1, true, S1, e1, e2, by rw [if_pos rfl]; exact ⟨es, S2, ys, S3, ws, e3, e4, e5, rfl⟩⟩
          · cases h
        · cases h
      · cases h
    · rename_i S1 e2
      exact ⟨ρ1, false, S1, e1, e2, by rw [if_neg (by decide)]; exact h⟩
    · cases h
theorem Tg.go2 {K : PySem.W.Frag} (hK : Γ.K = K) {t : Tg} {ω : Wd} (ok : WOk Γ ω) {ρ ρ' : Env} {σ : St} {v : V} {d : D} {Q : St → Hp → Prop} (hO : ∀ i ∈ t.slots, i ∉ O) (r : DR Γ.K ω.F v d) (h : t.set d ρ = some ρ')
    (q : ∀ vs, (∀ ω' : Wd, Sub ω.F ω'.F → EnvR (Γ := Γ) O ω' ρ σ → EnvR (Γ := Γ) O ω' ρ' (setAll σ t.slots vs)) → Q (setAll σ t.slots vs) ω.H) : t.g K v σ ω.H Q := by
  cases t with
  | n i =>
    cases h
    exact q [v] fun ω' s E => E.set (hO i (by simp [Tg.slots])) (r.sub s)
  | t is =>
    cases d with
    | tuple ds =>
      simp only [Tg.set] at h
      split at h
      · rename_i hl
        cases h
        obtain ⟨a, xs, rfl, hq, dr⟩ := r.of_tup
        have hlen : xs.length = is.length := by rw [dr.length]; exact hl
        refine ⟨a, xs, rfl, by rw [← hK]; exact ok.sub.sqT hq, hlen, gNs_ok hlen ?_⟩
        exact q xs fun ω' s E => E.setAll hO (dr.sub s)
      · cases h
    | _ => cases h
theorem T_comp2 {K : PySem.W.Frag} (hK : Γ.K = K) {src : MSrc} {t : Tg} {vs vs1 : List Nat} {tst : Mean} {src1 : MSrc} {t1 : Tg} {tst1 elt : Mean} (hv : ∀ i ∈ t.slots, i ∈ vs) (hO : ∀ i ∈ t.slots, i ∉ O) (hv1 : ∀ i ∈ t1.slots, i ∈ vs1) (hO1 : ∀ i ∈ t1.slots, i ∉ O) {σ : St} {H : Hp} {Q : VK}
    (h : TF Γ O (eComp2 src t vs tst src1 t1 vs1 tst1 elt) σ H Q) : tLc2 (TIc Γ O src) (t.g K) (TB Γ O tst) (TI_ Γ O src1) (t1.g K) (TB Γ O tst1) (T Γ O elt true) vs vs1 σ H Q := by
  obtain ⟨ω, ρ, ys, S', e1, ok, E, e2, k⟩ := h
  unfold eComp2 at e2
  split at e2
  · rename_i ds S1 es
    split at e2
    · rename_i ys' S2 er
      split at e2
      case isFalse => cases e2
      rename_i hys
      cases e2
      refine ⟨ω, ρ, ds, S1, e1, ok, E, es, fun ω1 J l1 ok1 es1 wk hz => fun A hA => ?_⟩
      subst es1
      -- ahead of the i-th outer turn
      refine ⟨fun i m H => ∃ ω2 acc zs rest, ω2.H = H ∧ Le ω1 ω2 ∧ WOk Γ ω2 ∧ ω2.H A = some (.lst acc) ∧ ω2.F A = none ∧ A ∉ ω2.φ ∧ DRs Γ.K ω2.F acc zs ∧ m = ds.length - i ∧ i ≤ ds.length ∧
        comp2Run t tst src1 t1 vs1 tst1 elt (wipeE ρ vs) (ds.drop i) ω2.S = some (rest, S') ∧ zs ++ rest = ys, ⟨ds.length, ω1.lay A (.lst []), [], [], ys, rfl, Wd.lay_le ok1 _ hA, Wd.lay_ok ok1 _ hA, upd_same, ok1.none_F hA, ok1.fresh hA, .nil, by simp, Nat.zero_le _, by rw [List.drop_zero]; exact er, rfl⟩, ?_⟩
      rintro i m H ⟨ω2, acc, zs, rest, rfl, l2, ok2, hD, hF, hφ, hd, rfl, hi, hr, hy⟩
      by_cases hlt : i < ds.length
      · obtain ⟨go, yl⟩ := (wk ω2 l2 ok2 i).1 ds[i] (List.getElem?_eq_getElem hlt)
        refine .inr ⟨go, fun H => ∃ ω2 acc zs rest, ω2.H = H ∧ Le ω1 ω2 ∧ WOk Γ ω2 ∧ ω2.H A = some (.lst acc) ∧ ω2.F A = none ∧ A ∉ ω2.φ ∧ DRs Γ.K ω2.F acc zs ∧
          comp2Run t tst src1 t1 vs1 tst1 elt (wipeE ρ vs) (ds.drop (i + 1)) ω2.S = some (rest, S') ∧ zs ++ rest = ys, fun H' ⟨ω3, a1, a2, a3, b1, b2, b3, b4, b5, b6, b7, b8, b9⟩ => ⟨ds.length - (i + 1), by omega, ω3, a1, a2, a3, b1, b2, b3, b4, b5, b6, b7, rfl, hlt, b8, b9⟩, fun x H' hx => ?_⟩
        obtain ⟨rfl, rx⟩ := yl x H' hx
        rw [List.drop_eq_getElem_cons hlt] at hr
        obtain ⟨ρ1, b, S3, et, eb, er2⟩ := comp2Run_cons hr
        refine Tg.go2 (O := O) hK ok2 hO rx et fun ws EF => ?_
        have E2 := EF ω2 (Sub.refl _) ((E.le (l1.trans l2)).wipe vs)
        refine ⟨wipe_set hv, ω2, ρ1, b, S3, rfl, ok2, E2, eb, fun ω3 l3 ok3 es3 => ?_⟩
        cases b with
        | false =>
          rw [if_neg (by decide)] at er2
          exact iteF ⟨ω3, acc, zs, rest, rfl, l2.trans l3, ok3, l3.H A _ hD hφ, keepsF l3 hD hF, keepsφ l3 hD hφ, hd.sub l3.F, by rw [es3]; exact er2, hy⟩
        | true =>
          rw [if_pos rfl] at er2
          obtain ⟨es', S4, ys4, S5, ws4, e3, e4, e5, rfl⟩ := er2
          refine iteT ⟨ω3, ρ1, es', S4, rfl, ok3, E2.le l3, by rw [es3]; exact e3, fun ω4 J1 l4 ok4 es4 wk1 hz1 => ?_⟩
          have l34 := l3.trans l4
          have hD4 := l34.H A _ hD hφ
          have hF4 := keepsF l34 hD hF
          have hφ4 := keepsφ l34 hD hφ
          have s24 : Sub ω2.F ω4.F := l34.F
          refine ⟨fun j k H => ∃ ω5 acc5 zs5 rest5, ω5.H = H ∧ Le ω1 ω5 ∧ Sub ω4.F ω5.F ∧ WOk Γ ω5 ∧ ω5.H A = some (.lst acc5) ∧ ω5.F A = none ∧ A ∉ ω5.φ ∧ DRs Γ.K ω5.F acc5 zs5 ∧ k = es'.length - j ∧ j ≤ es'.length ∧
            compRun t1 tst1 elt (wipeE ρ1 vs1) (es'.drop j) ω5.S = some (rest5, S5) ∧ zs ++ ys4 = zs5 ++ rest5, ⟨es'.length, ω4, acc, zs, ys4, rfl, l2.trans l34, Sub.refl _, ok4, hD4, hF4, hφ4, hd.sub l34.F, by simp, Nat.zero_le _, by rw [List.drop_zero, es4]; exact e4, rfl⟩, ?_⟩
          rintro j kk H5 ⟨ω5, acc5, zs5, rest5, rfl, l5, s5, ok5, hD5, hF5, hφ5, hd5, rfl, hj, hr5, hy5⟩
          by_cases hjl : j < es'.length
          · obtain ⟨go1, yl1⟩ := (wk1 ω5 s5 ok5 j).1 es'[j] (List.getElem?_eq_getElem hjl)
            refine .inr ⟨go1, fun H => ∃ ω5 acc5 zs5 rest5, ω5.H = H ∧ Le ω1 ω5 ∧ Sub ω4.F ω5.F ∧ WOk Γ ω5 ∧ ω5.H A = some (.lst acc5) ∧ ω5.F A = none ∧ A ∉ ω5.φ ∧ DRs Γ.K ω5.F acc5 zs5 ∧
              compRun t1 tst1 elt (wipeE ρ1 vs1) (es'.drop (j + 1)) ω5.S = some (rest5, S5) ∧ zs ++ ys4 = zs5 ++ rest5, fun H' ⟨ω6, a1, a2, a3, b1, b2, b3, b4, b5, b6, b7, b8, b9, b10⟩ => ⟨es'.length - (j + 1), by omega, ω6, a1, a2, a3, b1, b2, b3, b4, b5, b6, b7, b8, rfl, hjl, b9, b10⟩, fun x1 H1' hx1 => ?_⟩
            obtain ⟨rfl, rx1⟩ := yl1 x1 H1' hx1
            rw [List.drop_eq_getElem_cons hjl] at hr5
            obtain ⟨ρ2, b1, S6, et1, eb1, er3⟩ := compRun_cons hr5
            have E5 := (EF ω5 (s24.trans s5) ((E.le (l1.trans l5)).wipe vs)).wipe vs1
            refine Tg.go hK ok5 E5 hO1 rx1 et1 fun ws1 E6 => ?_
            refine ⟨wipe_set hv1, ω5, ρ2, b1, S6, rfl, ok5, E6, eb1, fun ω6 l6 ok6 es6 => ?_⟩
            cases b1 with
            | false =>
              rw [if_neg (by decide)] at er3
              exact iteF ⟨ω6, acc5, zs5, rest5, rfl, l5.trans l6, s5.trans l6.F, ok6, l6.H A _ hD5 hφ5, keepsF l6 hD5 hF5, keepsφ l6 hD5 hφ5, hd5.sub l6.F, by rw [es6]; exact er3, hy5⟩
            | true =>
              rw [if_pos rfl] at er3
              obtain ⟨y, S7, ys7, ee, ec, rfl⟩ := er3
              refine iteT ⟨ω6, ρ2, .d y, S7, rfl, ok6, E6.le l6, by rw [es6]; exact ee, fun ω7 v l7 ok7 es7 r7 => ?_⟩
              have l67 := l6.trans l7
              have hD7 := l67.H A _ hD5 hφ5
              have hF7 := keepsF l67 hD5 hF5
              have hφ7 := keepsφ l67 hD5 hφ5
              have hlen : acc5.length < 1000000 := by
                have h1 := congrArg List.length hy5
                have h2 := congrArg List.length hy
                have h3 := hd5.length
                simp only [List.length_append, List.length_cons] at h1 h2
                omega
              exact ⟨acc5, hD7, by rw [sizeLine_eq]; omega, { ω7 with H := upd ω7.H A (.lst (acc5 ++ [v])) }, acc5 ++ [v], zs5 ++ [y], ys7, rfl, le_upd (l5.trans l67) hA, s5.trans l67.F, ok_upd ok7 hF7 hφ7, upd_same, hF7, hφ7,
                (hd5.sub l67.F).append (.cons r7 .nil), by rw [show ({ ω7 with H := upd ω7.H A (.lst (acc5 ++ [v])) } : Wd).S = S7 from es7]; exact ec, by rw [List.append_assoc]; exact hy5⟩
          · have e : j = es'.length := by omega
            subst e
            refine .inl ⟨(wk1 ω5 s5 ok5 _).2 (Nat.le_refl _), ?_⟩
            rw [List.drop_length] at hr5
            cases hr5
            rw [List.append_nil] at hy5
            exact ⟨ω5, acc5, zs5, ws4, rfl, l5, ok5, hD5, hF5, hφ5, hd5, e5, by rw [← hy5, List.append_assoc]; exact hy⟩
      · have e : i = ds.length := by omega
        subst e
        refine .inl ⟨(wk ω2 l2 ok2 _).2 (Nat.le_refl _), ?_⟩
        rw [List.drop_length] at hr
        cases hr
        rw [List.append_nil] at hy
        subst hy
        exact k ω2 A acc (l1.trans l2) ok2 rfl hD hd hF hφ (le_none l1 hA)
    · cases e2
  · cases e2
end
end MP
set_option Elab.async false
set_option linter.all false
set_option maxRecDepth 100000
/-! Part 20: sorted of a tuple of data. -/
namespace MP
open PySem PySem.Calls PyProof.Rows PySem.W L2
section
variable {prog : Program} {w : World} {A : Around} {E : Value → Shared → Prop} {s : Shared}
theorem gather_tup {q : Addr} {us : List Value} {K : List Value → Shared → Prop} (hq : s.heap.IsTuple q us.toArray) (hz : us.length ≤ sizeLine)
    (k : K us { s with heap := (s.heap.push (seqObj "list" #[] 0)).update s.heap.objs.size (Obj.mapSeq (· ++ us.toArray)) }) : wpAny (model prog w) A (collect (.ref q)) K E s := by
  obtain ⟨ob, g1, g2, cnt, g3⟩ := id hq
  unfold collect
  refine wpAny_bind (wpAny_runValue (codeAny_builtin entry_proto_collect' ?_))
  show wpAny _ _ (do again (.builtin "list.__iadd__" ⟨[← newList [], .ref q], []⟩)) _ _ s
  refine wpAny_bind (wpAny_newList (wpAny_pure ⟨Code.quiet_builtin _ (by decide +kernel), codeAny_builtin entry_list_iadd' ?_⟩))
  show wpAny _ _ (Builtin.List.listExtendWith (.ref s.heap.objs.size) (.ref q) (.ref s.heap.objs.size)) _ _ { s with heap := s.heap.push (seqObj "list" #[] 0) }
  unfold Builtin.List.listExtendWith
  have g4 : (s.heap.push (seqObj "list" #[] 0)).get? q = some ob := Heap.get?_push_of_some _ g1
  refine wpAny_bind (wpAny_typeOf (T := "tuple") ⟨ob, g4, g2⟩ ?_)
  have two : (Value.type "tuple" == Value.type "tuple") = true := by rfl
  rw [if_pos (by rw [two]; simp)]
  refine wpAny_bind (listItems_at g4 g3 ?_)
  refine wpAny_bind (listItems_at (xs := #[]) (n := 0) (Heap.get?_push_size _ rfl) rfl ?_)
  rw [if_neg (by simp)]
  refine wpAny_bind (listUpdate_at (xs := #[]) (n := 0) (Heap.get?_push_size _ rfl) rfl ?_ (Nat.zero_le _) (by show (#[] ++ us.toArray).size ≤ sizeLine + 1; simp only [Array.size_append, List.size_toArray, List.length_nil]; omega))
  refine wpAny_pure ?_
  show wpAny (model prog w) A (do
      let o2 ← load s.heap.objs.size
      match o2.data with
      | .seq ys _ => pure ys.toList
      | _ => unsupported "internal:collect") K E { s with heap := (s.heap.push (seqObj "list" #[] 0)).update s.heap.objs.size (Obj.mapSeq (· ++ us.toArray)) }
  refine wpAny_bind (wpAny_load (get?_update_seq (Heap.get?_push_size _ rfl) _) ?_)
  show wpAny _ _ (pure ((#[] : Array Value) ++ us.toArray).toList) K E _
  rw [show ((#[] : Array Value) ++ us.toArray).toList = us by simp]
  exact wpAny_pure k
/-- sorted(t), t a tuple -/
theorem sorted_of_tup {q : Addr} {us : List Value} {Q : Value → Shared → Prop} (hq : s.heap.IsTuple q us.toArray) (hz : us.length ≤ sizeLine)
    (body : ∀ E2 : Value → Shared → Prop, wpAny (model prog w) A.in1.in1 (Builtin.«list.sort» ⟨[.ref (s.heap.objs.size + 1)], []⟩) (fun f t => f = .done (.ret .none) ∧ Q (.ref (s.heap.objs.size + 1)) t) E2 { s with heap := copyHeap s.heap us }) :
    wpAny (model prog w) A (call (.builtin "sorted") [.ref q]) Q E s := by
  refine call_function_entry_kw (kw := []) kind_sorted plain_sorted entry_sorted (args_sorted1 _) ?_
  unfold Builtin.«sorted»
  refine wpAny_bind (m := checkCount "sorted" 1 1 _) (wpAny_pure ?_)
  refine wpAny_bind (gather_tup hq hz ?_)
  refine wpAny_bind (wpAny_newList ?_ hz)
  have size1 : ((s.heap.push (seqObj "list" #[] 0)).update s.heap.objs.size (Obj.mapSeq (· ++ us.toArray))).objs.size = s.heap.objs.size + 1 := by
    rw [Heap.size_update, size_push']
  show wpAny _ _ _ _ _ { s with heap := copyHeap s.heap us }
  rw [size1]
  refine wpAny_bind (wpAny_holding (wpAny_call_entry_kw slot_list_sort ⟨_, copyHeap_at s.heap us, rfl⟩ entry_list_sort ?inner (args_list_sort _)))
  case inner =>
    show wpAny (model prog w) A.in1.in1 (Builtin.«list.sort» ⟨[.ref (s.heap.objs.size + 1)], []⟩) _ _ _
    refine wpAny_mono (body _) (fun f t hf => ?_) fun _ _ e => e
    obtain ⟨rfl, hk⟩ := hf
    exact ⟨_, rfl, wpAny_pure ⟨_, rfl, hk⟩⟩
theorem sorted_tup_data {β : Type} {R : Value → β → Prop} {enc : β → PyData} {bs : List β} {q : Addr} {us : List Value} {Q : Value → Shared → Prop} (hq : s.heap.IsTuple q us.toArray) (e : EachIs R us bs) (er : EachIs (fun v b => ∃ as, Reads s.heap v (enc b) as) us bs) (hal : AllAlike (bs.map enc)) (hk : Sortable (bs.map enc)) (hL : bs.length ≤ sizeLine)
    (hu : ∀ b, b ∈ bs → A.units + 2 + (enc b).depth < cLine) (h : ∀ out, out.length = bs.length → EachIs R out (bs.mergeSort (dataLe false enc)) → Q (.ref (s.heap.objs.size + 1)) { s with heap := sortedAll s.heap us (List.toArray out) }) :
    wpAny (model prog w) A (call (.builtin "sorted") [.ref q]) Q E s := by
  have er2 : EachIs (fun v b => ∃ as, Reads (sortingHeap (copyHeap s.heap us) (s.heap.objs.size + 1) us) v (enc b) as) us bs := er.mono fun _ _ ⟨as, r⟩ => ⟨as, PyProof.Rows.Reads.keeps (fun _ _ => sorting_copy_old) r⟩
  have hz : us.length ≤ sizeLine := by rw [e.length]; exact hL
  refine sorted_of_tup hq hz fun _ => list_sort_vals (κ := dataKind (sortingHeap (copyHeap s.heap us) (s.heap.objs.size + 1) us) (bs.map enc)) (s := { s with heap := copyHeap s.heap us }) (copyHeap_at s.heap us)
    (SortsAt.data (s := { s with heap := sortingHeap (copyHeap s.heap us) (s.heap.objs.size + 1) us }) (each_map (R := fun v d => ∃ as, Reads (sortingHeap (copyHeap s.heap us) (s.heap.objs.size + 1) us) v d as) enc er2) hal hk (bound_map hu)) hz ⟨rfl, ?_⟩
  exact h _ (by rw [sortVals_length false rfl]; exact e.length) (sortVals_data false e er2 hal)
end
end MP
set_option Elab.async false
set_option linter.all false
set_option maxRecDepth 20000
/-! Part 21: rules over parts 19 and 20: comprehensions of two clauses, sorted of a tuple, list(range(n)), names from a list. -/
namespace MP
open PySem L2
open PySem.PyData (strOk)
open PySem.W (EachIs)
section
variable {Γ : Gam} {X : Cx} {O : List Nat} {tg e a b : Expr} {ma mb m : Mean} {c1 c2 : Bool} {pos p : Pos}
theorem mf_comp2 (c : Ctx Γ X) {elt tgt iter tgt1 iter1 : Expr} {ifs ifs1 : List Expr} {scope : Scope} {own : List (Str × Nat)} {src src1 : MSrc} {t t1 : Tg} {vs vs1 : List Nat} {mt mt1 me : Mean} (hi : PI X tgt iter (TIc Γ O src)) (ok : BlkOk X.N X.env.scope scope own) (hvs : own.map (·.2) = vs)
    (hv : ∀ i ∈ t.slots, i ∈ vs) (hO : ∀ i ∈ t.slots, i ∉ O) (hv1 : ∀ i ∈ t1.slots, i ∈ vs1) (hO1 : ∀ i ∈ t1.slots, i ∉ O) (hvv : ∀ i ∈ vs1, i ∈ vs)
    (hg : ∀ (s : Shared) (H : Hp) (C : Addr) (cl : List (Str × Addr)) (fp : List Addr), TgOk (X.blk s H scope (compEnvC scope cl C X.env) fp) tgt t)
    (ht : ∀ (s : Shared) (H : Hp) (C : Addr) (cl : List (Str × Addr)) (fp : List Addr), Ctx Γ (X.blk s H scope (compEnvC scope cl C X.env) fp) → PTs (X.blk s H scope (compEnvC scope cl C X.env) fp) ifs (TB Γ O mt))
    (hi1 : ∀ (s : Shared) (H : Hp) (C : Addr) (cl : List (Str × Addr)) (fp : List Addr), Ctx Γ (X.blk s H scope (compEnvC scope cl C X.env) fp) → PI (X.blk s H scope (compEnvC scope cl C X.env) fp) tgt1 iter1 (TI_ Γ O src1))
    (hg1 : ∀ (s : Shared) (H : Hp) (C : Addr) (cl : List (Str × Addr)) (fp : List Addr), TgOk (X.blk s H scope (compEnvC scope cl C X.env) fp) tgt1 t1)
    (ht1 : ∀ (s : Shared) (H : Hp) (C : Addr) (cl : List (Str × Addr)) (fp : List Addr), Ctx Γ (X.blk s H scope (compEnvC scope cl C X.env) fp) → PTs (X.blk s H scope (compEnvC scope cl C X.env) fp) ifs1 (TB Γ O mt1))
    (he : ∀ (s : Shared) (H : Hp) (C : Addr) (cl : List (Str × Addr)) (fp : List Addr), Ctx Γ (X.blk s H scope (compEnvC scope cl C X.env) fp) → PE (X.blk s H scope (compEnvC scope cl C X.env) fp) elt (T Γ O me true))
    (hs : ∀ x, foldedSetIterable iter X.env x = pure x := by intro _; rfl) (hs1 : ∀ env x, foldedSetIterable iter1 env x = pure x := by intro _ _; rfl) :
    PE X (.ListComp elt [⟨tgt, iter, ifs, 0⟩, ⟨tgt1, iter1, ifs1, 0⟩] scope pos) (TF Γ O (eComp2 src t vs mt src1 t1 vs1 mt1 me)) := by
  subst hvs
  exact PE.mono (pe_lc2 (own := own) (vs1 := vs1) c.calm c.nd hi ok hvv (fun s H C cl fp => (hg s H C cl fp).pg (c.blk s H scope _ fp)) (fun s H C cl fp => ht s H C cl fp (c.blk s H scope _ fp)) (fun s H C cl fp => hi1 s H C cl fp (c.blk s H scope _ fp))
    (fun s H C cl fp => (hg1 s H C cl fp).pg (c.blk s H scope _ fp)) (fun s H C cl fp => ht1 s H C cl fp (c.blk s H scope _ fp)) (fun s H C cl fp => he s H C cl fp (c.blk s H scope _ fp)) hs hs1) fun σ H Q h => T_comp2 c.hK hv hO hv1 hO1 h
theorem eIf_list {t x y : Mean} (h1 : ∀ ρ S u S', x ρ S = some (u, S') → ∃ ds, u = .d (.list ds)) (h2 : ∀ ρ S u S', y ρ S = some (u, S') → ∃ ds, u = .d (.list ds)) : ∀ (ρ : Env) (S : Store) (u : Val) (S' : Store), eIf t x y ρ S = some (u, S') → ∃ ds, u = .d (.list ds) := fun ρ S u S' h => by
  obtain ⟨c, S1, _, h⟩ := eIf_some h
  split at h
  · exact h1 _ _ _ _ h
  · exact h2 _ _ _ _ h
/-! sorted of a tuple -/
def rSortTD (K : PySem.W.Frag) : List V → Hp → VK → Prop := fun vs H Q => ∃ (F : Hp) (a : Addr) (xs : List V) (ds : List D), vs = [V.ref a] ∧ SqT K H a xs ∧ Sub F H ∧ DRs K F xs ds ∧ sortOk ds = true ∧
  ∀ (ys : List V) (p : Addr), DRs K F ys (sortD ds) → H p = none → Q (.ref p) (L2.upd H p (.lst ys))
theorem cr_sortTD (c : Ctx Γ X) : CallR X (.builtin "sorted") (rSortTD X.K) := by
  intro pins s σ H vs us Q I r h
  obtain ⟨F, a, xs, ds, rfl, hs, sF, hd, hok, q⟩ := h
  obtain ⟨its, rv, hl, hz⟩ := I.tuple hs
  rw [Vals.ref1 r]
  obtain ⟨e1, e2⟩ := each_reads I rfl sF hd rv
  obtain ⟨s1, s2, s3⟩ := sortOk_use hok
  have hlen : ds.length ≤ sizeLine := by rw [← hd.length]; exact hz
  have hm : ds.map id = ds := List.map_id ds
  refine sorted_tup_data (enc := id) hl e1 e2 (by rw [hm]; exact s1) (by rw [hm]; exact s2) hlen (fun b hb => ?_) fun out ho eo => ?_
  · have := s3 b hb
    have := c.units
    show X.A.units + 2 + (id b).depth < cLine
    simp only [id]
    omega
  · obtain ⟨ys, rv2, dr⟩ := each_back eo
    obtain ⟨ep, he⟩ := PyProof.Rows.sortedAll_at s.heap its (List.toArray out)
    have hyl : ys.length ≤ sizeLine := by rw [rv2.length, ho]; exact hlen
    exact ⟨.ref _, L2.upd H (s.heap.objs.size + 1) (.lst ys), I.laid (t' := s.toks) (fun _ _ => PyProof.Rows.sortedAll_old) (Nat.le_succ _) ⟨hyl, out, ep, rv2, he⟩, rfl, q ys _ dr (I.hok.fresh (Nat.le_succ _))⟩
def opSortedT : Val → Option D
  | .d (.tuple ds) => if sortOk ds then some (.list (sortD ds)) else none
  | _ => none
theorem sv_sortedT (c : Ctx Γ X) : Serves1 Γ (rSortTD X.K) opSortedT := fun ω x u z Q ok r h q => by
  cases u with
  | obj n => cases h
  | scr ns => cases h
  | d y =>
    cases y with
    | tuple ds =>
      simp only [opSortedT] at h
      split at h
      · rename_i hok
        cases h
        obtain ⟨p, vs, rfl, e, f, d⟩ := DT.tup ok r
        rw [← c.hK]
        exact ⟨ω.F, p, vs, ds, rfl, e, ok.sub, d, hok, fun ys p2 dr hp => new_list ok dr q hp⟩
      · cases h
    | _ => cases h
theorem me_sortedT (c : Ctx Γ X) (hg : Gl X "sorted") (ha : PE X a (T Γ O ma c1)) (na : starEach [a] X.env = (false, eval a X.env) :: starEach [] X.env := by rfl) : PE X (.Call (.Name "sorted" p) [a] [] pos) (T Γ O (eU opSortedT ma) true) :=
  me_b1 (cr_sortTD c) (sv_sortedT c) c.b_sorted (by decide +kernel) hg ha (by decide) (by decide) na
/-! list(range(n)) -/
theorem drs_ints {K : PySem.W.Frag} {F : Hp} (f : Nat → Int) : ∀ (l : List Nat), DRs K F (l.map fun i => V.int (f i)) (l.map fun i => PyData.int (f i))
  | [] => .nil
  | i :: l => .cons (.int _) (drs_ints f l)
def eLRg (a : Mean) : Mean := fun ρ S => match a ρ S with
  | some (.d (.int j), S1) => if 0 ≤ j ∧ j ≤ 1000000 then some (.d (.list (upFrom 0 j.toNat)), S1) else none
  | _ => none
theorem me_listRg {p2 pos2 : Pos} (c : Ctx Γ X) (hg : Gl X "list") (hg2 : Gl X "range") (ha : PE X a (T Γ O ma true)) (na : starEach [a] X.env = (false, eval a X.env) :: starEach [] X.env := by rfl)
    (nb : starEach [.Call (.Name "range" p2) [a] [] pos2] X.env = (false, eval (.Call (.Name "range" p2) [a] [] pos2) X.env) :: starEach [] X.env := by rfl) : PE X (.Call (.Name "list" p) [.Call (.Name "range" p2) [a] [] pos2] [] pos) (T Γ O (eLRg ma) true) :=
  PE.mono (pe_listRg c.calm hg c.b_list (prg_1 hg2 c.b_range ha na) nb) fun σ H Q ⟨ω, ρ, u, S', e1, ok, E, e2, k⟩ => by
  unfold eLRg at e2
  split at e2
  · rename_i j S1 em
    split at e2
    · rename_i hj
      cases e2
      refine ⟨ω, ρ, _, _, e1, ok, E, em, fun ω1 v l1 ok1 es1 r1 => ⟨j, DR.of_int r1, ?_, fun q hq => ?_⟩⟩
      · exact RgOk.of_le (by omega) (by omega) (by omega) (by omega)
      · have dr : DRs Γ.K ω1.F (rgV 0 j) (upFrom 0 j.toNat) := by
          unfold rgV upFrom
          rw [Int.sub_zero]
          exact drs_ints _ _
        exact new_list ok1 dr (fun ω2 v l2 ok2 es2 r2 => k ω2 v (l1.trans l2) ok2 (es2.trans es1) r2) hq
    · cases e2
  · cases e2
/-! a, b = .. of a list -/
def sUnpL (is : List Nat) (m : Mean) : SMean := fun ρ S => match m ρ S with
  | some (.d (.list ds), S1) => if ds.length = is.length then some (.nx (setAll ρ is (ds.map .d)) S1) else none
  | _ => none
theorem drs_rvs {F : Hp} {φ : List Addr} : ∀ {ds : List D} {vs : List V}, DRs Γ.K F vs ds → RVs Γ F φ vs (ds.map .d)
  | [], _, r => by rw [r.of_nil]; exact .nil
  | d :: ds, _, r => by
    obtain ⟨v, ws, rfl, h, k⟩ := r.of_cons
    exact .cons h (drs_rvs k)
theorem ms_unpL {es : List Expr} {kt : Nat} {is : List Nat} {pt : Pos} (c : Ctx Γ X) (hO : ∀ i ∈ is, i ∉ O) (ht : PGs X es (gNs is)) (he : PE X e (T Γ O m true)) (hn : (assignEach es X.env).length = is.length := by rfl) (hst : (assignEach es X.env).findIdx? (·.1) = none := by rfl)
    (hs : swapsWithSole [.Tuple es kt pt] e pos.line X.env = pure false := by rfl) (hw : swappedStores [.Tuple es kt pt] e X.env = pure none := by rfl) (h1 : (assignEach [.Tuple es kt pt] X.env).map (·.2) = [assign (.Tuple es kt pt) X.env] := by rfl) :
    PS X (.Assign [.Tuple es kt pt] e pos) (TS_ Γ O (sUnpL is m)) := PS.mono (ps_asg he (pg_lst c.calm ht hn hst) hs hw h1) fun D σ H ⟨ω₀, ω, ρ, r, e1, E, e2, k⟩ => by
  unfold sUnpL at e2
  split at e2
  · rename_i ds S1 em
    split at e2
    · rename_i hl
      cases e2
      refine ⟨ω, ρ, _, S1, e1, E.ok, E.env, em, fun ω' v l ok' es' r' => ?_⟩
      obtain ⟨p, vs, rfl, hH, dr⟩ := DR.of_lst r'
      have hlen : vs.length = is.length := by rw [dr.length]; exact hl
      refine ⟨p, vs, rfl, by rw [← c.hK]; exact .of (ok'.sub _ _ hH), hlen, gNs_ok hlen ?_⟩
      exact k ω' _ ((E.le_ l ok').setAll hO (drs_rvs dr)) l.F es'
    · cases e2
  · cases e2
end
end MP
set_option Elab.async false
set_option linter.all false
set_option maxRecDepth 20000
/-! Part 22: sorted(set(xs)) of a list of tuples of ints. -/
namespace MP
open PySem L2
open PySem.PyData (strOk)
def big : Int := 1000
def cd (l : List Int) : Int := TS.code big l
/-- among the rising -/
def insC (x : List Int) : List (List Int) → List (List Int)
  | [] => [x]
  | y :: ys => if cd x < cd y then x :: y :: ys else if x = y then y :: ys else y :: insC x ys
def setC : List (List Int) → List (List Int)
  | [] => []
  | x :: xs => insC x (setC xs)
/-- all are d ints in [0, big) -/
def okC (d : Nat) (l : List Int) : Bool := decide (l.length = d) && l.all fun i => decide (0 ≤ i) && decide (i < big)
theorem okC_use {d : Nat} {l : List Int} (h : okC d l = true) : l.length = d ∧ TS.Bd big l := by
  unfold okC at h
  rw [Bool.and_eq_true, decide_eq_true_eq, List.all_eq_true] at h
  exact ⟨h.1, fun m hm => by simpa using h.2 m hm⟩
theorem cd_inj : ∀ {a b : List Int}, a.length = b.length → TS.Bd big a → TS.Bd big b → cd a = cd b → a = b
  | [], [], _, _, _, _ => rfl
  | [], _ :: _, h, _, _, _ => by simp at h
  | _ :: _, [], h, _, _, _ => by simp at h
  | x :: a, y :: b, h, ha, hb, e => by
    have hl : a.length = b.length := by simpa using h
    have e : TS.code big (x :: a) = TS.code big (y :: b) := e
    have hxy : x = y := by
      rcases Int.lt_trichotomy x y with q | q | q
      · have := TS.code_lt hl ha.tail hb.tail q
        omega
      · exact q
      · have := TS.code_lt hl.symm hb.tail ha.tail q
        omega
    subst hxy
    have e2 : cd a = cd b := by
      have s1 := TS.code_same (B := big) (d := x) hl
      have s2 := TS.code_same (B := big) (d := x) hl.symm
      unfold cd
      omega
    rw [cd_inj hl ha.tail hb.tail e2]
theorem insC_mem {x k : List Int} : ∀ {ys : List (List Int)}, k ∈ insC x ys ↔ k = x ∨ k ∈ ys
  | [] => by simp [insC]
  | y :: ys => by
    unfold insC
    split
    · simp
    · split
      · rename_i h1 h2; subst h2; simp
      · rw [List.mem_cons, insC_mem, List.mem_cons]
        constructor
        · rintro (h | h | h)
          · exact .inr (.inl h)
          · exact .inl h
          · exact .inr (.inr h)
        · rintro (h | h | h)
          · exact .inr (.inl h)
          · exact .inl h
          · exact .inr (.inr h)
theorem setC_mem {k : List Int} : ∀ {xs : List (List Int)}, k ∈ setC xs ↔ k ∈ xs
  | [] => by simp [setC]
  | x :: xs => by rw [setC, insC_mem, setC_mem, List.mem_cons]
theorem insC_up {d : Nat} {x : List Int} (hx : okC d x = true) : ∀ {ys : List (List Int)}, (∀ y ∈ ys, okC d y = true) → ys.Pairwise (fun a b => cd a < cd b) → (insC x ys).Pairwise (fun a b => cd a < cd b)
  | [], _, _ => by simp [insC]
  | y :: ys, ho, h => by
    have h' := List.pairwise_cons.mp h
    unfold insC
    split
    · rename_i h1
      refine List.pairwise_cons.mpr ⟨fun z hz => ?_, h⟩
      rcases List.mem_cons.mp hz with e | e
      · subst e; exact h1
      · have := h'.1 z e; omega
    · split
      · exact h
      · rename_i h1 h2
        refine List.pairwise_cons.mpr ⟨fun z hz => ?_, insC_up hx (fun w hw => ho w (List.mem_cons_of_mem _ hw)) h'.2⟩
        rcases insC_mem.mp hz with e | e
        · subst e
          have a1 := okC_use hx
          have a2 := okC_use (ho y List.mem_cons_self)
          rcases Int.lt_trichotomy (cd y) (cd z) with q | q | q
          · exact q
          · exact absurd (cd_inj (a1.1.trans a2.1.symm) a1.2 a2.2 q.symm) h2
          · exact absurd q h1
        · exact h'.1 z e
theorem setC_up {d : Nat} : ∀ {xs : List (List Int)}, (∀ x ∈ xs, okC d x = true) → (setC xs).Pairwise (fun a b => cd a < cd b)
  | [], _ => by simp [setC]
  | x :: xs, h => insC_up (h x List.mem_cons_self) (fun y hy => h y (List.mem_cons_of_mem _ (setC_mem.mp hy))) (setC_up fun y hy => h y (List.mem_cons_of_mem _ hy))
theorem up_uniqC : ∀ {xs ys : List (List Int)}, xs.Pairwise (fun a b => cd a < cd b) → ys.Pairwise (fun a b => cd a < cd b) → (∀ k, k ∈ xs ↔ k ∈ ys) → xs = ys
  | [], [], _, _, _ => rfl
  | [], y :: ys, _, _, h => absurd ((h y).mpr List.mem_cons_self) (by simp)
  | x :: xs, [], _, _, h => absurd ((h x).mp List.mem_cons_self) (by simp)
  | x :: xs, y :: ys, h1, h2, h => by
    have p1 := List.pairwise_cons.mp h1
    have p2 := List.pairwise_cons.mp h2
    have e : x = y := by
      rcases List.mem_cons.mp ((h x).mp List.mem_cons_self) with a | a
      · exact a
      · rcases List.mem_cons.mp ((h y).mpr List.mem_cons_self) with b | b
        · exact b.symm
        · have := p2.1 x a
          have := p1.1 y b
          omega
    subst e
    rw [up_uniqC p1.2 p2.2 fun k => ?_]
    constructor
    · intro hk
      have := p1.1 k hk
      rcases List.mem_cons.mp ((h k).mp (List.mem_cons_of_mem _ hk)) with e | e
      · subst e; omega
      · exact e
    · intro hk
      have := p2.1 k hk
      rcases List.mem_cons.mp ((h k).mpr (List.mem_cons_of_mem _ hk)) with e | e
      · subst e; omega
      · exact e
def tupsD : List D → Option (List (List Int))
  | [] => some []
  | .tuple ds :: r => match intsD ds, tupsD r with
    | some l, some ls => some (l :: ls)
    | _, _ => none
  | _ => none
theorem tups_map : ∀ {ds : List D} {ls : List (List Int)}, tupsD ds = some ls → ds = ls.map fun l => .tuple (l.map PyData.int)
  | [], ls, h => by cases h; rfl
  | d :: r, ls, h => by
    cases d with
    | tuple xs =>
      simp only [tupsD] at h
      split at h
      · rename_i l ls' e1 e2
        cases h
        rw [ints_map e1, tups_map e2]
        rfl
      · cases h
    | _ => cases h
theorem ks_of {K : PySem.W.Frag} {F : Hp} : ∀ {ls : List (List Int)} {vs : List V}, DRs K F vs (ls.map fun l => .tuple (l.map PyData.int)) → ∃ ks : List (Addr × List Int), vs = ks.map (fun p => V.ref p.1) ∧ ks.map (·.2) = ls ∧ ∀ p ∈ ks, SqT K F p.1 (p.2.map V.int) ∧ PlT K F p.1
  | [], _, r => ⟨[], by rw [r.of_nil]; rfl, rfl, fun p h => absurd h (by simp)⟩
  | l :: ls, _, r => by
    obtain ⟨v, ws, rfl, h, k⟩ := DRs.of_cons (d := .tuple (l.map PyData.int)) (ds := ls.map fun l => .tuple (l.map PyData.int)) r
    obtain ⟨ks, e1, e2, e3⟩ := ks_of k
    obtain ⟨a, xs, rfl, hs, pl, dr⟩ := h.of_tupP
    rw [dr.intsD] at hs
    refine ⟨(a, l) :: ks, by rw [e1]; rfl, by rw [← e2]; rfl, fun p hp => ?_⟩
    rcases List.mem_cons.mp hp with e | e
    · rw [e]; exact ⟨hs, pl⟩
    · exact e3 p e
section
variable {Γ : Gam} {X : Cx} {O : List Nat}
def eSortSetT (a : Mean) : Mean := fun ρ S => match a ρ S with
  | some (.d (.list ds), S1) => match tupsD ds with
    | some ls => if ls.length < 64 ∧ 1 ≤ (ls.headD [0]).length ∧ (ls.all (okC (ls.headD [0]).length)) = true then some (.d (.list ((setC ls).map fun l => .tuple (l.map PyData.int))), S1) else none
    | none => none
  | _ => none
variable {a : Expr} {ma : Mean} {c1 : Bool} {p p2 pos pos2 : Pos}
theorem me_sortSetT (c : Ctx Γ X) (hg : Gl X "sorted") (hg2 : Gl X "set") (ha : PE X a (T Γ O ma c1)) (na : starEach [a] X.env = (false, eval a X.env) :: starEach [] X.env := by rfl)
    (nb : starEach [.Call (.Name "set" p2) [a] [] pos2] X.env = (false, eval (.Call (.Name "set" p2) [a] [] pos2) X.env) :: starEach [] X.env := by rfl)
    (hpl : (backTo pos (starEach [] X.env)).any (·.1) = false := by rfl) (hpl2 : (backTo pos2 (starEach [] X.env)).any (·.1) = false := by rfl) :
    PE X (.Call (.Name "sorted" p) [.Call (.Name "set" p2) [a] [] pos2] [] pos) (T Γ O (eSortSetT ma) true) :=
  PE.mono (pe_callB (cr_sortedT c.calm) hg c.b_sorted (by decide +kernel) (pa_cons (pe_callTy (cr_setOfT c.calm (by have := c.units; omega)) hg2 c.b_set (by decide +kernel) (pa_cons (PM.weak ha) pa_nil na) (by decide) (by decide) na hpl2) pa_nil nb) (by decide) (by decide) nb hpl) fun σ H Q ⟨ω, ρ, w, S', e1, ok, E, e2, k⟩ => by
  unfold eSortSetT at e2
  split at e2
  · rename_i ds S1 em
    split at e2
    · rename_i ls el
      split at e2
      · rename_i hn
        cases e2
        refine ⟨ω, ρ, _, _, e1, ok, E, em, fun ω1 v l1 ok1 es1 r1 => ?_⟩
        rw [tups_map el] at r1
        obtain ⟨q, vs, rfl, hH, dr⟩ := DT.list ok1 r1
        obtain ⟨ks, rfl, rfl, hks⟩ := ks_of dr
        have hX : ∀ p ∈ ks, SqT X.K ω1.H p.1 (p.2.map V.int) := fun p hp => by
          rw [← c.hK]
          exact ok1.sub.sqT (hks p hp).1
        have hok : ∀ p ∈ ks, okC ((ks.map (·.2)).headD [0]).length p.2 = true := fun p hp => List.all_eq_true.mp hn.2.2 p.2 (List.mem_map.mpr ⟨p, hp, rfl⟩)
        refine ⟨q, ks, rfl, .of hH, hX, by simpa using hn.1, fun p3 L hp hL1 hL2 => ?_⟩
        have l2 := Wd.lay_le ok1 (SetTO X.prog X.w p3 L) hp
        have ok2 := Wd.lay_ok ok1 (SetTO X.prog X.w p3 L) hp
        refine ⟨p3, L, ((ks.map (·.2)).headD [0]).length, big, rfl, upd_same, fun x hx => ?_, hn.2.1, fun x hx => okC_use (hok x (hL1 x hx)), fun L' p4 pm nd _ pw hp4 => ?_⟩
        · rw [← c.hK]
          exact ok2.sub.sqT (hks x (hL1 x hx)).1
        · have hm : ∀ x ∈ L', x ∈ ks := fun x hx => hL1 x (pm.mem_iff.mp hx)
          have eq : L'.map (·.2) = setC (ks.map (·.2)) := by
            refine up_uniqC ?_ (setC_up (d := ((ks.map (·.2)).headD [0]).length) fun x hx => List.all_eq_true.mp hn.2.2 x hx) fun x => ?_
            · rw [List.pairwise_map]
              have nd' : L'.Pairwise fun q r => q.2 ≠ r.2 := List.pairwise_map.mp nd
              refine (pw.and nd').imp_of_mem fun {q r} hq hr h => ?_
              have a1 := okC_use (hok q (hm q hq))
              have a2 := okC_use (hok r (hm r hr))
              rcases Int.lt_or_eq_of_le h.1 with z | z
              · exact z
              · exact absurd (cd_inj (a1.1.trans a2.1.symm) a1.2 a2.2 z) h.2
            · rw [setC_mem]
              constructor
              · intro hx
                obtain ⟨y, hy, rfl⟩ := List.mem_map.mp hx
                exact List.mem_map.mpr ⟨y, hm y hy, rfl⟩
              · intro hx
                obtain ⟨y, hy, rfl⟩ := List.mem_map.mp hx
                obtain ⟨z, hz, e⟩ := List.mem_map.mp (hL2 y hy)
                exact List.mem_map.mpr ⟨z, pm.mem_iff.mpr hz, e⟩
          have dl : ∀ (M : List (Addr × List Int)), (∀ x ∈ M, x ∈ ks) → DRs Γ.K ω1.F (M.map fun q => V.ref q.1) ((M.map (·.2)).map fun l => .tuple (l.map PyData.int)) := by
            intro M
            induction M with
            | nil => intro _; exact .nil
            | cons x M ih => intro h; exact .cons (.tup (hks x (h x List.mem_cons_self)).1 (hks x (h x List.mem_cons_self)).2 (DRs.of_ints _)) (ih fun y hy => h y (List.mem_cons_of_mem _ hy))
          have d := dl L' hm
          rw [eq] at d
          exact new_list ok2 d (fun ω4 v4 l4 ok4 es4 r4 => k ω4 v4 ((l1.trans l2).trans l4) ok4 (es4.trans es1) r4) hp4
      · cases e2
    · cases e2
  · cases e2
end
end MP
set_option Elab.async false
set_option linter.all false
set_option maxRecDepth 100000
set_option maxHeartbeats 400000
/-! Part 23: sorted(set(xs)) of copies of one tuple of ints and texts. -/
namespace MP
open PySem PySem.Calls PySem.Spec PyProof.Rows L2
section
variable {P : Program} {w : World} {A : Around} {E : Value → Shared → Prop} {s : Shared}
abbrev skey (P : Program) (w : World) (k : List Leaf) : Int := tupleKeyHash (leafKind P w) k
/-- the texts k, in a tuple at b -/
abbrev IsS (P : Program) (w : World) (g : Heap) (k : List Leaf) (b : Addr) : Prop := IsTupleKey (leafKind P w) g k b
/-- carried by value, of the sorts of leaves -/
def LeafV (u : Value) : Prop := ∃ k : Leaf, Leaf.isOf k u = true
theorem all_texts {k : List Leaf} {us : List Value} (h : ItemsAre (leafKind P w) k us) : ∀ u ∈ us, LeafV u := by
  induction h with
  | nil => intro u m; cases m
  | cons h1 _ ih =>
    intro u m
    rcases List.mem_cons.mp m with rfl | m
    · exact ⟨_, h1⟩
    · exact ih u m
theorem class_text (n : Nat) {u : Value} (h : LeafV u) : ofAClassStatement n u = pure false := by
  obtain ⟨k, h⟩ := h
  cases n <;> cases k <;> cases u <;> first | rfl | exact absurd h Bool.false_ne_true
theorem hashed_text (n : Nat) {u : Value} (h : LeafV u) : ∃ b, hashByValue n u = pure b := by
  obtain ⟨k, h⟩ := h
  cases n <;> cases k <;> cases u <;> first | exact ⟨_, rfl⟩ | exact absurd h Bool.false_ne_true
theorem one_of {L : List Addr} (h1 : L.length ≤ 1) (h2 : L ≠ []) : ∃ y, L = [y] := by
  cases L with
  | nil => exact absurd rfl h2
  | cons y M =>
    cases M with
    | nil => exact ⟨y, rfl⟩
    | cons z M => simp at h1
theorem class_texts {k : List Leaf} {c : Addr} {K : Bool → Shared → Prop} (hk : IsS P w s.heap k c) (q : K false s) : wpAny (model P w) A (ofAClassStatement 8 (.ref c)) K E s := by
  have ty := hk.typeIs
  obtain ⟨ob, us, m, g1, _, g2, g3⟩ := hk
  unfold ofAClassStatement
  refine wpAny_bind (wpAny_typeOf ty ?_)
  dsimp only
  have two : (("tuple" : String) == "tuple") = true := by decide
  simp only [two, if_true, Bool.not_true, Bool.false_eq_true, if_false]
  try refine wpAny_bind (wpAny_pure ?_)
  try simp only [Bool.not_true, Bool.false_eq_true, if_false]
  show wpAny _ _ (seqItems? (.ref c) >>= _) _ _ s
  refine wpAny_bind (wpAny_seqItems g1 g2 ?_)
  dsimp only
  refine wpAny_bind ?_
  show wpAny _ _ (forIn us _ _) _ _ s
  rw [← Array.forIn_toList]
  refine wpAny_forIn_list _ (fun more acc t => acc.1 = none ∧ t = s ∧ ∀ u ∈ more, LeafV u) _ ?_ ?_ _ _ ⟨rfl, rfl, all_texts g3⟩
  · rintro u more acc t ⟨e, rfl, al⟩
    rw [class_text _ (al u List.mem_cons_self)]
    refine wpAny_bind (wpAny_pure ?_)
    simp only [Bool.false_eq_true, if_false]
    exact wpAny_pure ⟨rfl, rfl, fun y hy => al y (List.mem_cons_of_mem _ hy)⟩
  · rintro ⟨c1, c2⟩ t ⟨e, rfl, _⟩
    simp only at e
    subst e
    exact wpAny_pure q
theorem hashed_texts {k : List Leaf} {c : Addr} {K : Bool → Shared → Prop} (hk : IsS P w s.heap k c) (q : ∀ b, K b s) : wpAny (model P w) A (hashByValue 8 (.ref c)) K E s := by
  have ty := hk.typeIs
  obtain ⟨ob, us, m, g1, _, g2, g3⟩ := hk
  unfold hashByValue
  refine wpAny_bind (wpAny_specialOf ty F.slot_tuple_hash.lookup ?_)
  show wpAny _ _ (seqItems? (.ref c) >>= _) _ _ s
  refine wpAny_bind (wpAny_seqItems g1 g2 ?_)
  refine wpAny_bind ?_
  show wpAny _ _ (forIn us _ _) _ _ s
  rw [← Array.forIn_toList]
  refine wpAny_forIn_list _ (fun more acc t => acc.1 = none ∧ t = s ∧ ∀ u ∈ more, LeafV u) _ ?_ ?_ _ _ ⟨rfl, rfl, all_texts g3⟩
  · rintro u more acc t ⟨e, rfl, al⟩
    obtain ⟨b, hb⟩ := hashed_text 7 (al u List.mem_cons_self)
    rw [hb]
    refine wpAny_bind (wpAny_pure ?_)
    cases b with
    | false =>
      simp only [Bool.not_false, if_true]
      exact wpAny_pure (wpAny_pure (q false))
    | true =>
      simp only [Bool.not_true, Bool.false_eq_true, if_false]
      exact wpAny_pure ⟨rfl, rfl, fun y hy => al y (List.mem_cons_of_mem _ hy)⟩
  · rintro ⟨c1, c2⟩ t ⟨e, rfl, _⟩
    simp only at e
    subst e
    exact wpAny_pure (q true)
theorem unseen_texts {k k2 : List Leaf} {b c : Addr} {K : Bool → Shared → Prop} (hb : IsS P w s.heap k b) (hc : IsS P w s.heap k2 c) (q : K false s) : wpAny (model P w) A (searchCouldBeSeen (.ref b) [.ref c]) K E s := by
  unfold searchCouldBeSeen
  refine wpAny_bind ?_
  refine wpAny_forIn_list _ (fun more acc t => acc.1 = none ∧ t = s ∧ (more = [] ∨ more = [Value.ref c])) _ ?_ ?_ _ _ ⟨rfl, rfl, .inr rfl⟩
  · rintro u more acc t ⟨e, rfl, al⟩
    have al : u :: more = [Value.ref c] := by rcases al with al | al; · cases al
                                              · exact al
    obtain ⟨rfl, rfl⟩ : u = Value.ref c ∧ more = [] := by simpa using al
    dsimp only
    by_cases z : (b == c || (carriedByValue (.ref b) && carriedByValue (.ref c))) = true
    · refine wp_if_pos z ?_
      exact wpAny_pure ⟨rfl, rfl, by simp⟩
    · refine wp_if_neg z ?_
      refine wpAny_bind (wpAny_eqIsQuiet_tuple hb ?_)
      simp only [Bool.not_true, Bool.false_eq_true, if_false]
      refine wpAny_bind (wpAny_eqIsQuiet_tuple hc ?_)
      simp only [Bool.not_true, Bool.false_eq_true, if_false]
      refine wpAny_bind (class_texts hb ?_)
      simp only [Bool.false_eq_true, if_false]
      refine wpAny_bind (class_texts hc ?_)
      simp only [Bool.false_eq_true, if_false]
      exact wpAny_pure ⟨rfl, rfl, by simp⟩
  · rintro ⟨c1, c2⟩ t ⟨e, rfl, _⟩
    simp only at e
    subst e
    exact wpAny_pure q

theorem tab_like {t1 t2 : SetTable} {hs : List Int} (T : TabOk t1 hs) (w1 : t2.place = t1.place) (w2 : t2.mask = t1.mask) (w3 : t2.dummies = t1.dummies) : TabOk t2 hs :=
  ⟨by rw [w1]; exact T.ris, by rw [w3]; exact T.dm, by rw [w1]; exact T.sz, by rw [w2]; exact T.mok, by rw [w1, w2]; exact T.bd, by rw [w1, w2]; exact T.reach⟩
/-- the set at a has no item, or one: the tuple of texts k at b -/
structure Set1 (P : Program) (w : World) (g : Heap) (a : Addr) (k : List Leaf) (L : List Addr) (es : Array (Int × Value)) (ep : Nat) (t : SetTable) : Prop where
  ob : ∃ o, g.get? a = some o ∧ o.ExactSet ∧ o.data = .set es ep t
  one : L.length ≤ 1
  rows : es.toList = L.map fun b => (skey P w k, Value.ref b)
  tab : TabOk t (L.map fun _ => skey P w k)
  m7 : t.mask = 7
  led : w.params.followText "set-order" = true ∨ t.led = true
variable {a : Addr} {k : List Leaf} {L : List Addr} {es : Array (Int × Value)} {ep : Nat} {t : SetTable}
theorem Set1.size (R : Set1 P w s.heap a k L es ep t) : es.size = L.length := by
  have e := congrArg List.length R.rows
  simpa using e
theorem Set1.fits (R : Set1 P w s.heap a k L es ep t) : t.fits es.size = true := by
  have e1 := R.tab.sz
  have e2 := R.size
  have e3 := R.one
  have e4 := R.m7
  rw [List.length_map] at e1
  unfold SetTable.fits SetTable.fill
  rw [R.tab.dm, Bool.and_eq_true, beq_iff_eq, decide_eq_true_eq]
  show t.place.size = es.size ∧ t.place.size + 0 ≤ t.mask
  omega
theorem Set1.kept (R : Set1 P w s.heap a k L es ep t) : ¬ t.gaveWay = true := by
  unfold SetTable.gaveWay
  rw [mask_odd R.tab.mok]
  decide
/-- the search -/
theorem Set1.seek (R : Set1 P w s.heap a k L es ep t) (ht : ∀ b ∈ L, IsS P w s.heap k b) {x : Addr} (hx : IsS P w s.heap k x) (hu : A.units < cLine) {Q : SetFound → Shared → Prop}
    (hin : L ≠ [] → Q (.there none) s)
    (hout : ∀ K, L = [] → way t.mask (skey P w k) K ∉ t.place.toList → (∀ c, c < K → way t.mask (skey P w k) c ∈ t.place.toList) → Q (.free (way t.mask (skey P w k) K) false) s) :
    wpAny (model P w) A (setSearch a (.ref x) (skey P w k) true) Q E s := by
  obtain ⟨o, ho, hex, hd⟩ := R.ob
  have hone := R.one
  have hm7 := R.m7
  obtain ⟨K, hKf, hK, hKb⟩ := R.tab.first (by rw [List.length_map]; omega) (skey P w k)
  unfold setSearch
  rw [show (100000 : Nat) = 99999 + 1 from rfl, setSearchFrom_succ]
  refine wpAny_bind (wpAny_setState_of ho hd R.fits ?_)
  dsimp only
  refine wp_if_neg R.kept ?_
  try refine wpAny_bind (wpAny_pure ?_)
  have spec := go_spec t R.tab.ris R.tab.dm (fun i => (es[i]?.map (·.1)).getD 0) (skey P w k) (10 * SetTable.turns t.mask) K (t.probeStart (skey P w k)) rfl hKf hKb hK
  rcases spec with ⟨q, i, hq, hi, hh, hno, hpr⟩ | ⟨hno, hpr⟩
  · have hpr' : t.probe (fun i => (es[i]?.map (·.1)).getD 0) (skey P w k) ((none : Option SetTable.Probe).getD (t.probeStart (skey P w k))) = _ := hpr
    rw [hpr']
    dsimp only
    have hil : i < t.place.toList.length := (List.getElem?_eq_some_iff.mp hi).1
    have hsz := R.tab.sz
    rw [List.length_map] at hsz
    rw [Array.length_toList] at hil
    match L, R, ht, hin, hone, hsz with
    | [], _, _, _, _, hsz => rw [hsz] at hil; exact absurd hil (Nat.not_lt_zero _)
    | _ :: _ :: _, _, _, _, hone, _ => simp at hone
    | [b], R, ht, hin, _, hsz =>
      obtain rfl : i = 0 := by simp at hsz; omega
      have hes : es = #[(skey P w k, Value.ref b)] := by
        apply Array.toList_inj.mp
        rw [R.rows]; rfl
      have hb := ht b List.mem_cons_self
      have fin : wpAny (model P w) A (searchRest a (.ref x) (skey P w k) true 99999 es t (nth t.mask (t.probeStart (skey P w k)) q).j 0 (nth t.mask (t.probeStart (skey P w k)) (q + 1))) Q E s := by
        unfold searchRest
        have e0 : es[0]? = some (skey P w k, Value.ref b) := by rw [hes]; rfl
        rw [e0]
        dsimp only
        refine wpAny_bind (wpAny_holding (wpAny_eqBool_tuple hu hb hx ?_))
        refine wpAny_bind (wpAny_setState_of ho hd R.fits ?_)
        dsimp only
        refine wp_if_pos (by simp) ?_
        exact wpAny_pure (hin (by simp))
      by_cases hl : t.led = true
      · refine wp_if_neg (by simp [hl]) ?_
        try refine wpAny_bind (wpAny_pure ?_)
        exact fin
      · refine wp_if_pos (by simp [hl]) ?_
        have e1 : (es.filter (·.1 == skey P w k)).toList.map (·.2) = [Value.ref b] := by rw [hes]; simp
        rw [e1]
        refine wpAny_bind (unseen_texts hx hb ?_)
        refine wp_if_neg (by decide) ?_
        try refine wpAny_bind (wpAny_pure ?_)
        exact fin
  · have hpr' : t.probe (fun i => (es[i]?.map (·.1)).getD 0) (skey P w k) ((none : Option SetTable.Probe).getD (t.probeStart (skey P w k))) = _ := hpr
    rw [hpr']
    dsimp only
    refine wpAny_pure (hout K ?_ hK hKb)
    match L, R, hone with
    | [], _, _ => rfl
    | _ :: _ :: _, _, hone => simp at hone
    | [b], R, _ =>
      exfalso
      have hs1 := R.tab.sz
      have hlt : 0 < t.place.toList.length := by rw [Array.length_toList, hs1]; simp
      have hj := List.getElem?_eq_getElem hlt
      obtain ⟨c, hc, e⟩ := R.tab.before (i := 0) hK (by rfl) hj
      refine hno c 0 hc (by rw [hj, ← e]; rfl) ?_
      have hes : es = #[(skey P w k, Value.ref b)] := by
        apply Array.toList_inj.mp
        rw [R.rows]; rfl
      rw [hes]; rfl
/-- one more of the same -/
theorem Set1.add (R : Set1 P w s.heap a k L es ep t) (ht : ∀ b ∈ L, IsS P w s.heap k b) {x : Addr} (hx : IsS P w s.heap k x) (hu : A.units < cLine) {Q : Bool → Shared → Prop}
    (hQ : ∀ b h' L' es' ep' t', Heap.SameBut a s.heap h' → Set1 P w h' a k L' es' ep' t' → (∃ y, L' = [y] ∧ (y = x ∨ y ∈ L)) → Q b { s with heap := h' }) :
    wpAny (model P w) A (setAddHashed a (.ref x) (skey P w k)) Q E s := by
  obtain ⟨o, ho, hex, hd⟩ := R.ob
  have hsz := R.size
  unfold setAddHashed
  refine wpAny_holding ?_
  rw [show (100000 : Nat) = 99999 + 1 from rfl, setAddHashedIn_succ]
  refine wpAny_bind (wpAny_setState_of ho hd R.fits ?_)
  dsimp only
  refine wp_if_neg (by simp [byScan, Value.scannable]) ?_
  try refine wpAny_bind (wpAny_pure ?_)
  refine wpAny_bind (R.seek ht hx hu (fun hm => ?_) fun K hm hK hb => ?_)
  · dsimp only
    have hone := R.one
    refine wpAny_pure (hQ false s.heap L es ep t (Heap.SameBut.refl a s.heap) R ?_)
    obtain ⟨y, e⟩ := one_of hone hm
    exact ⟨y, e, .inr (by rw [e]; exact List.mem_cons_self)⟩
  · subst hm
    dsimp only
    refine wpAny_bind (wpAny_setState_of ho hd R.fits ?_)
    dsimp only
    obtain ⟨q1, q2, q3, q4, q5, q6, q7, q8, q9⟩ := R.tab.put hK hb
    have hp0 : SetTable.below t.place (way t.mask (skey P w k) K) = 0 := Nat.le_zero.mp q2
    rw [hp0] at q1 q3
    generalize t.put (way t.mask (skey P w k) K) = pt at q1 q3 q4 q5 q6 q7 q8 q9 ⊢
    obtain ⟨t1, p⟩ := pt
    dsimp only at q1 q3 q4 q5 q6 q7 q8 q9 ⊢
    subst q1
    have both : ∀ t2 : SetTable, t2.place = t1.place → t2.mask = t1.mask → t2.dummies = t1.dummies → t2.led = t1.led → wpAny (model P w) A (do
        storeSet a (SetTable.insertAt es 0 (skey P w k, Value.ref x)) t2
        if !false && t2.tooFull then setRelay a (SetTable.grown (es.size + 1))
        return true) Q E s := fun t2 w1 w2 w3 w4 => by
      have hin : (SetTable.insertAt es 0 (skey P w k, Value.ref x)).toList = [(skey P w k, Value.ref x)] := by
        rw [SetTable.toList_insertAt, R.rows]; rfl
      have hes : (SetTable.insertAt es 0 (skey P w k, Value.ref x)).size = 1 := by
        have e := congrArg List.length hin
        simpa using e
      generalize SetTable.insertAt es 0 (skey P w k, Value.ref x) = es1 at hin hes ⊢
      refine wpAny_bind (wpAny_storeSet_of ho hd ?_ (by rw [hes, sizeLine_eq]; omega))
      have sb : Heap.SameBut a s.heap (s.heap.update a (Obj.putSet es1 t2)) := Heap.SameBut.update ..
      have ho1 := store_at (es' := es1) (t' := t2) ho hd
      generalize s.heap.update a (Obj.putSet es1 t2) = h1 at sb ho1 ⊢
      have q9' : t2.fill = 1 := by
        have e : t2.fill = t1.fill := by unfold SetTable.fill; rw [w1, w3]
        rw [e, q9]; rfl
      have hf : ¬ t2.tooFull = true := by
        unfold SetTable.tooFull
        rw [decide_eq_true_eq, q9', w2, q4, R.m7]
        simp
      first
        | refine wp_if_neg (by simp [hf]) ?_
        | (refine wpAny_bind ?_; refine wp_if_neg (by simp [hf]) ?_; refine wpAny_pure ?_)
      exact wpAny_pure (hQ true h1 [x] es1 (ep + 1) t2 sb ⟨⟨_, ho1, ⟨hex.1, hex.2.1, hex.2.2⟩, rfl⟩, Nat.le_refl 1, hin, tab_like q3 w1 w2 w3, w2.trans (q4.trans R.m7), by rw [w4, q5]; exact R.led⟩ ⟨x, rfl, .inl rfl⟩)
    by_cases hp : t1.plain = true
    · first
        | (refine wpAny_bind ?_; refine wp_if_pos hp ?_; refine hashed_texts hx fun b => ?_)
        | refine wp_if_pos hp (wpAny_bind (hashed_texts hx fun b => ?_))
      cases b
      · simp only [Bool.false_eq_true, if_false]
        exact both _ rfl rfl rfl rfl
      · simp only [if_true]
        exact both _ rfl rfl rfl rfl
    · first
        | (refine wpAny_bind ?_; refine wp_if_neg hp ?_; refine wpAny_pure ?_)
        | refine wp_if_neg hp ?_
      exact both _ rfl rfl rfl rfl
theorem isS_keep {g g2 : Heap} {b : Addr} (x : IsS P w g k b) (hk : ∀ c o, g.get? c = some o → g2.get? c = some o) : IsS P w g2 k b := by
  obtain ⟨o, us, n, ho, r⟩ := x
  exact ⟨o, us, n, hk b o ho, r⟩
theorem Set1.keep {g g2 : Heap} (R : Set1 P w g a k L es ep t) (ha : ∀ o, g.get? a = some o → g2.get? a = some o) : Set1 P w g2 a k L es ep t := by
  obtain ⟨o, ho, r⟩ := R.ob
  exact ⟨⟨o, ha o ho, r⟩, R.one, R.rows, R.tab, R.m7, R.led⟩
theorem set1_new {g : Heap} (ho : g.get? a = some (set0 w)) : Set1 P w g a k [] #[] 0 (.fresh 0 0 (!w.params.followText "set-order")) where
  ob := ⟨_, ho, ⟨rfl, rfl, rfl⟩, rfl⟩
  one := Nat.zero_le _
  rows := rfl
  tab := ⟨List.Pairwise.nil, rfl, rfl, .inl rfl, fun x hx => (by cases hx), fun i h j hi => (by simp at hi)⟩
  m7 := rfl
  led := by
    show _ ∨ (!w.params.followText "set-order") = true
    cases w.params.followText "set-order" <;> simp
/-- what the set is, the walk at i -/
def SetW (P : Program) (w : World) (g : Heap) (a : Addr) (k : List Leaf) (bs : List Addr) (i : Nat) : Prop := ∃ L es ep t, Set1 P w g a k L es ep t ∧ (∀ b ∈ L, b ∈ bs) ∧ (0 < i → L ≠ [])
theorem put_same {I : Addr} {fp wr : List Addr} {G : Array GenState → Array GenState → Prop} {n : Nat} {Pv : Nat → Value → Prop} {St : Nat → Shared → Prop} {R : Result → Shared → Prop}
    (W : WalksS P w A.in1 I fp wr G n Pv St) (q : Addr) (hq : q ∉ fp) (bs : List Addr) (vals : ∀ i v, Pv i v → ∃ b ∈ bs, v = .ref b)
    (g0 : Heap) (hb : ∀ b ∈ bs, IsS P w g0 k b) (q0 : g0.get? q = none) (w0 : ∀ b ∈ wr, g0.get? b = none) (hu : A.in1.units < cLine) :
    ∀ (m i : Nat) (s : Shared), n - i = m → i ≤ n → St i s → (∀ b o, g0.get? b = some o → s.heap.get? b = some o) → SetW P w s.heap q k bs i →
      (∀ s', Moved (q :: wr) G s s' → SetW P w s'.heap q k bs n → (∀ b o, g0.get? b = some o → s'.heap.get? b = some o) → R (.ok (.ret .none)) s') →
      codeAny (model P w) A (.builtin "set.update.loop" ⟨[.ref q, .ref I], []⟩) R s := by
  have qw : q ∉ wr := fun z => hq (W.sub _ z)
  have wider : ∀ b ∈ wr, b ∈ q :: wr := fun b z => List.mem_cons_of_mem _ z
  have stay : ∀ {s s' : Shared}, Moved wr G s s' → (∀ b o, g0.get? b = some o → s.heap.get? b = some o) → ∀ b o, g0.get? b = some o → s'.heap.get? b = some o := fun mv kp b o e =>
    mv.heap b o (fun z => by rw [w0 b z] at e; cases e) (kp b o e)
  intro m
  induction m with
  | zero =>
    intro i s hm hi st kp ⟨L, es, ep, t, S1, sub, ne⟩ fin
    obtain rfl : i = n := by omega
    refine codeAny_builtin F.entry_set_update_loop ?_
    rw [Around.under_plainId F.plain_set_update_loop _]
    show wpAny _ A.in1 (pyNext (.ref I) >>= _) _ _ s
    refine wpAny_bind (W.done s _ _ st fun s' mv => ?_)
    show wpAny _ A.in1 (ret Value.none) _ _ s'
    exact wpAny_pure (fin s' (mv.mono wider) ⟨L, es, ep, t, S1.keep fun o e => mv.heap q o qw e, sub, ne⟩ (stay mv kp))
  | succ m ih =>
    intro i s hm hi st kp ⟨L, es, ep, t, S1, sub, ne⟩ fin
    have lt : i < n := by omega
    refine codeAny_builtin F.entry_set_update_loop ?_
    rw [Around.under_plainId F.plain_set_update_loop _]
    show wpAny _ A.in1 (pyNext (.ref I) >>= _) _ _ s
    refine wpAny_bind (W.item i s _ _ lt st fun v s' pv st' mv => ?_)
    obtain ⟨x, hxb, rfl⟩ := vals i v pv
    have kp' := stay mv kp
    have S2 : Set1 P w s'.heap q k L es ep t := S1.keep fun o e => mv.heap q o qw e
    have hx : IsS P w s'.heap k x := isS_keep (hb x hxb) kp'
    show wpAny _ A.in1 (holding [Value.ref x] (setAdd q (.ref x)) >>= _) _ _ s'
    refine wpAny_bind (wpAny_holding ?_)
    unfold setAdd
    refine wpAny_holding ?_
    refine wpAny_bind (wpAny_pyHash_tuple hu hx ?_)
    refine Set1.add (s := { s' with toks := s'.toks + (k.length + 1) }) S2 (fun b z => isS_keep (hb b (sub b z)) kp') hx hu fun b g2 L2 es2 ep2 t2 sb S3 ⟨y, eL, hy⟩ => ?_
    have kp2 : ∀ b o, g0.get? b = some o → g2.get? b = some o := fun b o e => (sb.2 b (fun z => by rw [z, q0] at e; cases e)).trans (kp' b o e)
    have sub2 : ∀ b ∈ L2, b ∈ bs := fun b z => by
      rw [eL, List.mem_singleton] at z
      subst z
      rcases hy with e | e
      · rw [e]; exact hxb
      · exact sub _ e
    refine wpAny_pure ⟨plainId_quiet F.plain_set_update_loop _, ih (i + 1) _ (by omega) lt (W.frame _ s' _ _ st' (Nat.le_add_right _ _) fun b z o e => ?_) kp2 ⟨L2, es2, ep2, t2, S3, sub2, fun _ => by rw [eL]; simp⟩ fun s2 mv2 S4 kp3 => ?_⟩
    · rw [sb.2 b (fun e2 : b = q => hq (by rw [← e2]; exact z))]; exact e
    · refine fin s2 (Moved.trans W.gtrans ((mv.mono wider).then_heap (Nat.le_add_right _ _) fun b o z e => ?_) mv2) S4 kp3
      rw [sb.2 b (fun e2 : b = q => z (by rw [e2]; exact List.mem_cons_self))]; exact e
/-- the list's items are put into the new set at q -/
theorem init_set_same {l q : Addr} {vs : Array Value} {k : List Leaf} {bs : List Addr} {s1 : Shared} {R : Result → Shared → Prop} (hH : A.handled = none) (hq : s1.heap.get? q = some (set0 w)) (hlist : s1.heap.IsList l vs) (hql : q ≠ l) (hvs : vs.toList = bs.map Value.ref) (g0 : Heap) (hb : ∀ b ∈ bs, IsS P w g0 k b) (hg : ∀ b o, g0.get? b = some o → s1.heap.get? b = some o) (q0 : g0.get? q = none) (hu : A.units + 8 < cLine)
    (done : ∀ (h2 : Heap) (tk : Nat), SetW P w h2 q k bs vs.size → (∀ b o, b ≠ q → s1.heap.get? b = some o → h2.get? b = some o) → R (.ok (.ret .none)) { s1 with heap := h2, toks := tk }) :
    wpAny (model P w) A.in1 (Builtin.«set.__init__» ⟨[.ref q, .ref l], []⟩)
      (fun fin s2 => match fin with | .done f => R (.ok f) s2 | .again c => c.quiet = true ∧ codeAny (model P w) A c R s2) (fun e s2 => R (.error e) s2) s1 := by
  have hlt : l < s1.heap.objs.size := by obtain ⟨o, ho, _⟩ := hlist; exact Heap.lt_size ho
  have hqt : q < s1.heap.objs.size := Heap.lt_size hq
  obtain ⟨⟨k1, k2, k3, k4⟩, ho, hk, n, hdt⟩ := hlist
  simp only at hk hdt
  subst hk hdt
  have isL : s1.heap.IsList l vs := ⟨_, ho, rfl, n, rfl⟩
  have u1 := F.sub_list_set
  have u2 := F.sub_list_frozenset
  have u3 : (Value.type "list" == Value.type "dict") = false := by decide
  have tq : s1.TypeIs (.ref q) "set" := ⟨_, hq, rfl⟩
  have hq' := hq
  unfold set0 at hq'
  unfold Builtin.«set.__init__» noKeywords Builtin.Frozenset.updateFrom
  generalize hgen : pyIter = G
  wp_walk
  subst hgen
  refine wpAny_pyIter_list isL (wpAny_bind (wpAny_runValue ?_))
  have in3 : A.in1.in1.handled = none := by simp [hH]
  have gl : l ≠ s1.heap.objs.size := Nat.ne_of_lt hlt
  have gq : q ∉ [s1.heap.objs.size, l] := by
    intro z
    rcases List.mem_cons.mp z with e | e
    · exact absurd e (Nat.ne_of_lt hqt)
    · exact hql (List.mem_singleton.mp e)
  have got : ∀ (i : Nat) (v : Value), vs[i]? = some v → ∃ b ∈ bs, v = .ref b := fun i v hv => by
    have m : v ∈ vs.toList := List.mem_of_getElem? (by rw [Array.getElem?_toList]; exact hv)
    rw [hvs] at m
    obtain ⟨b, hb, e⟩ := List.mem_map.mp m
    exact ⟨b, hb, e.symm⟩
  have w0 : ∀ b ∈ [s1.heap.objs.size], g0.get? b = none := fun b z => by
    rw [List.mem_singleton] at z
    subst z
    cases e : g0.get? s1.heap.objs.size with
    | none => rfl
    | some o => exact absurd (Heap.lt_size (hg _ _ e)) (Nat.lt_irrefl _)
  have sq : (s1.heap.push { cls := .type "list_iterator", data := .fields #[.ref l, .int 0 0] }).get? q = some (set0 w) := Heap.get?_push_of_some _ hq
  refine put_same ((Walks.list in3 _ l gl vs).toS) q gq bs got g0 hb q0 w0 (by simp only [Around.in1_units]; omega) (vs.size - 0) 0 _ (by omega) (Nat.zero_le _) ⟨⟨_, Heap.get?_push_size _ rfl, rfl, rfl⟩, isL.push _⟩ (fun b o e => Heap.get?_push_of_some _ (hg b o e)) ⟨[], #[], 0, _, set1_new sq, fun b z => (by cases z), fun z => absurd z (Nat.lt_irrefl 0)⟩ fun s3 mv hS kp => ?_
  obtain ⟨h3, g3, d3, t3, o3⟩ := s3
  obtain rfl : g3 = s1.gens := mv.gens
  obtain rfl : d3 = s1.drawn := mv.drawn
  obtain rfl : o3 = s1.os := mv.os
  show wpAny _ _ _ _ _ _
  refine wpAny_pure ?_
  show wpAny _ _ (ret Value.none) _ _ _
  refine wpAny_pure (done h3 t3 hS fun b o hb e => ?_)
  refine mv.heap b o (fun z => ?_) (Heap.get?_push_of_some _ e)
  rcases List.mem_cons.mp z with e2 | e2
  · exact hb e2
  · exact absurd (List.mem_singleton.mp e2) (Nat.ne_of_lt (Heap.lt_size e))
/-- set(xs) -/
theorem call_set_same {l : Addr} {vs : Array Value} {k : List Leaf} {bs : List Addr} {Q : Value → Shared → Prop} (hH : A.handled = none) (hlist : s.heap.IsList l vs) (hvs : vs.toList = bs.map Value.ref) (hb : ∀ b ∈ bs, IsS P w s.heap k b) (hu : A.units + 16 < cLine)
    (fin : ∀ (h2 : Heap) (tk : Nat), SetW P w h2 s.heap.objs.size k bs vs.size → (∀ b o, s.heap.get? b = some o → h2.get? b = some o) → Q (.ref s.heap.objs.size) { s with heap := h2, toks := tk }) :
    wpAny (model P w) A (call (.type "set") [.ref l]) Q E s := by
  have hlt : l < s.heap.objs.size := by obtain ⟨o, ho, _⟩ := hlist; exact Heap.lt_size ho
  have none_q : s.heap.get? s.heap.objs.size = none := by
    cases e : s.heap.get? s.heap.objs.size with
    | none => rfl
    | some o => exact absurd (Heap.lt_size e) (Nat.lt_irrefl _)
  obtain ⟨mc, mt, m1⟩ := F.called_set.mro
  have m2 := F.called_set.made
  have m3 := F.called_set.sub
  have m4 := F.called_set.notType
  have m5 := F.called_set.canCreate
  have m6 := F.typeCall_set_1 (.ref l)
  refine wpAny_call (codeAny_of_tree ?_)
  show wpAny _ _ (callAny (.type "set") _) _ _ _
  refine wpAny_pure ⟨Code.quiet_builtin _ (by decide +kernel), codeAny_builtin F.entry_type_call ?_⟩
  rw [Around.under_plain (weight_type_call_type "set" [.ref l] []) rfl]
  repeat (any_goals (first | assumption | wp_step))
  refine codeAny_mono (code_set_led1 (.ref l) (E := E) (Q₁ := fun v t => v = .ref s.heap.objs.size ∧ t = { s with heap := s.heap.push (set0 w) }) ⟨rfl, rfl⟩) fun r t hr => ?_
  cases r with
  | error e => exact hr
  | ok fl =>
    cases fl with
    | ret v =>
      obtain ⟨rfl, rfl⟩ := hr
      have q1 : (s.heap.push (set0 w)).get? s.heap.objs.size = some (set0 w) := Heap.get?_push_size _ rfl
      have q2 : Shared.TypeIs { s with heap := s.heap.push (set0 w) } (.ref s.heap.objs.size) "set" := ⟨_, q1, rfl⟩
      have q3 := F.called_set.init.lookup
      have q4 := F.called_set.init.bind (.ref s.heap.objs.size)
      repeat (any_goals (first | assumption | wp_step))
      refine codeAny_mono (codeAny_call_builtin (R := wants (fun v t => v = .none ∧ ∃ h2 tk, t = { s with heap := h2, toks := tk } ∧ SetW P w h2 s.heap.objs.size k bs vs.size ∧ (∀ b o, s.heap.get? b = some o → h2.get? b = some o)) E)
        F.called_set.init.plain F.entry_set_init (check_set_init_1 q2 ?_)) fun r2 t2 hr2 => ?_
      · refine init_set_same (s1 := { s with heap := s.heap.push (set0 w) }) (A := A.in1) (by simp [hH]) q1 (hlist.push _) (Nat.ne_of_gt hlt) hvs s.heap hb (fun b o e => Heap.get?_push_of_some _ e) none_q (by simp only [Around.in1_units]; omega) fun h2 tk hS hk => ?_
        exact ⟨rfl, h2, tk, rfl, hS, fun b o e => hk b o (Nat.ne_of_lt (Heap.lt_size e)) (Heap.get?_push_of_some _ e)⟩
      · cases r2 with
        | error e => exact hr2
        | ok f2 =>
          cases f2 with
          | ret v2 =>
            obtain ⟨rfl, h2, tk, rfl, hS, hk⟩ := hr2
            repeat (any_goals (first | assumption | wp_step))
            exact fin _ _ hS hk
          | _ => exact hr2.elim
    | _ => exact hr.elim
/-- list.sort of one item -/
theorem sort_single {l : Addr} {v : Value} {n : Nat} {K : PySem.Fin → Shared → Prop} (ho : s.heap.get? l = some (seqObj "list" [v].toArray n)) (h : K (.done (.ret .none)) { s with heap := sortedHeap s.heap l [v] #[v] }) :
    wpAny (model P w) A (Builtin.«list.sort» ⟨[.ref l], []⟩) K E s := by
  refine SK.plain_sort (r := fun _ => 0) ho (by simp) (fun h2 => absurd h2 (by simp)) fun ps out h1 h2 _ => ?_
  have e : ps = [(v, v)] := List.perm_singleton.mp h2
  have e2 : out = #[v] := by
    apply Array.toList_inj.mp
    rw [h1, e]; rfl
  rw [e2]; exact h
/-- sorted of the set -/
theorem sorted_same {bs : List Addr} {n : Nat} {Q : Value → Shared → Prop} (R : SetW P w s.heap a k bs n) (hn : 0 < n) (hh : A.handled = none)
    (fin : ∀ s' p y c, y ∈ bs → (∀ b o, s.heap.get? b = some o → s'.heap.get? b = some o) → s'.gens = s.gens → s'.os = s.os → s.heap.objs.size ≤ p → s'.heap.get? p = some (seqObj "list" [Value.ref y].toArray c) → Q (.ref p) s') :
    wpAny (model P w) A (call (.builtin "sorted") [.ref a]) Q E s := by
  obtain ⟨L, es, ep, t, R, sub, ne⟩ := R
  obtain ⟨y, rfl⟩ := one_of R.one (ne hn)
  obtain ⟨o, ho, hex, hd⟩ := R.ob
  have esz : es.size = 1 := R.size
  refine Calls.call_function_entry kind_sorted plain_sorted entry_sorted (args_sorted1 _) ?_
  unfold Builtin.«sorted»
  refine wpAny_bind (m := checkCount "sorted" 1 1 _) (wpAny_pure ?_)
  refine wpAny_bind (collect_set (A := A.in1) hh ⟨o, ho, hex.1, hd⟩ R.fits (by rw [esz]; decide) R.tab.ris R.led fun s1 vs k1 hz g1 o1 pm => ?_)
  rw [R.rows] at pm
  obtain rfl : vs = [Value.ref y] := List.perm_singleton.mp pm
  refine wpAny_bind (wpAny_newList ?_ (by rw [sizeLine_eq]; simp))
  have at1 : (s1.heap.push (seqObj "list" [Value.ref y].toArray 0)).get? s1.heap.objs.size = some (seqObj "list" [Value.ref y].toArray 0) := Heap.get?_push_size _ rfl
  refine wpAny_bind (wpAny_holding (wpAny_call_entry slot_list_sort ⟨_, at1, rfl⟩ entry_list_sort (sort_single (s := { s1 with heap := s1.heap.push (seqObj "list" [Value.ref y].toArray 0) }) at1 ⟨_, rfl, ?_⟩) (args_list_sort _)))
  obtain ⟨c, at2⟩ := sortedHeap_at (vs := [Value.ref y]) (out := #[Value.ref y]) at1
  refine wpAny_pure ⟨_, rfl, fin _ s1.heap.objs.size y c (sub y List.mem_cons_self) (fun b u e => ?_) g1 o1 hz at2⟩
  have old := k1 b u e
  have lt := Heap.lt_size old
  show (sortedHeap (s1.heap.push (seqObj "list" [Value.ref y].toArray 0)) s1.heap.objs.size [Value.ref y] #[Value.ref y]).get? b = some u
  rw [sortedHeap_old (Nat.ne_of_lt lt) (by rw [size_push']; exact Nat.lt_succ_of_lt lt)]
  exact Heap.get?_push_of_some _ old
end
/-! the rule -/
open PySem.PyData (strOk)
def SetKO (P : Program) (w : World) (a : Addr) (k : List Leaf) (bs : List Addr) (n : Nat) : HO := .ext fun h => SetW P w h a k bs n
theorem SetW.keep {P : Program} {w : World} {h h2 : Heap} {a : Addr} {k : List Leaf} {bs : List Addr} {n : Nat} (R : SetW P w h a k bs n) (ha : ∀ o, h.get? a = some o → h2.get? a = some o) : SetW P w h2 a k bs n := by
  obtain ⟨L, es, ep, t, S, r⟩ := R
  exact ⟨L, es, ep, t, S.keep ha, r⟩
theorem setKO_new {P : Program} {w : World} {H : Hp} {h : Heap} {a : Addr} {k : List Leaf} {bs : List Addr} {n : Nat} (R : SetW P w h a k bs n) : ObjOk P w H h a (SetKO P w a k bs n) := by
  have ⟨L, es, ep, t, S, r⟩ := R
  obtain ⟨o, ho, _⟩ := S.ob
  exact ⟨R, ⟨o, ho⟩, fun h1 h2 p k => SetW.keep p k⟩
def leafV : Leaf → V
  | .none => .non
  | .num i => .int i
  | .text x => .str x
theorem items_of_leaves {P : Program} {w : World} : ∀ {k : List Leaf} {us : List Value}, Vals (k.map leafV) us → ItemsAre (leafKind P w) k us
  | [], _, .nil => .nil
  | .none :: k, _, .cons r t => by
    cases r
    exact .cons rfl (items_of_leaves t)
  | .num n :: k, _, .cons r t => by
    obtain ⟨tk, rfl⟩ := r
    exact .cons (show Leaf.isOf (.num n) (.int n tk) = true by simp [Leaf.isOf]) (items_of_leaves t)
  | .text x :: k, _, .cons r t => by
    obtain ⟨tk, rfl⟩ := r
    exact .cons (show Value.isStrOf x (.str x tk) = true by simp [Value.isStrOf, Value.isStr]) (items_of_leaves t)
theorem vals_refs : ∀ {bs : List Addr} {us : List Value}, Vals (bs.map V.ref) us → us = bs.map Value.ref
  | [], _, .nil => rfl
  | p :: ks, _, .cons r t => by
    cases r
    rw [vals_refs t] <;> rfl
section
variable {X : Cx}
theorem inv_isS {pins : List (Addr × Obj)} {σ : L2.St} {H : Hp} {s : Shared} {b : Addr} {k : List Leaf} (I : Inv X pins σ H s) (h : SqT X.K H b (k.map leafV)) : IsS X.prog X.w s.heap k b := by
  obtain ⟨its, r, ⟨o, ho, hc, n, hd⟩, _⟩ := I.tuple h
  exact ⟨o, its.toArray, n, ho, hc, hd, by simpa using items_of_leaves r⟩
def rSetOfK (K : PySem.W.Frag) (P : Program) (w : World) : List V → Hp → VK → Prop := fun xs H Q => ∃ (l : Addr) (bs : List Addr) (k : List Leaf), xs = [V.ref l] ∧ SqL K H l (bs.map V.ref) ∧ (∀ b ∈ bs, SqT K H b (k.map leafV)) ∧
  ∀ a, H a = none → Q (.ref a) (upd H a (SetKO P w a k bs bs.length))
theorem cr_setOfK (hc : X.calm = true) (hu : X.A.units + 64 < cLine) : CallR X (.type "set") (rSetOfK X.K X.prog X.w) := by
  intro pins s σ H xs us Q I r h
  obtain ⟨l, bs, k, rfl, hl, hk, q⟩ := h
  rw [Vals.ref1 r]
  obtain ⟨its, rv, pl, hz⟩ := I.list hl
  have hn : H s.heap.objs.size = none := I.hok.fresh (Nat.le_refl _)
  have ev : its.toArray.toList = bs.map Value.ref := by simpa using vals_refs rv
  have el : its.toArray.size = bs.length := by
    have := congrArg List.length ev
    simpa using this
  refine call_set_same (P := X.prog) (w := X.w) (k := k) (I.ok.hd hc) pl.isList ev (fun b hb => inv_isS I (hk b hb)) (by omega) fun h' tk R g => ?_
  rw [el] at R
  exact ⟨.ref s.heap.objs.size, upd H s.heap.objs.size (SetKO X.prog X.w s.heap.objs.size k bs bs.length), I.laid (t' := tk) g (Nat.le_refl _) (setKO_new R), rfl, q _ hn⟩
def rSortedK (P : Program) (w : World) : List V → Hp → VK → Prop := fun vs H Q => ∃ (a : Addr) (k : List Leaf) (bs : List Addr) (n : Nat), vs = [V.ref a] ∧ H a = some (SetKO P w a k bs n) ∧ 0 < n ∧
  ∀ (y p : Addr), y ∈ bs → H p = none → Q (.ref p) (upd H p (.lst [V.ref y]))
theorem cr_sortedK (hc : X.calm = true) : CallR X (.builtin "sorted") (rSortedK X.prog X.w) := by
  intro pins s σ H vs us Q I r h
  obtain ⟨a, k, bs, n, rfl, ha, hn, q⟩ := h
  have R0 : SetW X.prog X.w s.heap a k bs n := (I.hok a _ ha).1
  rw [Vals.ref1 r]
  refine sorted_same R0 hn (I.ok.hd hc) fun s' p y c hy kp g o hp hg => ?_
  have hn : H p = none := I.hok.fresh hp
  have J : Inv X pins σ (upd H p (.lst [V.ref y])) { s with heap := s'.heap, gens := s'.gens, drawn := s'.drawn, toks := s'.toks } :=
    I.call (ch := []) (Un.laid kp hp hn) (I.hok.laid kp hp ⟨by rw [sizeLine_eq]; simp, [Value.ref y], c, .cons rfl .nil, hg⟩) (by rw [g]; exact I.bare) (fun _ z => nomatch z)
  have e : s' = { s with heap := s'.heap, gens := s'.gens, drawn := s'.drawn, toks := s'.toks } := by
    cases s'
    cases s
    cases o
    rfl
  rw [e]
  exact ⟨.ref p, _, J, rfl, q y p hy hn⟩
end
def leafD : D → Option Leaf
  | .int i => some (.num i)
  | .str x => some (.text x)
  | _ => none
def leavesD : List D → Option (List Leaf)
  | [] => some []
  | d :: r => match leafD d, leavesD r with
    | some l, some ls => some (l :: ls)
    | _, _ => none
def leafOf : Leaf → D
  | .none => .none
  | .num i => .int i
  | .text x => .str x
theorem leafD_eq {d : D} {l : Leaf} (h : leafD d = some l) : d = leafOf l := by
  cases d <;> simp only [leafD] at h <;> cases h <;> rfl
theorem leavesD_eq : ∀ {ds : List D} {k : List Leaf}, leavesD ds = some k → ds = k.map leafOf
  | [], k, h => by cases h; rfl
  | d :: r, k, h => by
    simp only [leavesD] at h
    split at h
    · rename_i l ls e1 e2
      cases h
      rw [leafD_eq e1, leavesD_eq e2]
      rfl
    · cases h
theorem vs_of_leaves {K : PySem.W.Frag} {F : Hp} : ∀ {k : List Leaf} {vs : List V}, DRs K F vs (k.map leafOf) → vs = k.map leafV
  | [], _, r => by rw [r.of_nil]; rfl
  | l :: k, _, r => by
    obtain ⟨v, ws, rfl, h, t⟩ := DRs.of_cons (d := leafOf l) (ds := k.map leafOf) r
    rw [vs_of_leaves t]
    cases l with
    | none => rw [DR.of_non h]; rfl
    | num i => rw [DR.of_int h]; rfl
    | text x => rw [(DR.of_str h).1]; rfl
theorem bs_of {K : PySem.W.Frag} {F : Hp} {k : List Leaf} : ∀ {ds : List D} {vs : List V}, (∀ d ∈ ds, d = .tuple (k.map leafOf)) → DRs K F vs ds → ∃ bs : List Addr, vs = bs.map V.ref ∧ bs.length = ds.length ∧ ∀ b ∈ bs, SqT K F b (k.map leafV) ∧ DR K F (.ref b) (.tuple (k.map leafOf))
  | [], _, _, r => ⟨[], by rw [r.of_nil]; rfl, rfl, fun p h => absurd h (by simp)⟩
  | d :: ds, _, hd, r => by
    obtain ⟨v, ws, rfl, h, t⟩ := DRs.of_cons r
    obtain ⟨bs, e1, e2, e3⟩ := bs_of (fun x hx => hd x (List.mem_cons_of_mem _ hx)) t
    obtain rfl := hd d List.mem_cons_self
    have h0 := h
    obtain ⟨a, xs, rfl, hs, dr⟩ := h.of_tup
    rw [vs_of_leaves dr] at hs
    refine ⟨a :: bs, by rw [e1]; rfl, by rw [List.length_cons, List.length_cons, e2], fun p hp => ?_⟩
    rcases List.mem_cons.mp hp with e | e
    · rw [e]; exact ⟨hs, h0⟩
    · exact e3 p e
section
variable {Γ : Gam} {X : Cx} {O : List Nat}
def sameL (k : List Leaf) : D → Bool
  | .tuple u => decide (leavesD u = some k)
  | _ => false
/-- sorted(set(xs)) of copies of one tuple of ints and texts -/
def eSortSetK (a : Mean) : Mean := fun ρ S => match a ρ S with
  | some (.d (.list (.tuple t :: xs)), S1) => match leavesD t with
    | some k => if xs.all (sameL k) = true then some (.d (.list [.tuple t]), S1) else none
    | none => none
  | _ => none
variable {a : Expr} {ma : Mean} {c1 : Bool} {p p2 pos pos2 : Pos}
theorem me_sortSetK (c : Ctx Γ X) (hg : Gl X "sorted") (hg2 : Gl X "set") (ha : PE X a (T Γ O ma c1)) (na : starEach [a] X.env = (false, eval a X.env) :: starEach [] X.env := by rfl)
    (nb : starEach [.Call (.Name "set" p2) [a] [] pos2] X.env = (false, eval (.Call (.Name "set" p2) [a] [] pos2) X.env) :: starEach [] X.env := by rfl)
    (hpl : (backTo pos (starEach [] X.env)).any (·.1) = false := by rfl) (hpl2 : (backTo pos2 (starEach [] X.env)).any (·.1) = false := by rfl) :
    PE X (.Call (.Name "sorted" p) [.Call (.Name "set" p2) [a] [] pos2] [] pos) (T Γ O (eSortSetK ma) true) :=
  PE.mono (pe_callB (cr_sortedK c.calm) hg c.b_sorted (by decide +kernel) (pa_cons (pe_callTy (cr_setOfK c.calm (by have := c.units; omega)) hg2 c.b_set (by decide +kernel) (pa_cons (PM.weak ha) pa_nil na) (by decide) (by decide) na hpl2) pa_nil nb) (by decide) (by decide) nb hpl) fun σ H Q ⟨ω, ρ, w, S', e1, ok, E, e2, k⟩ => by
  unfold eSortSetK at e2
  split at e2
  · rename_i t xs S1 em
    split at e2
    · rename_i kk el
      split at e2
      · rename_i hn
        cases e2
        refine ⟨ω, ρ, _, _, e1, ok, E, em, fun ω1 v l1 ok1 es1 r1 => ?_⟩
        have hall : ∀ d ∈ (PyData.tuple t :: xs), d = .tuple (kk.map leafOf) := fun d hd => by
          rcases List.mem_cons.mp hd with e | e
          · rw [e, leavesD_eq el]
          · have := List.all_eq_true.mp hn d e
            cases d with
            | tuple u =>
              have q : leavesD u = some kk := of_decide_eq_true this
              rw [leavesD_eq q]
            | _ => exact absurd this Bool.false_ne_true
        obtain ⟨q, vs, rfl, hH, dr⟩ := DT.list ok1 r1
        obtain ⟨bs, rfl, eb, hbs⟩ := bs_of hall dr
        refine ⟨q, bs, kk, rfl, .of hH, fun b hb => ?_, fun p3 hp => ?_⟩
        · rw [← c.hK]
          exact ok1.sub.sqT (hbs b hb).1
        have l2 := Wd.lay_le ok1 (SetKO X.prog X.w p3 kk bs bs.length) hp
        have ok2 := Wd.lay_ok ok1 (SetKO X.prog X.w p3 kk bs bs.length) hp
        refine ⟨p3, kk, bs, bs.length, rfl, upd_same, by rw [eb]; simp, fun y p4 hy hp4 => ?_⟩
        have d := (hbs y hy).2
        rw [← leavesD_eq el] at d
        exact new_list ok2 (.cons d .nil) (fun ω4 v4 l4 ok4 es4 r4 => k ω4 v4 ((l1.trans l2).trans l4) ok4 (es4.trans es1) r4) hp4
      · cases e2
    · cases e2
  · cases e2
end
end MP
set_option Elab.async false
set_option linter.all false
set_option maxRecDepth 20000
/-! Part 16: the meanings reckoned out. -/
namespace MP
open PySem L2
section
variable {ρ : Env} {S : Store} {a b t : Mean} {ms : Means} {B : Calls}
@[simp] theorem x_var (i : Nat) : eVar i ρ S = (ρ.getD i none).map fun u => (u, S) := rfl
@[simp] theorem x_c (d : D) : eC d ρ S = some (.d d, S) := rfl
@[simp] theorem x_bin (op : D → D → Option D) : eBin op a b ρ S = match a ρ S with
  | some (.d x, S1) => match b ρ S1 with
    | some (.d y, S2) => (op x y).map fun z => (.d z, S2)
    | _ => none
  | _ => none := rfl
@[simp] theorem x_and : eAnd a b ρ S = match a ρ S with
  | some (.d (.bool true), S1) => b ρ S1
  | some (.d (.bool false), S1) => some (.d (.bool false), S1)
  | _ => none := rfl
@[simp] theorem x_or : eOr a b ρ S = match a ρ S with
  | some (.d (.bool true), S1) => some (.d (.bool true), S1)
  | some (.d (.bool false), S1) => b ρ S1
  | _ => none := rfl
@[simp] theorem x_not : eNot a ρ S = match a ρ S with
  | some (.d (.bool b), S1) => some (.d (.bool (!b)), S1)
  | _ => none := rfl
@[simp] theorem x_if : eIf t a b ρ S = match t ρ S with
  | some (.d (.bool true), S1) => a ρ S1
  | some (.d (.bool false), S1) => b ρ S1
  | _ => none := rfl
@[simp] theorem x_neg : eNeg a ρ S = match a ρ S with
  | some (.d (.int i), S1) => some (.d (.int (-i)), S1)
  | _ => none := rfl
@[simp] theorem x_nil : aNil ρ S = some ([], S) := rfl
@[simp] theorem x_cons : aCons a ms ρ S = match a ρ S with
  | some (u, S1) => match ms ρ S1 with
    | some (us, S2) => some (u :: us, S2)
    | none => none
  | none => none := rfl
@[simp] theorem x_tup : eTup ms ρ S = match ms ρ S with
  | some (us, S1) => (datas us).map fun ds => (.d (.tuple ds), S1)
  | none => none := rfl
@[simp] theorem x_lst : eLst ms ρ S = match ms ρ S with
  | some (us, S1) => (datas us).map fun ds => (.d (.list ds), S1)
  | none => none := rfl
@[simp] theorem x_datas0 : datas [] = some [] := rfl
@[simp] theorem x_datas (d : D) (r : List Val) : datas (.d d :: r) = (datas r).map (d :: ·) := rfl
@[simp] theorem x_call (f : Nat) : eCall B f ms [] ρ S = match ms ρ S with
  | some (us, S1) => B f us S1
  | none => none := by
  unfold eCall
  cases ms ρ S with
  | none => rfl
  | some r => simp only [List.append_nil]
@[simp] theorem x_u (op : Val → Option D) : eU op a ρ S = match a ρ S with
  | some (u, S1) => (op u).map fun z => (.d z, S1)
  | none => none := rfl
@[simp] theorem x_ix : eIx a b ρ S = match a ρ S with
  | some (u, S1) => match b ρ S1 with
    | some (.d (.int i), S2) => match items S2 u with
      | some ds => (L2.atI ds i).map fun z => (.d z, S2)
      | none => none
    | _ => none
  | none => none := rfl
@[simp] theorem x_itemsL (ds : List D) : items S (.d (.list ds)) = some ds := rfl
@[simp] theorem x_itemsT (ds : List D) : items S (.d (.tuple ds)) = some ds := rfl
@[simp] theorem x_oNo : oNo ρ S = some (none, S) := rfl
@[simp] theorem x_oSome : oSome a ρ S = match a ρ S with
  | some (.d (.int i), S1) => some (some i, S1)
  | _ => none := rfl
@[simp] theorem x_sl (lo hi : MO) : eSl a lo hi ρ S = match a ρ S with
  | some (u, S1) => match lo ρ S1 with
    | some (l, S2) => match hi ρ S2 with
      | some (h, S3) => (opSl u l h).map fun z => (.d z, S3)
      | none => none
    | none => none
  | none => none := rfl
@[simp] theorem x_slL (ds : List D) (l h : Option Int) : opSl (.d (.list ds)) l h = some (.list (cutD ds l h)) := rfl
@[simp] theorem x_slT (ds : List D) (l h : Option Int) : opSl (.d (.tuple ds)) l h = some (.tuple (cutD ds l h)) := rfl
@[simp] theorem x_comp (src : MSrc) (tg : Tg) (vs : List Nat) (tst elt : Mean) : eComp src tg vs tst elt ρ S = match src ρ S with
  | some (ds, S1) => match compRun tg tst elt (wipeE ρ vs) ds S1 with
    | some (ys, S2) => some (.d (.list ys), S2)
    | none => none
  | none => none := rfl
@[simp] theorem x_sq : sSq a ρ S = match a ρ S with
  | some (.d (.list ds), S1) => some (ds, S1)
  | some (.d (.tuple ds), S1) => some (ds, S1)
  | _ => none := rfl
@[simp] theorem x_rg1 : sRg1 a ρ S = match a ρ S with
  | some (.d (.int k), S1) => if -1000000 ≤ k ∧ k ≤ 1000000 then some (upFrom 0 k.toNat, S1) else none
  | _ => none := rfl
@[simp] theorem x_wipe0 : wipeE ρ [] = ρ := rfl
@[simp] theorem x_wipe (v : Nat) (vs : List Nat) : wipeE ρ (v :: vs) = (wipeE ρ vs).set v none := rfl
@[simp] theorem x_list : eList a ρ S = match a ρ S with
  | some (.d (.list ds), S1) => some (.d (.list ds), S1)
  | some (.d (.tuple ds), S1) => some (.d (.list ds), S1)
  | some (.scr ns, S1) => some (.d (.list (ns.map PyData.int)), S1)
  | _ => none := rfl
@[simp] theorem x_rev : eRev a ρ S = match a ρ S with
  | some (.d (.list ds), S1) => some (.d (.list ds.reverse), S1)
  | _ => none := rfl
@[simp] theorem x_isi (ty : String) : eIsi ty a ρ S = match a ρ S with
  | some (.d x, S1) => some (.d (.bool (isiD x ty)), S1)
  | _ => none := rfl
@[simp] theorem x_sortSet : eSortSet a ρ S = match a ρ S with
  | some (.d (.list ds), S1) => match intsD ds with
    | some is => if is.length < 64 then some (.d (.list ((setI is).map PyData.int)), S1) else none
    | none => none
  | _ => none := rfl
@[simp] theorem x_index : eIndex a b ρ S = match a ρ S with
  | some (.d (.list ds), S1) => match b ρ S1 with
    | some (.d d, S2) => if (PyData.list ds).depth ≤ 64 ∧ d.depth ≤ 64 then (ds.findIdx? fun z => PyData.eqv z d).map fun j => (.d (.int (j : Nat)), S2) else none
    | _ => none
  | _ => none := rfl
@[simp] theorem x_rep : eRep a b ρ S = match a ρ S with
  | some (.d (.list ds), S1) => match b ρ S1 with
    | some (.d (.int k), S2) => if 0 ≤ k ∧ k ≤ 1000 ∧ ds.length ≤ 1000 then some (.d (.list (List.replicate k.toNat ds).flatten), S2) else none
    | _ => none
  | _ => none := rfl
@[simp] theorem x_fld (c i : Nat) : eFld c i a ρ S = match a ρ S with
  | some (.obj n, S1) => match S1[n]? with
    | some (.inst c' fs) => if c' = c then (fs[i]?).map fun u => (u, S1) else none
    | _ => none
  | _ => none := rfl
@[simp] theorem x_meth (c f : Nat) : eMeth B c f a ms ρ S = match a ρ S with
  | some (.obj n, S1) => match S1[n]? with
    | some (.inst c' _) => if c' = c then (match ms ρ S1 with
      | some (us, S2) => B f (.obj n :: us) S2
      | none => none) else none
    | _ => none
  | _ => none := rfl
@[simp] theorem x_make (c f : Nat) : eMake B c f ms ρ S = match ms ρ S with
  | some (us, S1) => match B f (.obj S1.length :: us) (S1 ++ [.inst c []]) with
    | some (.d .none, S2) => some (.obj S1.length, S2)
    | _ => none
  | none => none := rfl
variable {m n : SMean}
@[simp] theorem x_skip : sSkip ρ S = some (.nx ρ S) := rfl
@[simp] theorem x_seq : sSeq m n ρ S = match m ρ S with
  | some (.nx ρ1 S1) => n ρ1 S1
  | r => r := rfl
@[simp] theorem x_never : sNever ρ S = none := rfl
@[simp] theorem x_brk : sBrk ρ S = some (.brk ρ S) := rfl
@[simp] theorem x_cnt : sCnt ρ S = some (.cnt ρ S) := rfl
@[simp] theorem x_drop : sDrop a ρ S = match a ρ S with
  | some (_, S1) => some (.nx ρ S1)
  | none => none := rfl
@[simp] theorem x_ret : sRet a ρ S = match a ρ S with
  | some (u, S1) => some (.ret u S1)
  | none => none := rfl
@[simp] theorem x_sIf : sIf t m n ρ S = match t ρ S with
  | some (.d (.bool true), S1) => m ρ S1
  | some (.d (.bool false), S1) => n ρ S1
  | _ => none := rfl
@[simp] theorem x_set (i : Nat) : sSet i a ρ S = match a ρ S with
  | some (u, S1) => some (.nx (ρ.set i (some u)) S1)
  | none => none := rfl
@[simp] theorem x_unp (tg : Tg) : sUnp tg a ρ S = match a ρ S with
  | some (.d d, S1) => (tg.set d ρ).map fun ρ1 => .nx ρ1 S1
  | _ => none := rfl
@[simp] theorem x_par (is : List Nat) : sPar is ms ρ S = match ms ρ S with
  | some (us, S1) => if us.length = is.length then some (.nx (setAll ρ is us) S1) else none
  | none => none := rfl
@[simp] theorem x_for (src : MSrc) (tg : Tg) : sFor src tg m ρ S = match src ρ S with
  | some (ds, S1) => forRun tg m ds ρ S1
  | none => none := rfl
@[simp] theorem x_app (i : Nat) : sApp i a ρ S = match a ρ S with
  | some (.d d, S1) => match ρ.getD i none with
    | some (.d (.list ds)) => if ds.length < 1000000 then some (.nx (ρ.set i (some (.d (.list (ds ++ [d]))))) S1) else none
    | _ => none
  | _ => none := rfl
@[simp] theorem x_aug (f : Int → Int → Int) (i : Nat) : sAug f i a ρ S = match ρ.getD i none with
  | some (.d (.int x)) => match a ρ S with
    | some (.d (.int y), S1) => some (.nx (ρ.set i (some (.d (.int (f x y))))) S1)
    | _ => none
  | _ => none := rfl
@[simp] theorem x_tgn (i : Nat) (d : D) : (Tg.n i).set d ρ = some (ρ.set i (some (.d d))) := rfl
@[simp] theorem x_all0 {α : Type} (l : List (Option α)) (xs : List α) : setAll l [] xs = l := by cases xs <;> rfl
@[simp] theorem x_all1 {α : Type} (l : List (Option α)) (i : Nat) (is : List Nat) (x : α) (xs : List α) : setAll l (i :: is) (x :: xs) = setAll (l.set i (some x)) is xs := rfl
@[simp] theorem x_tgt (is : List Nat) (ds : List D) : (Tg.t is).set (.tuple ds) ρ = if ds.length = is.length then some (setAll ρ is (ds.map .d)) else none := rfl
@[simp] theorem x_len1 (ds : List D) : opLen (.d (.list ds)) = some (.int ds.length) := rfl
@[simp] theorem x_len2 (ds : List D) : opLen (.d (.tuple ds)) = some (.int ds.length) := rfl
@[simp] theorem x_tuple1 (ds : List D) : opTuple (.d (.list ds)) = some (.tuple ds) := rfl
@[simp] theorem x_tuple2 (ds : List D) : opTuple (.d (.tuple ds)) = some (.tuple ds) := rfl
@[simp] theorem x_all (ds : List D) : opAll (.d (.list ds)) = (boolsD ds).map fun bs => .bool (bs.all id) := rfl
@[simp] theorem x_any (ds : List D) : opAny (.d (.list ds)) = (boolsD ds).map fun bs => .bool (bs.any id) := rfl
@[simp] theorem x_sum (ds : List D) : opSum (.d (.list ds)) = (intsD ds).map fun is => .int is.sum := rfl
@[simp] theorem x_int (i : Int) : opInt (.d (.int i)) = some (.int i) := rfl
@[simp] theorem x_sorted (ds : List D) : opSorted (.d (.list ds)) = if sortOk ds then some (.list (sortD ds)) else none := rfl
@[simp] theorem x_addI (i j : Int) : opAdd (.int i) (.int j) = some (.int (i + j)) := rfl
@[simp] theorem x_addT (x y : List D) : opAdd (.tuple x) (.tuple y) = if x.length + y.length ≤ 1000000 then some (.tuple (x ++ y)) else none := rfl
@[simp] theorem x_addL (x y : List D) : opAdd (.list x) (.list y) = if x.length + y.length ≤ 1000000 then some (.list (x ++ y)) else none := rfl
@[simp] theorem x_subI (i j : Int) : opSub (.int i) (.int j) = some (.int (i - j)) := rfl
@[simp] theorem x_gtI (i j : Int) : opGt (.int i) (.int j) = some (.bool (decide (j < i))) := rfl
@[simp] theorem x_geI (i j : Int) : opGe (.int i) (.int j) = some (.bool (decide (j ≤ i))) := rfl
@[simp] theorem x_leI (i j : Int) : opLe (.int i) (.int j) = some (.bool (decide (i ≤ j))) := rfl
@[simp] theorem x_ltI (i j : Int) : opLt (.int i) (.int j) = some (.bool (decide (i < j))) := rfl
@[simp] theorem x_mulI (i j : Int) : opMul (.int i) (.int j) = if smallI i || smallI j then some (.int (i * j)) else none := rfl
@[simp] theorem x_modI (i j : Int) : opMod (.int i) (.int j) = if 0 < j then some (.int (i % j)) else none := rfl
@[simp] theorem x_fdivI (i j : Int) : opFdiv (.int i) (.int j) = if 0 < j ∧ j < 1073741824 then some (.int (i / j)) else none := rfl
@[simp] theorem x_isN (x : D) : opIs x .none = some (.bool (isN x)) := rfl
@[simp] theorem x_isNotN (x : D) : opIsNot x .none = some (.bool (!isN x)) := rfl
@[simp] theorem x_isN0 : isN .none = true := rfl
@[simp] theorem x_isN1 (i : Int) : isN (.int i) = false := rfl
@[simp] theorem x_isN2 (s : Str) : isN (.str s) = false := rfl
@[simp] theorem x_isN3 (s : List D) : isN (.tuple s) = false := rfl
@[simp] theorem x_isN4 (s : List D) : isN (.list s) = false := rfl
end
/-! ### equality of plain data -/
mutual
/-- no bool, no dict in it -/
def pd : D → Bool
  | .none => true
  | .int _ => true
  | .str _ => true
  | .list xs => pds xs
  | .tuple xs => pds xs
  | .bool _ => false
  | .dict _ => false
def pds : List D → Bool
  | [] => true
  | x :: xs => pd x && pds xs
end
mutual
theorem eqv_pd : ∀ (x y : D), pd x = true → pd y = true → (PyData.eqv x y = true ↔ x = y)
  | .none, y, _, hy => by cases y <;> simp [PyData.eqv, pd] at *
  | .int i, y, _, hy => by cases y <;> simp [PyData.eqv, pd] at *
  | .str i, y, _, hy => by cases y <;> simp [PyData.eqv, pd] at *
  | .list xs, y, hx, hy => by
    cases y <;> simp [PyData.eqv, pd] at *
    exact eqvAll_pd xs _ hx hy
  | .tuple xs, y, hx, hy => by
    cases y <;> simp [PyData.eqv, pd] at *
    exact eqvAll_pd xs _ hx hy
  | .bool b, y, hx, _ => by simp [pd] at hx
  | .dict b, y, hx, _ => by simp [pd] at hx
theorem eqvAll_pd : ∀ (xs ys : List D), pds xs = true → pds ys = true → (PyData.eqvAll xs ys = true ↔ xs = ys)
  | [], ys, _, hy => by cases ys <;> simp [PyData.eqvAll]
  | x :: xs, ys, hx, hy => by
    cases ys with
    | nil => simp [PyData.eqvAll]
    | cons y ys =>
      simp only [pds, Bool.and_eq_true] at hx hy
      simp only [PyData.eqvAll, Bool.and_eq_true, List.cons.injEq, eqv_pd x y hx.1 hy.1, eqvAll_pd xs ys hx.2 hy.2]
end
theorem eqv_dec {x y : D} (hx : pd x = true) (hy : pd y = true) : PyData.eqv x y = true ↔ x = y := eqv_pd x y hx hy
/-- x in xs -/
theorem any_eqv {x : D} {ds : List D} (hx : pd x = true) (hd : ∀ d ∈ ds, pd d = true) : (ds.any fun z => PyData.eqv z x) = true ↔ x ∈ ds := by
  rw [List.any_eq_true]
  constructor
  · rintro ⟨z, hz, h⟩
    rw [eqv_dec (hd z hz) hx] at h
    exact h ▸ hz
  · intro h
    exact ⟨x, h, (eqv_dec hx hx).mpr rfl⟩
/-! ### loops -/
/-- a comprehension that changes nothing -/
theorem compRun_of {α : Type} {t : Tg} {tst elt : Mean} {ρ : Env} {S : Store} (emb : α → D) (p : α → Bool) (g : α → D) : ∀ (l : List α), (∀ a ∈ l, ∃ ρ1, t.set (emb a) ρ = some ρ1 ∧ tst ρ1 S = some (.d (.bool (p a)), S) ∧ (p a = true → elt ρ1 S = some (.d (g a), S))) →
    compRun t tst elt ρ (l.map emb) S = some ((l.filter p).map g, S)
  | [], _ => rfl
  | a :: l, h => by
    obtain ⟨ρ1, h1, h2, h3⟩ := h a List.mem_cons_self
    have ih := compRun_of emb p g l fun b hb => h b (List.mem_cons_of_mem _ hb)
    rw [List.map_cons]
    unfold compRun
    rw [h1]
    simp only [h2]
    cases hp : p a with
    | true =>
      simp only [h3 hp, ih, List.filter_cons, hp]
      simp
    | false =>
      simp only [ih, List.filter_cons, hp]
      simp
/-- a loop by an invariant of the environment; the body never leaves it -/
theorem forRun_of {α σ : Type} {t : Tg} {b : SMean} {S : Store} (emb : α → D) (I : σ → Env → Prop) (step : σ → α → σ) : ∀ (l : List α) (s : σ) (ρ : Env), I s ρ →
    (∀ (s : σ) (a : α) (ρ : Env), a ∈ l → I s ρ → ∃ ρ1 ρ2, t.set (emb a) ρ = some ρ1 ∧ (b ρ1 S = some (.nx ρ2 S) ∨ b ρ1 S = some (.cnt ρ2 S)) ∧ I (step s a) ρ2) →
    ∃ ρ2, forRun t b (l.map emb) ρ S = some (.nx ρ2 S) ∧ I (l.foldl step s) ρ2
  | [], s, ρ, hi, _ => ⟨ρ, rfl, hi⟩
  | a :: l, s, ρ, hi, h => by
    obtain ⟨ρ1, ρ2, h1, h2, h3⟩ := h s a ρ List.mem_cons_self hi
    obtain ⟨ρ3, h4, h5⟩ := forRun_of emb I step l (step s a) ρ2 h3 fun s' a' ρ' ha => h s' a' ρ' (List.mem_cons_of_mem _ ha)
    refine ⟨ρ3, ?_, h5⟩
    rw [List.map_cons]
    unfold forRun
    rw [h1]
    rcases h2 with h2 | h2
    · simp only [h2]; exact h4
    · simp only [h2]; exact h4
end MP
set_option Elab.async false
set_option linter.all false
set_option maxRecDepth 20000
/-! Part 17: typed data: steps, queues, states, deeds; sorting; loops that leave early. -/
namespace MP
open PySem L2
open PySem.W (alike alikeAll dataLe)
theorem cut_to (ds : List D) (k : Nat) : cutD ds none (some (k : Int)) = ds.take k := by
  unfold cutD
  rw [HT.sIx_nat, HT.sIx_none, List.drop_zero, Nat.sub_zero]
  by_cases h : k ≤ ds.length
  · rw [Nat.min_eq_left h]
  · rw [Nat.min_eq_right (by omega), List.take_of_length_le (Nat.le_refl _), List.take_of_length_le (by omega)]
theorem cut_from (ds : List D) (k : Nat) : cutD ds (some (k : Int)) none = ds.drop k := by
  unfold cutD
  rw [HT.sIx_nat, HT.sIx_none]
  by_cases h : k ≤ ds.length
  · rw [Nat.min_eq_left h, List.take_of_length_le (by rw [List.length_drop]; exact Nat.le_refl _)]
  · rw [Nat.min_eq_right (by omega), Nat.sub_self, List.take_zero, List.drop_eq_nil_of_le (by omega)]
theorem ixN_nat {n k : Nat} (h : k < n) : ixN n (k : Int) = some k := by
  unfold ixN
  rw [if_pos (by omega), if_pos (by omega), Int.toNat_natCast]
theorem atI_nat {α : Type} {l : List α} {k : Nat} {x : α} (h : l[k]? = some x) : L2.atI l (k : Int) = some x := by
  unfold L2.atI
  rw [ixN_nat (List.getElem?_eq_some_iff.mp h).1]
  exact h
/-- sorted by what its items stand for -/
def sortBy {α : Type} (f : α → D) (l : List α) : List α := l.mergeSort fun x y => dataLe false id (f x) (f y)
theorem sortD_map {α : Type} (f : α → D) (l : List α) : sortD (l.map f) = (sortBy f l).map f := by
  unfold sortD sortBy
  exact (List.map_mergeSort (r := fun x y => dataLe false id (f x) (f y)) (s := dataLe false id) (f := f) fun a _ b _ => rfl).symm
theorem sortBy_one {α : Type} (f : α → D) (x : α) : sortBy f [x] = [x] := by
  unfold sortBy
  exact List.mergeSort_singleton x
theorem sortBy_nil {α : Type} (f : α → D) : sortBy f [] = [] := by
  unfold sortBy
  exact List.mergeSort_nil
/-- a loop that may leave with u -/
theorem forRun_find {α : Type} {t : Tg} {b : SMean} {S : Store} {u : Val} (emb : α → D) (I : Env → Prop) (p : α → Bool) : ∀ (l : List α) (ρ : Env), I ρ →
    (∀ (a : α) (ρ : Env), a ∈ l → I ρ → ∃ ρ1, t.set (emb a) ρ = some ρ1 ∧ (p a = true → b ρ1 S = some (.ret u S)) ∧ (p a = false → ∃ ρ2, b ρ1 S = some (.nx ρ2 S) ∧ I ρ2)) →
    (l.any p = true → forRun t b (l.map emb) ρ S = some (.ret u S)) ∧ (l.any p = false → ∃ ρ2, forRun t b (l.map emb) ρ S = some (.nx ρ2 S) ∧ I ρ2)
  | [], ρ, hi, _ => ⟨fun h => by simp at h, fun _ => ⟨ρ, rfl, hi⟩⟩
  | a :: l, ρ, hi, h => by
    obtain ⟨ρ1, h1, h2, h3⟩ := h a ρ List.mem_cons_self hi
    rw [List.any_cons, List.map_cons]
    unfold forRun
    rw [h1]
    cases hp : p a with
    | true =>
      exact ⟨fun _ => by simp only [h2 hp], fun z => by simp at z⟩
    | false =>
      obtain ⟨ρ2, h4, h5⟩ := h3 hp
      simp only [h4]
      have ih := forRun_find emb I p l ρ2 h5 fun a' ρ' ha => h a' ρ' (List.mem_cons_of_mem _ ha)
      simpa using ih
/-! ### typed -/
def iT (l : List Int) : D := .tuple (l.map PyData.int)
theorem iT_inj {l m : List Int} (h : iT l = iT m) : l = m := by
  unfold iT at h
  injection h with h
  exact (List.map_inj_right fun x y e => by injection e).mp h
def wD (b : Bool) : D := .str (if b then "send" else "hear")
theorem wD_inj {a b : Bool} (h : wD a = wD b) : a = b := by
  unfold wD at h
  injection h with h
  revert h
  cases a <;> cases b <;> decide
structure Qe where
  a : Int
  b : Int
  row : List Int
deriving DecidableEq
def Qe.d (e : Qe) : D := .tuple [.int e.a, .int e.b, iT e.row]
theorem Qe.inj {x y : Qe} (h : x.d = y.d) : x = y := by
  cases x; cases y
  simp only [Qe.d, PyData.tuple.injEq, List.cons.injEq, PyData.int.injEq, and_true] at h
  obtain ⟨h1, h2, h3⟩ := h
  rw [h1, h2, iT_inj h3]
def qsD (q : List Qe) : D := .tuple (q.map Qe.d)
structure Here where
  st : List Int
  q : List Qe
deriving DecidableEq
def Here.d (h : Here) : D := .tuple [iT h.st, qsD h.q]
theorem Here.inj {x y : Here} (h : x.d = y.d) : x = y := by
  cases x; cases y
  simp only [Here.d, qsD, PyData.tuple.injEq, List.cons.injEq, and_true] at h
  obtain ⟨h1, h2⟩ := h
  rw [iT_inj h1, (List.map_inj_right fun x y e => Qe.inj e).mp h2]
structure Step where
  src : Int
  snd : Bool
  other : Int
  letter : Int
  dst : Int
deriving DecidableEq
def Step.d (s : Step) : D := .tuple [.int s.src, wD s.snd, .int s.other, .int s.letter, .int s.dst]
/-- a machine: its number of states, its steps -/
abbrev Mach := Int × List Step
def Mach.d (m : Mach) : D := .tuple [.int m.1, .tuple (m.2.map Step.d)]
def msD (ms : List Mach) : D := .tuple (ms.map Mach.d)
structure Deed where
  role : Int
  snd : Bool
  other : Int
  letter : Int
  behind : Here
deriving DecidableEq
def Deed.d (x : Deed) : D := .tuple [.int x.role, wD x.snd, .int x.other, .int x.letter, x.behind.d]
/-! plain, shallow, alike -/
theorem pd_iT (l : List Int) : pd (iT l) = true := by
  unfold iT
  simp only [pd]
  induction l with
  | nil => rfl
  | cons x l ih => simp [pds, pd, ih]
theorem pd_qs (q : List Qe) : pd (qsD q) = true := by
  unfold qsD
  simp only [pd]
  induction q with
  | nil => rfl
  | cons x l ih => simp [pds, pd, ih, Qe.d, pd_iT]
theorem pd_here (h : Here) : pd h.d = true := by simp [Here.d, pd, pds, pd_iT, pd_qs]
theorem dp_iT (l : List Int) : (iT l).depth ≤ 1 := by
  unfold iT
  simp only [PyData.depth]
  induction l with
  | nil => simp [PyData.depthAll]
  | cons x l ih => simp only [List.map_cons, PyData.depthAll, PyData.depth]; omega
theorem dp_qs (q : List Qe) : (qsD q).depth ≤ 3 := by
  unfold qsD
  simp only [PyData.depth]
  induction q with
  | nil => simp [PyData.depthAll]
  | cons x l ih =>
    have := dp_iT x.row
    simp only [List.map_cons, PyData.depthAll, Qe.d, PyData.depth]
    omega
theorem dp_here (h : Here) : h.d.depth ≤ 4 := by
  have := dp_iT h.st
  have := dp_qs h.q
  simp only [Here.d, PyData.depth, PyData.depthAll]
  omega
theorem dp_deed (x : Deed) : x.d.depth ≤ 5 := by
  have := dp_here x.behind
  simp only [Deed.d, PyData.depth, PyData.depthAll, wD]
  omega
theorem dp_qe (x : Qe) : x.d.depth ≤ 2 := by
  have := dp_iT x.row
  simp only [Qe.d, PyData.depth, PyData.depthAll]
  omega
theorem okD_of {d : D} {n : Nat} (h : d.depth ≤ n) (hn : n ≤ 1500) : okD d = true := decide_eq_true (by omega)
theorem alike_iT (l m : List Int) : alike (iT l) (iT m) = true := by
  unfold iT
  simp only [alike]
  exact PySem.W.alike_ints l m
theorem alike_qe (x y : Qe) : alike x.d y.d = true := by simp [Qe.d, alike, alikeAll, alike_iT]
theorem alike_qs : ∀ (p q : List Qe), alike (qsD p) (qsD q) = true := by
  intro p q
  unfold qsD
  simp only [alike]
  induction p generalizing q with
  | nil => simp [alikeAll]
  | cons x p ih =>
    cases q with
    | nil => simp [alikeAll]
    | cons y q => simp [alikeAll, alike_qe, ih]
theorem alike_deed (x y : Deed) : alike x.d y.d = true := by simp [Deed.d, Here.d, alike, alikeAll, alike_iT, alike_qs, wD]
theorem sortOk_map {α : Type} (f : α → D) (l : List α) (h1 : ∀ x y, alike (f x) (f y) = true) (h2 : ∀ x, isT1 (f x) = true) (h3 : ∀ x, okD (f x) = true) : sortOk (l.map f) = true := by
  unfold sortOk
  simp only [List.all_map, Bool.and_eq_true, Bool.or_eq_true, List.all_eq_true, Function.comp]
  exact ⟨⟨fun x _ y _ => h1 x y, .inl fun x _ => h2 x⟩, fun x _ => h3 x⟩
theorem sortOk_qs (l : List Qe) : sortOk (l.map Qe.d) = true := sortOk_map _ l alike_qe (fun x => rfl) fun x => okD_of (dp_qe x) (by omega)
theorem sortOk_deeds (l : List Deed) : sortOk (l.map Deed.d) = true := sortOk_map _ l alike_deed (fun x => rfl) fun x => okD_of (dp_deed x) (by omega)
/-! ### what they do -/
def rowOf (q : List Qe) (a b : Int) : List Int := match q.filter (fun e => decide (e.a = a) && decide (e.b = b)) with
  | [] => []
  | e :: _ => e.row
def withRow (q : List Qe) (a b : Int) (row : List Int) : List Qe := sortBy Qe.d (q.filter (fun e => !(decide (e.a = a) && decide (e.b = b))) ++ if 0 < row.length then [⟨a, b, row⟩] else [])
def stepsAt (ms : List Mach) (st : List Int) (r : Nat) : List Step := (ms.getD r (0, [])).2.filter fun s => decide (s.src = st.getD r 0)
def stepDeed (ms : List Mach) (h : Here) (room : Int) (r : Nat) (s : Step) : List Deed :=
  if s.snd = true then
    (if s.other < (ms.length : Int) ∧ s.other ≠ (r : Int) ∧ ((rowOf h.q r s.other).length : Int) < room then [⟨r, true, s.other, s.letter, ⟨h.st.set r s.dst, withRow h.q r s.other (rowOf h.q r s.other ++ [s.letter])⟩⟩] else [])
  else (if (rowOf h.q s.other r).take 1 = [s.letter] then [⟨r, false, s.other, s.letter, ⟨h.st.set r s.dst, withRow h.q s.other r ((rowOf h.q s.other r).drop 1)⟩⟩] else [])
def deedsAt (ms : List Mach) (h : Here) (room : Int) : List Deed := (List.range ms.length).flatMap fun r => (stepsAt ms h.st r).flatMap (stepDeed ms h room r)
def deedsT (ms : List Mach) (h : Here) (room : Int) : List Deed := sortBy Deed.d (deedsAt ms h room)
def isUnheard (steps : List Step) (q : List Qe) (r : Int) : Bool := (setI (steps.map Step.other)).any fun o => decide (0 < (rowOf q o r).length) && !((steps.filter fun s => decide (s.other = o)).map Step.letter).contains ((rowOf q o r).getD 0 0)
inductive Tr where
  | unheard | left | stuck
deriving DecidableEq
def Tr.d : Tr → D
  | .unheard => .str "unheard"
  | .left => .str "left"
  | .stuck => .str "stuck"
def optTr : Option Tr → D
  | none => .none
  | some t => t.d
def troubleT (ms : List Mach) (h : Here) (room : Int) : Option Tr :=
  if (List.range ms.length).any (fun r => decide (0 < (stepsAt ms h.st r).length) && (stepsAt ms h.st r).all (fun s => !s.snd) && isUnheard (stepsAt ms h.st r) h.q r) then some .unheard
  else if 0 < (deedsAt ms h room).length then none
  else if (List.range ms.length).all fun r => decide ((stepsAt ms h.st r).length = 0) then (if 0 < h.q.length then some .left else none)
  else some .stuck
/-- a loop, by what holds ahead of its k-th turn -/
theorem forRun_ix {α : Type} {t : Tg} {b : SMean} {S : Store} (emb : α → D) (I : Nat → Env → Prop) : ∀ (l : List α) (i : Nat) (ρ : Env), I i ρ →
    (∀ (k : Nat) (a : α) (ρ : Env), l[k]? = some a → I (i + k) ρ → ∃ ρ1 ρ2, t.set (emb a) ρ = some ρ1 ∧ (b ρ1 S = some (.nx ρ2 S) ∨ b ρ1 S = some (.cnt ρ2 S)) ∧ I (i + k + 1) ρ2) →
    ∃ ρ2, forRun t b (l.map emb) ρ S = some (.nx ρ2 S) ∧ I (i + l.length) ρ2
  | [], i, ρ, hi, _ => ⟨ρ, rfl, hi⟩
  | a :: l, i, ρ, hi, h => by
    obtain ⟨ρ1, ρ2, h1, h2, h3⟩ := h 0 a ρ rfl hi
    obtain ⟨ρ3, h4, h5⟩ := forRun_ix emb I l (i + 1) ρ2 h3 fun k a' ρ' ha hi' => by
      have := h (k + 1) a' ρ' (by simpa using ha) (by rw [show i + (k + 1) = i + 1 + k by omega]; exact hi')
      rwa [show i + (k + 1) + 1 = i + 1 + k + 1 by omega] at this
    refine ⟨ρ3, ?_, by rw [List.length_cons, show i + (l.length + 1) = i + 1 + l.length by omega]; exact h5⟩
    rw [List.map_cons]
    unfold forRun
    rw [h1]
    rcases h2 with h2 | h2
    · simp only [h2]; exact h4
    · simp only [h2]; exact h4
theorem upFrom_range (n : Nat) : upFrom 0 n = (List.range n).map fun (i : Nat) => PyData.int (i : Int) := by
  unfold upFrom
  congr 1
  funext i
  rw [Int.zero_add]
/-- sizes -/
structure WF (ms : List Mach) (room : Int) (h : Here) : Prop where
  len : h.st.length = ms.length
  few : ms.length ≤ 1000
  steps : ∀ m ∈ ms, m.2.length ≤ 60
  qs : h.q.length ≤ 100
  rows : ∀ e ∈ h.q, e.row.length ≤ 1000
theorem WF.row {ms : List Mach} {room : Int} {h : Here} (w : WF ms room h) (a b : Int) : (rowOf h.q a b).length ≤ 1000 := by
  unfold rowOf
  split
  · simp
  · rename_i e r he
    exact w.rows e (List.mem_filter.mp (by rw [he]; exact List.mem_cons_self)).1
theorem WF.stepsAt {ms : List Mach} {room : Int} {h : Here} (w : WF ms room h) (r : Nat) : (stepsAt ms h.st r).length ≤ 60 := by
  unfold MP.stepsAt
  refine Nat.le_trans (List.length_filter_le _ _) ?_
  rw [List.getD_eq_getElem?_getD]
  cases e : ms[r]? with
  | none => simp
  | some m => simpa using w.steps m (List.mem_of_getElem? e)
theorem stepDeed_le (ms : List Mach) (h : Here) (room : Int) (r : Nat) (s : Step) : (stepDeed ms h room r s).length ≤ 1 := by
  unfold stepDeed
  split
  · split <;> simp
  · split <;> simp
theorem flatMap_le {α β : Type} {f : α → List β} {c : Nat} (h : ∀ a, (f a).length ≤ c) : ∀ (l : List α), (l.flatMap f).length ≤ c * l.length
  | [] => by simp
  | a :: l => by
    have := flatMap_le h l
    have := h a
    rw [List.flatMap_cons, List.length_append, List.length_cons, Nat.mul_add]
    omega
@[simp] theorem iT_len (l : List Int) : opLen (.d (iT l)) = some (.int l.length) := by unfold iT; rw [x_len2, List.length_map]
@[simp] theorem qs_len (l : List Qe) : opLen (.d (qsD l)) = some (.int l.length) := by unfold qsD; rw [x_len2, List.length_map]
@[simp] theorem ms_len (l : List Mach) : opLen (.d (msD l)) = some (.int l.length) := by unfold msD; rw [x_len2, List.length_map]
@[simp] theorem iT_to (l : List Int) : opSl (.d (iT l)) none (some 1) = some (iT (l.take 1)) := by
  unfold iT
  rw [x_slT, show (1 : Int) = ((1 : Nat) : Int) from rfl, cut_to, List.map_take]
@[simp] theorem iT_from (l : List Int) : opSl (.d (iT l)) (some 1) none = some (iT (l.drop 1)) := by
  unfold iT
  rw [x_slT, show (1 : Int) = ((1 : Nat) : Int) from rfl, cut_from, List.map_drop]
theorem iT_add {l : List Int} {x : Int} (h : l.length ≤ 1000) : opAdd (iT l) (.tuple [.int x]) = some (iT (l ++ [x])) := by
  unfold iT
  rw [x_addT, if_pos (by simp; omega)]
  simp
theorem eq_two (a b c d : Int) : opEq (.tuple [.int a, .int b]) (.tuple [.int c, .int d]) = some (.bool (decide (a = c) && decide (b = d))) := by
  simp [opEq, okD, PyData.depth, PyData.depthAll, PyData.eqv, PyData.eqvAll]
  constructor <;> rfl
theorem ne_two (a b c d : Int) : opNe (.tuple [.int a, .int b]) (.tuple [.int c, .int d]) = some (.bool (!(decide (a = c) && decide (b = d)))) := by
  simp [opNe, okD, PyData.depth, PyData.depthAll, PyData.eqv, PyData.eqvAll]
  constructor <;> rfl
theorem eq_int (a b : Int) : opEq (.int a) (.int b) = some (.bool (decide (a = b))) := by
  simp [opEq, okD, PyData.depth, PyData.eqv]
  rfl
theorem ne_int (a b : Int) : opNe (.int a) (.int b) = some (.bool (!decide (a = b))) := by
  simp [opNe, okD, PyData.depth, PyData.eqv]
  rfl
theorem eq_str (a b : Str) : opEq (.str a) (.str b) = some (.bool (decide (a = b))) := by
  simp [opEq, okD, PyData.depth, PyData.eqv]
  rfl
theorem eq_one (l : List Int) (x : Int) : opEq (iT l) (.tuple [.int x]) = some (.bool (decide (l = [x]))) := by
  have h : okD (.tuple [.int x]) = true := by simp [okD, PyData.depth, PyData.depthAll]
  have e : PyData.eqv (iT l) (.tuple [.int x]) = true ↔ l = [x] := by
    show PyData.eqv (iT l) (iT [x]) = true ↔ l = [x]
    rw [eqv_dec (pd_iT l) (pd_iT [x])]
    exact ⟨fun q => iT_inj (m := [x]) q, fun q => by rw [q]⟩
  unfold opEq
  rw [h]
  simp only [Bool.true_or, if_true]
  congr 3
  exact Bool.eq_iff_iff.mpr (by rw [e, decide_eq_true_eq])
theorem w_ss : opEq (.str "send") (.str "send") = some (.bool true) := by rw [eq_str]; rfl
theorem w_hs : opEq (.str "hear") (.str "send") = some (.bool false) := by rw [eq_str]; rfl
theorem w_sh : opEq (.str "send") (.str "hear") = some (.bool false) := by rw [eq_str]; rfl
theorem w_hh : opEq (.str "hear") (.str "hear") = some (.bool true) := by rw [eq_str]; rfl
@[simp] theorem ms_items (S : Store) (l : List Mach) : items S (.d (msD l)) = some (l.map Mach.d) := rfl
@[simp] theorem iT_items (S : Store) (l : List Int) : items S (.d (iT l)) = some (l.map PyData.int) := rfl
@[simp] theorem qs_items (S : Store) (l : List Qe) : items S (.d (qsD l)) = some (l.map Qe.d) := rfl
def mAt (ms : List Mach) (r : Nat) : Mach := ms.getD r (0, [])
def sAt (st : List Int) (r : Nat) : Int := st.getD r 0
theorem stepsAt_eq (ms : List Mach) (st : List Int) (r : Nat) : stepsAt ms st r = (mAt ms r).2.filter fun s => decide (s.src = sAt st r) := rfl
theorem machine_at {ms : List Mach} {r : Nat} (hr : r < ms.length) : L2.atI (ms.map Mach.d) (r : Int) = some (Mach.d (mAt ms r)) := by
  refine MP.atI_nat ?_
  unfold mAt
  rw [List.getElem?_map, List.getD_eq_getElem?_getD, List.getElem?_eq_getElem hr]
  simp
theorem state_at {st : List Int} {r : Nat} (hr : r < st.length) : L2.atI (st.map PyData.int) (r : Int) = some (.int (sAt st r)) := by
  refine MP.atI_nat ?_
  unfold sAt
  rw [List.getElem?_map, List.getD_eq_getElem?_getD, List.getElem?_eq_getElem hr]
  simp
theorem intsD_map : ∀ (l : List Int), intsD (l.map PyData.int) = some l
  | [] => rfl
  | x :: l => by simp [intsD, intsD_map l]
theorem notIn_ints (x : Int) (l : List Int) : opNotIn (.int x) (.list (l.map PyData.int)) = some (.bool (!l.contains x)) := by
  have h : (l.map PyData.int).any (fun z => PyData.eqv z (.int x)) = l.contains x := by
    rw [Bool.eq_iff_iff, any_eqv (by rfl) (fun d hd => by
      obtain ⟨i, _, rfl⟩ := List.mem_map.mp hd
      rfl), List.contains_iff_mem, List.mem_map]
    constructor
    · rintro ⟨i, hi, e⟩
      injection e with e
      exact e ▸ hi
    · exact fun hi => ⟨x, hi, rfl⟩
  unfold opNotIn
  simp only [okD, PyData.depth]
  rw [h]
  rfl
theorem all_true {α : Type} (l : List α) : l.filter (fun _ => true) = l := List.filter_eq_self.mpr fun _ _ => rfl
theorem boolsD_map : ∀ (l : List Bool), boolsD (l.map PyData.bool) = some l
  | [] => rfl
  | x :: l => by simp [boolsD, boolsD_map l]
@[simp] theorem here_set (i j : Nat) (h : Here) (ρ : Env) : (Tg.t [i, j]).set h.d ρ = some ((ρ.set i (some (.d (iT h.st)))).set j (some (.d (qsD h.q)))) := rfl
theorem deedsT_len (ms : List Mach) (h : Here) (room : Int) : (deedsT ms h room).length = (deedsAt ms h room).length := by
  unfold deedsT sortBy
  exact List.length_mergeSort _
end MP
set_option Elab.async false
set_option linter.all false
set_option maxRecDepth 20000
/-! Part 18: the search, typed. -/
namespace MP
open PySem L2
section
variable {σ δ τ : Type} [DecidableEq σ]
def addOne (way : List δ) (s : List σ × List (List δ)) (a : δ × σ) : List σ × List (List δ) :=
  if a.2 ∉ s.1 ∧ s.1.length < 3000 then (s.1 ++ [a.2], s.2 ++ [way ++ [a.1]]) else s
def bfsRun (trouble : σ → Option τ) (next : σ → List (δ × σ)) : Nat → List σ → List (List δ) → Nat → Option (Option (τ × List δ) × List σ)
  | 0, _, _, _ => none
  | k + 1, found, ways, i => match found[i]? with
    | none => some (none, found)
    | some x => match trouble x with
      | some t => some (some (t, ways.getD i []), found)
      | none => bfsRun trouble next k ((next x).foldl (addOne (ways.getD i [])) (found, ways)).1 ((next x).foldl (addOne (ways.getD i [])) (found, ways)).2 (i + 1)
/-- what the lists keep to -/
structure BOk (P : σ → Prop) (found : List σ) (ways : List (List δ)) : Prop where
  len : ways.length = found.length
  few : found.length ≤ 3000
  short : ∀ (k : Nat) (w : List δ), ways[k]? = some w → w.length ≤ k
  all : ∀ x ∈ found, P x
theorem BOk.add {P : σ → Prop} {found : List σ} {ways : List (List δ)} (h : BOk P found ways) {i : Nat} {way : List δ} (hi : ways[i]? = some way) {a : δ × σ} (ha : P a.2) :
    BOk P (addOne way (found, ways) a).1 (addOne way (found, ways) a).2 ∧ (addOne way (found, ways) a).2[i]? = some way := by
  unfold addOne
  split
  · rename_i hc
    have hc : a.2 ∉ found ∧ found.length < 3000 := hc
    have hil := (List.getElem?_eq_some_iff.mp hi).1
    have hs := h.short i way hi
    refine ⟨⟨by simp [h.len], by show (found ++ [a.2]).length ≤ 3000; simp; omega, fun k w hk => ?_, fun x hx => ?_⟩, ?_⟩
    · have hk : (ways ++ [way ++ [a.1]])[k]? = some w := hk
      by_cases hkl : k < ways.length
      · rw [List.getElem?_append_left hkl] at hk
        exact h.short k w hk
      · rw [List.getElem?_append_right (by omega)] at hk
        have hz : k - ways.length = 0 := by
          have := (List.getElem?_eq_some_iff.mp hk).1
          simp at this; omega
        rw [hz] at hk
        simp at hk
        subst hk
        simp
        omega
    · rcases List.mem_append.mp hx with e | e
      · exact h.all x e
      · rw [List.mem_singleton] at e
        subst e
        exact ha
    · show (ways ++ [way ++ [a.1]])[i]? = some way
      rw [List.getElem?_append_left hil]
      exact hi
  · exact ⟨h, hi⟩
theorem BOk.fold {P : σ → Prop} {i : Nat} {way : List δ} : ∀ (l : List (δ × σ)) {found : List σ} {ways : List (List δ)}, BOk P found ways → ways[i]? = some way → (∀ a ∈ l, P a.2) →
    BOk P (l.foldl (addOne way) (found, ways)).1 (l.foldl (addOne way) (found, ways)).2 ∧ (l.foldl (addOne way) (found, ways)).2[i]? = some way
  | [], _, _, h, hi, _ => ⟨h, hi⟩
  | a :: l, found, ways, h, hi, ha => by
    obtain ⟨h1, h2⟩ := h.add hi (ha a List.mem_cons_self)
    rw [List.foldl_cons]
    exact BOk.fold l h1 h2 fun b hb => ha b (List.mem_cons_of_mem _ hb)
end
/-! mapped -/
section
variable {α β σ δ τ : Type} [DecidableEq σ] [DecidableEq α]
def mapR (f : α → σ) (g : β → δ) (r : Option (τ × List β) × List α) : Option (τ × List δ) × List σ := (r.1.map fun p => (p.1, p.2.map g), r.2.map f)
theorem addOne_map {f : α → σ} {g : β → δ} (hf : ∀ x y, f x = f y → x = y) (way : List β) (s : List α × List (List β)) (a : β × α) :
    addOne (way.map g) (s.1.map f, s.2.map (List.map g)) (g a.1, f a.2) = ((addOne way s a).1.map f, (addOne way s a).2.map (List.map g)) := by
  unfold addOne
  have e : f a.2 ∈ s.1.map f ↔ a.2 ∈ s.1 := by
    rw [List.mem_map]
    exact ⟨fun ⟨x, hx, q⟩ => hf _ _ q ▸ hx, fun h => ⟨_, h, rfl⟩⟩
  simp only [e, List.length_map]
  split <;> simp
theorem fold_map {f : α → σ} {g : β → δ} (hf : ∀ x y, f x = f y → x = y) (way : List β) : ∀ (l : List (β × α)) (s : List α × List (List β)),
    (l.map fun a => (g a.1, f a.2)).foldl (addOne (way.map g)) (s.1.map f, s.2.map (List.map g)) = ((l.foldl (addOne way) s).1.map f, (l.foldl (addOne way) s).2.map (List.map g))
  | [], s => rfl
  | a :: l, s => by
    rw [List.map_cons, List.foldl_cons, List.foldl_cons, addOne_map hf way s a]
    exact fold_map hf way l _
/-- a search over other states that stand for these -/
theorem bfs_map {f : α → σ} {g : β → δ} (hf : ∀ x y, f x = f y → x = y) {P : α → Prop} {tr : σ → Option τ} {nx : σ → List (δ × σ)} {trA : α → Option τ} {nxA : α → List (β × α)}
    (ht : ∀ x, P x → tr (f x) = trA x) (hn : ∀ x, P x → nx (f x) = (nxA x).map fun a => (g a.1, f a.2)) (hP : ∀ x, P x → ∀ a ∈ nxA x, P a.2) : ∀ (k : Nat) (found : List α) (ways : List (List β)) (i : Nat), (∀ x ∈ found, P x) →
    bfsRun tr nx k (found.map f) (ways.map (List.map g)) i = (bfsRun trA nxA k found ways i).map (mapR f g)
  | 0, _, _, _, _ => rfl
  | k + 1, found, ways, i, hp => by
    unfold bfsRun
    rw [List.getElem?_map]
    cases hx : found[i]? with
    | none => rfl
    | some x =>
      have px := hp x (List.mem_of_getElem? hx)
      simp only [Option.map_some, ht x px]
      have hw : (ways.map (List.map g)).getD i [] = (ways.getD i []).map g := by
        rw [List.getD_eq_getElem?_getD, List.getD_eq_getElem?_getD, List.getElem?_map]
        cases ways[i]? <;> rfl
      cases htr : trA x with
      | some t => simp only [mapR, Option.map_some, hw]
      | none =>
        simp only [hn x px, hw]
        rw [fold_map hf _ _ (found, ways)]
        have hall : ∀ (l : List (β × α)) (s : List α × List (List β)), (∀ x ∈ s.1, P x) → (∀ a ∈ l, P a.2) → ∀ x ∈ (l.foldl (addOne (ways.getD i [])) s).1, P x := by
          intro l
          induction l with
          | nil => intro s h _; exact h
          | cons a l ih =>
            intro s h ha
            rw [List.foldl_cons]
            refine ih _ ?_ fun b hb => ha b (List.mem_cons_of_mem _ hb)
            unfold addOne
            split
            · intro x hx
              rcases List.mem_append.mp hx with e | e
              · exact h x e
              · rw [List.mem_singleton] at e
                subst e
                exact ha a List.mem_cons_self
            · exact h
        exact bfs_map hf ht hn hP k _ _ _ (hall _ _ hp (hP x px))
end
/-! keys -/
structure DKey where
  role : Int
  word : Str
  other : Int
  letter : Int
deriving DecidableEq
def DKey.d (k : DKey) : D := .tuple [.int k.role, .str k.word, .int k.other, .int k.letter]
theorem DKey.inj {x y : DKey} (h : x.d = y.d) : x = y := by
  cases x; cases y
  simpa [DKey.d] using h
def Deed.key (x : Deed) : DKey := ⟨x.role, if x.snd then "send" else "hear", x.other, x.letter⟩
def wayD (w : List DKey) : D := .tuple (w.map DKey.d)
def nextT (ms : List Mach) (room : Int) (h : Here) : List (DKey × Here) := (deedsT ms h room).map fun x => (x.key, x.behind)
theorem notIn_here (h : Here) (f : List Here) : opNotIn h.d (.list (f.map Here.d)) = some (.bool (decide (h ∉ f))) := by
  have e : ((f.map Here.d).any fun z => PyData.eqv z h.d) = decide (h ∈ f) := by
    rw [Bool.eq_iff_iff, any_eqv (pd_here h) (fun d hd => by
      obtain ⟨x, _, rfl⟩ := List.mem_map.mp hd
      exact pd_here x), decide_eq_true_eq, List.mem_map]
    exact ⟨fun ⟨x, hx, q⟩ => Here.inj q ▸ hx, fun q => ⟨h, q, rfl⟩⟩
  show (if okD h.d = true then some (PyData.bool !((f.map Here.d).any fun z => PyData.eqv z h.d)) else none) = _
  rw [e, okD_of (dp_here h) (by omega)]
  simp
/-- a state and what was spent -/
structure HereS where
  h : Here
  s : Int
deriving DecidableEq
def HereS.d (x : HereS) : D := .tuple [x.h.d, .int x.s]
theorem HereS.inj {x y : HereS} (h : x.d = y.d) : x = y := by
  cases x; cases y
  simp only [HereS.d, PyData.tuple.injEq, List.cons.injEq, PyData.int.injEq, and_true] at h
  obtain ⟨h1, h2⟩ := h
  rw [Here.inj h1, h2]
theorem notIn_hereS (x : HereS) (f : List HereS) : opNotIn (.tuple [x.h.d, .int x.s]) (.list (f.map HereS.d)) = some (.bool (decide (x ∉ f))) := by
  have pdx : ∀ x : HereS, pd x.d = true := fun x => by simp [HereS.d, pd, pds, pd_here]
  have e : ((f.map HereS.d).any fun z => PyData.eqv z x.d) = decide (x ∈ f) := by
    rw [Bool.eq_iff_iff, any_eqv (pdx x) (fun d hd => by
      obtain ⟨x, _, rfl⟩ := List.mem_map.mp hd
      exact pdx x), decide_eq_true_eq, List.mem_map]
    exact ⟨fun ⟨y, hy, q⟩ => HereS.inj q ▸ hy, fun q => ⟨x, q, rfl⟩⟩
  have dp : okD (.tuple [x.h.d, .int x.s]) = true := by
    have := dp_here x.h
    exact decide_eq_true (by simp only [PyData.depth, PyData.depthAll]; omega)
  show (if okD (.tuple [x.h.d, .int x.s]) = true then some (PyData.bool !((f.map HereS.d).any fun z => PyData.eqv z x.d)) else none) = _
  rw [e, dp]
  simp
end MP
set_option Elab.async false
set_option linter.all false
set_option maxRecDepth 20000
/-! Part 24: more on typed data: what is equal, what is in a list; searches that end. -/
namespace MP
open PySem L2
open PySem.W (alike alikeAll dataLe dataLt)
theorem opEq_iff {x y : D} {c : Bool} (hx : pd x = true) (hy : pd y = true) (hk : okD y = true) (h : x = y ↔ c = true) : opEq x y = some (.bool c) := by
  have e : PyData.eqv x y = c := by rw [Bool.eq_iff_iff, eqv_dec hx hy]; exact h
  show (if okD y || okD x then some (PyData.bool (PyData.eqv x y)) else none) = _
  rw [e, hk]
  rfl
theorem opNe_iff {x y : D} {c : Bool} (hx : pd x = true) (hy : pd y = true) (hk : okD y = true) (h : x = y ↔ c = true) : opNe x y = some (.bool !c) := by
  have e : PyData.eqv x y = c := by rw [Bool.eq_iff_iff, eqv_dec hx hy]; exact h
  show (if okD y || okD x then some (PyData.bool (!PyData.eqv x y)) else none) = _
  rw [e, hk]
  rfl
theorem any_iff {x : D} {ds : List D} {c : Bool} (hx : pd x = true) (hd : ∀ d ∈ ds, pd d = true) (h : x ∈ ds ↔ c = true) : (ds.any fun z => PyData.eqv z x) = c := by
  rw [Bool.eq_iff_iff, any_eqv hx hd]
  exact h
theorem opInL_iff {x : D} {ds : List D} {c : Bool} (hx : pd x = true) (hd : ∀ d ∈ ds, pd d = true) (hk : okD x = true) (h : x ∈ ds ↔ c = true) : opIn x (.list ds) = some (.bool c) := by
  show (if okD x then some (PyData.bool (ds.any fun z => PyData.eqv z x)) else none) = _
  rw [any_iff hx hd h, hk]
  rfl
theorem opInT_iff {x : D} {ds : List D} {c : Bool} (hx : pd x = true) (hd : ∀ d ∈ ds, pd d = true) (hk : okD x = true) (h : x ∈ ds ↔ c = true) : opIn x (.tuple ds) = some (.bool c) := by
  show (if okD x then some (PyData.bool (ds.any fun z => PyData.eqv z x)) else none) = _
  rw [any_iff hx hd h, hk]
  rfl
theorem opNotInL_iff {x : D} {ds : List D} {c : Bool} (hx : pd x = true) (hd : ∀ d ∈ ds, pd d = true) (hk : okD x = true) (h : x ∈ ds ↔ c = true) : opNotIn x (.list ds) = some (.bool !c) := by
  show (if okD x then some (PyData.bool (!ds.any fun z => PyData.eqv z x)) else none) = _
  rw [any_iff hx hd h, hk]
  rfl
theorem opNotInT_iff {x : D} {ds : List D} {c : Bool} (hx : pd x = true) (hd : ∀ d ∈ ds, pd d = true) (hk : okD x = true) (h : x ∈ ds ↔ c = true) : opNotIn x (.tuple ds) = some (.bool !c) := by
  show (if okD x then some (PyData.bool (!ds.any fun z => PyData.eqv z x)) else none) = _
  rw [any_iff hx hd h, hk]
  rfl
theorem ok_int (i : Int) : okD (.int i) = true := by simp [okD, PyData.depth]
theorem ok_iT (l : List Int) : okD (iT l) = true := okD_of (dp_iT l) (by omega)
theorem int_memL (x : Int) (l : List Int) : opIn (.int x) (.list (l.map PyData.int)) = some (.bool (decide (x ∈ l))) :=
  opInL_iff rfl (fun d hd => by obtain ⟨i, _, rfl⟩ := List.mem_map.mp hd; rfl) (ok_int x) (by
    rw [decide_eq_true_eq, List.mem_map]
    exact ⟨fun ⟨y, hy, e⟩ => (by injection e with e; exact e ▸ hy), fun h => ⟨x, h, rfl⟩⟩)
theorem int_memT (x : Int) (l : List Int) : opIn (.int x) (iT l) = some (.bool (decide (x ∈ l))) :=
  opInT_iff rfl (fun d hd => by obtain ⟨i, _, rfl⟩ := List.mem_map.mp hd; rfl) (ok_int x) (by
    rw [decide_eq_true_eq, List.mem_map]
    exact ⟨fun ⟨y, hy, e⟩ => (by injection e with e; exact e ▸ hy), fun h => ⟨x, h, rfl⟩⟩)
theorem int_notMemT (x : Int) (l : List Int) : opNotIn (.int x) (iT l) = some (.bool (!decide (x ∈ l))) :=
  opNotInT_iff rfl (fun d hd => by obtain ⟨i, _, rfl⟩ := List.mem_map.mp hd; rfl) (ok_int x) (by
    rw [decide_eq_true_eq, List.mem_map]
    exact ⟨fun ⟨y, hy, e⟩ => (by injection e with e; exact e ▸ hy), fun h => ⟨x, h, rfl⟩⟩)
theorem iT_memL (x : List Int) (f : List (List Int)) : opIn (iT x) (.list (f.map iT)) = some (.bool (decide (x ∈ f))) :=
  opInL_iff (pd_iT x) (fun d hd => by obtain ⟨i, _, rfl⟩ := List.mem_map.mp hd; exact pd_iT i) (ok_iT x) (by
    rw [decide_eq_true_eq, List.mem_map]
    exact ⟨fun ⟨y, hy, e⟩ => iT_inj e ▸ hy, fun h => ⟨x, h, rfl⟩⟩)
theorem iT_notMemL (x : List Int) (f : List (List Int)) : opNotIn (iT x) (.list (f.map iT)) = some (.bool (!decide (x ∈ f))) :=
  opNotInL_iff (pd_iT x) (fun d hd => by obtain ⟨i, _, rfl⟩ := List.mem_map.mp hd; exact pd_iT i) (ok_iT x) (by
    rw [decide_eq_true_eq, List.mem_map]
    exact ⟨fun ⟨y, hy, e⟩ => iT_inj e ▸ hy, fun h => ⟨x, h, rfl⟩⟩)
/-- a step without its states -/
def d3 (b : Bool) (o l : Int) : D := .tuple [wD b, .int o, .int l]
theorem d3_inj {b c : Bool} {o p l m : Int} : d3 b o l = d3 c p m ↔ b = c ∧ o = p ∧ l = m := by
  unfold d3
  constructor
  · intro h
    simp only [PyData.tuple.injEq, List.cons.injEq, PyData.int.injEq, and_true] at h
    exact ⟨wD_inj h.1, h.2.1, h.2.2⟩
  · rintro ⟨rfl, rfl, rfl⟩; rfl
theorem pd_d3 (b : Bool) (o l : Int) : pd (d3 b o l) = true := rfl
theorem ok_d3 (b : Bool) (o l : Int) : okD (d3 b o l) = true := by simp [d3, okD, PyData.depth, PyData.depthAll, wD]
theorem eq_d3 (b c : Bool) (o p l m : Int) : opEq (d3 b o l) (d3 c p m) = some (.bool (decide (b = c ∧ o = p ∧ l = m))) :=
  opEq_iff (pd_d3 b o l) (pd_d3 c p m) (ok_d3 c p m) (by rw [decide_eq_true_eq]; exact d3_inj)
theorem step_cut (s : Step) : opSl (.d s.d) (some 1) (some 4) = some (d3 s.snd s.other s.letter) := rfl
theorem x_own (s : Nat) (mi mv : Mean) (ρ : Env) (S : Store) : sOwnSet s mi mv ρ S = match mv ρ S with
  | some (.d d, S1) => match mi ρ S1 with
    | some (.d (.int i), S2) => match ρ.getD s none with
      | some (.d (.list xs)) => (ixN xs.length i).map fun j => .nx (ρ.set s (some (.d (.list (xs.set j d))))) S2
      | _ => none
    | _ => none
  | _ => none := rfl
theorem x_ext (i : Nat) (m : Mean) (ρ : Env) (S : Store) : sExt i m ρ S = match m ρ S with
  | some (.d (.list es), S1) => match ρ.getD i none with
    | some (.d (.list ds)) => if ds.length + es.length ≤ 1000000 then some (.nx (ρ.set i (some (.d (.list (ds ++ es))))) S1) else none
    | _ => none
  | _ => none := rfl
/-! the search ends, and what it finds -/
section
variable {σ δ τ : Type} [DecidableEq σ]
theorem addOne_sub (way : List δ) (s : List σ × List (List δ)) (a : δ × σ) : ∃ t, (addOne way s a).1 = s.1 ++ t := by
  unfold addOne
  split
  · exact ⟨_, rfl⟩
  · exact ⟨[], by simp⟩
theorem fold_sub (way : List δ) : ∀ (l : List (δ × σ)) (s : List σ × List (List δ)), ∃ t, (l.foldl (addOne way) s).1 = s.1 ++ t
  | [], s => ⟨[], by simp⟩
  | a :: l, s => by
    obtain ⟨t1, h1⟩ := addOne_sub way s a
    obtain ⟨t2, h2⟩ := fold_sub way l (addOne way s a)
    exact ⟨t1 ++ t2, by rw [List.foldl_cons, h2, h1, List.append_assoc]⟩
theorem fold_has (way : List δ) : ∀ (l : List (δ × σ)) (s : List σ × List (List δ)), s.1.length + l.length ≤ 3000 → ∀ a ∈ l, a.2 ∈ (l.foldl (addOne way) s).1
  | [], s, _, a, h => absurd h (by simp)
  | b :: l, s, hz, a, h => by
    rw [List.foldl_cons]
    have hl : (addOne way s b).1.length ≤ s.1.length + 1 := by
      unfold addOne
      split
      · simp
      · omega
    rw [List.length_cons] at hz
    rcases List.mem_cons.mp h with e | e
    · subst e
      obtain ⟨t, ht⟩ := fold_sub way l (addOne way s a)
      rw [ht]
      refine List.mem_append_left _ ?_
      unfold addOne
      split
      · exact List.mem_append_right _ List.mem_cons_self
      · rename_i hn
        by_cases q : a.2 ∈ s.1
        · exact q
        · exact absurd ⟨q, by omega⟩ hn
    · exact fold_has way l _ (by omega) a e
/-- it ends; what it tells -/
theorem bfs_ends {P : σ → Prop} {tr : σ → Option τ} {nx : σ → List (δ × σ)} (hP : ∀ x, P x → ∀ a ∈ nx x, P a.2) : ∀ (k : Nat) (found : List σ) (ways : List (List δ)) (i : Nat), BOk P found ways → i ≤ found.length → 3000 < k + i →
    ∃ res fin, bfsRun tr nx k found ways i = some (res, fin) ∧ (∀ x ∈ fin, P x) ∧ (∃ t, fin = found ++ t) ∧ (res = none → ∀ x ∈ fin.drop i, tr x = none) ∧ (∀ t w, res = some (t, w) → ∃ x, P x ∧ tr x = some t)
  | 0, found, ways, i, h, hi, hk => by
    have := h.few
    omega
  | k + 1, found, ways, i, h, hi, hk => by
    unfold bfsRun
    cases hx : found[i]? with
    | none =>
      have hl := List.getElem?_eq_none_iff.mp hx
      refine ⟨none, found, rfl, h.all, ⟨[], by simp⟩, fun _ x hx => ?_, fun t w e => by cases e⟩
      rw [List.drop_eq_nil_of_le hl] at hx
      cases hx
    | some x =>
      have px := h.all x (List.mem_of_getElem? hx)
      have hil := (List.getElem?_eq_some_iff.mp hx).1
      cases ht : tr x with
      | some t => exact ⟨some (t, ways.getD i []), found, by simp only [ht], h.all, ⟨[], by simp⟩, fun e => (by cases e), fun t' w' e => (by cases e; exact ⟨x, px, ht⟩)⟩
      | none =>
        have hw : ways[i]? = some (ways.getD i []) := by
          rw [List.getD_eq_getElem?_getD, List.getElem?_eq_getElem (by rw [h.len]; exact hil)]
          rfl
        obtain ⟨b2, _⟩ := BOk.fold (nx x) h hw (hP x px)
        obtain ⟨t1, e1⟩ := fold_sub (ways.getD i []) (nx x) (found, ways)
        generalize hF : (nx x).foldl (addOne (ways.getD i [])) (found, ways) = F at b2 e1
        have e1 : F.1 = found ++ t1 := e1
        have hl2 : i + 1 ≤ F.1.length := by rw [e1, List.length_append]; omega
        obtain ⟨res, fin, r1, r2, ⟨t2, r3⟩, r4, r5⟩ := bfs_ends hP k F.1 F.2 (i + 1) b2 hl2 (by omega)
        have ef : fin = found ++ (t1 ++ t2) := by rw [r3, e1, List.append_assoc]
        refine ⟨res, fin, by simp only [ht, hF]; exact r1, r2, ⟨_, ef⟩, fun e y hy => ?_, r5⟩
        have gx : fin[i]? = some x := by rw [ef, List.getElem?_append_left hil]; exact hx
        obtain ⟨hfl, hfx⟩ := List.getElem?_eq_some_iff.mp gx
        rw [List.drop_eq_getElem_cons hfl, hfx] at hy
        rcases List.mem_cons.mp hy with q | q
        · rw [q]; exact ht
        · exact r4 e y q
/-- from one state on -/
theorem bfs_from {P : σ → Prop} {tr : σ → Option τ} {nx : σ → List (δ × σ)} (hP : ∀ x, P x → ∀ a ∈ nx x, P a.2) {x0 : σ} (h0 : P x0) (hz : (nx x0).length ≤ 2999) :
    ∃ res fin, bfsRun tr nx 4000 [x0] [[]] 0 = some (res, fin) ∧ (∀ x ∈ fin, P x) ∧ (res = none → x0 ∈ fin ∧ (∀ a ∈ nx x0, a.2 ∈ fin) ∧ ∀ x ∈ fin, tr x = none) ∧ (∀ t w, res = some (t, w) → ∃ x, P x ∧ tr x = some t) := by
  have b0 : BOk P [x0] ([[]] : List (List δ)) := ⟨rfl, by simp, fun k w hk => by
    cases k with
    | zero => simp at hk; subst hk; simp
    | succ k => simp at hk, fun x hx => by rw [List.mem_singleton] at hx; subst hx; exact h0⟩
  obtain ⟨res, fin, r1, r2, ⟨t, r3⟩, r4, r5⟩ := bfs_ends hP (tr := tr) 4000 [x0] [[]] 0 b0 (Nat.zero_le _) (by omega)
  refine ⟨res, fin, r1, r2, fun e => ?_, r5⟩
  have hall := r4 e
  rw [List.drop_zero] at hall
  have hx0 : x0 ∈ fin := by rw [r3]; exact List.mem_cons_self
  refine ⟨hx0, ?_, hall⟩
  have t0 := hall x0 hx0
  have r1' : bfsRun tr nx 4000 [x0] [[]] 0 = bfsRun tr nx 3999 ((nx x0).foldl (addOne []) ([x0], [[]])).1 ((nx x0).foldl (addOne []) ([x0], [[]])).2 1 := by
    rw [show (4000 : Nat) = 3999 + 1 from rfl]
    conv => lhs; unfold bfsRun
    simp [t0]
  rw [r1'] at r1
  obtain ⟨b2, _⟩ := BOk.fold (i := 0) (way := []) (nx x0) b0 rfl (hP x0 h0)
  obtain ⟨t1, e1⟩ := fold_sub ([] : List δ) (nx x0) ([x0], [[]])
  have hl2 : 1 ≤ ((nx x0).foldl (addOne []) ([x0], [[]])).1.length := by rw [e1]; simp
  obtain ⟨res', fin', q1, _, ⟨t2, q3⟩, _, _⟩ := bfs_ends hP (tr := tr) 3999 _ _ 1 b2 hl2 (by omega)
  rw [r1] at q1
  cases q1
  intro a ha
  rw [q3]
  exact List.mem_append_left _ (fold_has [] (nx x0) ([x0], [[]]) (by show 1 + _ ≤ _; omega) a ha)
end
end MP
set_option Elab.async false
set_option linter.all false
set_option maxRecDepth 20000
/-! Part 25: the words compared. -/
namespace MP
open PySem L2
theorem st_eq {a b : Str} {c : Bool} (h : decide (a = b) = c) : opEq (.str a) (.str b) = some (.bool c) := by rw [eq_str, h]
theorem st_ne {a b : Str} {c : Bool} (h : decide (a = b) = c) : opNe (.str a) (.str b) = some (.bool !c) := by
  subst h
  simp [opNe, okD, PyData.depth, PyData.eqv]
  rfl
theorem in_of {x : D} {ds : List D} {c : Bool} (h : (ds.any fun z => PyData.eqv z x) = c) (k : okD x = true) : opIn x (.tuple ds) = some (.bool c) := by
  show (if okD x = true then some (PyData.bool (ds.any fun z => PyData.eqv z x)) else none) = _
  rw [h, k]
  rfl
theorem q_again_again : opEq (.str "again") (.str "again") = some (.bool true) := st_eq (by decide)
theorem n_again_again : opNe (.str "again") (.str "again") = some (.bool false) := st_ne (c := true) (by decide)
theorem q_again_end : opEq (.str "again") (.str "end") = some (.bool false) := st_eq (by decide)
theorem n_again_end : opNe (.str "again") (.str "end") = some (.bool true) := st_ne (c := false) (by decide)
theorem q_again_loop : opEq (.str "again") (.str "loop") = some (.bool false) := st_eq (by decide)
theorem n_again_loop : opNe (.str "again") (.str "loop") = some (.bool true) := st_ne (c := false) (by decide)
theorem q_again_say : opEq (.str "again") (.str "say") = some (.bool false) := st_eq (by decide)
theorem n_again_say : opNe (.str "again") (.str "say") = some (.bool true) := st_ne (c := false) (by decide)
theorem q_again_beside : opEq (.str "again") (.str "beside") = some (.bool false) := st_eq (by decide)
theorem n_again_beside : opNe (.str "again") (.str "beside") = some (.bool true) := st_ne (c := false) (by decide)
theorem q_again_send : opEq (.str "again") (.str "send") = some (.bool false) := st_eq (by decide)
theorem n_again_send : opNe (.str "again") (.str "send") = some (.bool true) := st_ne (c := false) (by decide)
theorem q_again_hear : opEq (.str "again") (.str "hear") = some (.bool false) := st_eq (by decide)
theorem n_again_hear : opNe (.str "again") (.str "hear") = some (.bool true) := st_ne (c := false) (by decide)
theorem q_end_again : opEq (.str "end") (.str "again") = some (.bool false) := st_eq (by decide)
theorem n_end_again : opNe (.str "end") (.str "again") = some (.bool true) := st_ne (c := false) (by decide)
theorem q_end_end : opEq (.str "end") (.str "end") = some (.bool true) := st_eq (by decide)
theorem n_end_end : opNe (.str "end") (.str "end") = some (.bool false) := st_ne (c := true) (by decide)
theorem q_end_loop : opEq (.str "end") (.str "loop") = some (.bool false) := st_eq (by decide)
theorem n_end_loop : opNe (.str "end") (.str "loop") = some (.bool true) := st_ne (c := false) (by decide)
theorem q_end_say : opEq (.str "end") (.str "say") = some (.bool false) := st_eq (by decide)
theorem n_end_say : opNe (.str "end") (.str "say") = some (.bool true) := st_ne (c := false) (by decide)
theorem q_end_beside : opEq (.str "end") (.str "beside") = some (.bool false) := st_eq (by decide)
theorem n_end_beside : opNe (.str "end") (.str "beside") = some (.bool true) := st_ne (c := false) (by decide)
theorem q_end_send : opEq (.str "end") (.str "send") = some (.bool false) := st_eq (by decide)
theorem n_end_send : opNe (.str "end") (.str "send") = some (.bool true) := st_ne (c := false) (by decide)
theorem q_end_hear : opEq (.str "end") (.str "hear") = some (.bool false) := st_eq (by decide)
theorem n_end_hear : opNe (.str "end") (.str "hear") = some (.bool true) := st_ne (c := false) (by decide)
theorem q_loop_again : opEq (.str "loop") (.str "again") = some (.bool false) := st_eq (by decide)
theorem n_loop_again : opNe (.str "loop") (.str "again") = some (.bool true) := st_ne (c := false) (by decide)
theorem q_loop_end : opEq (.str "loop") (.str "end") = some (.bool false) := st_eq (by decide)
theorem n_loop_end : opNe (.str "loop") (.str "end") = some (.bool true) := st_ne (c := false) (by decide)
theorem q_loop_loop : opEq (.str "loop") (.str "loop") = some (.bool true) := st_eq (by decide)
theorem n_loop_loop : opNe (.str "loop") (.str "loop") = some (.bool false) := st_ne (c := true) (by decide)
theorem q_loop_say : opEq (.str "loop") (.str "say") = some (.bool false) := st_eq (by decide)
theorem n_loop_say : opNe (.str "loop") (.str "say") = some (.bool true) := st_ne (c := false) (by decide)
theorem q_loop_beside : opEq (.str "loop") (.str "beside") = some (.bool false) := st_eq (by decide)
theorem n_loop_beside : opNe (.str "loop") (.str "beside") = some (.bool true) := st_ne (c := false) (by decide)
theorem q_loop_send : opEq (.str "loop") (.str "send") = some (.bool false) := st_eq (by decide)
theorem n_loop_send : opNe (.str "loop") (.str "send") = some (.bool true) := st_ne (c := false) (by decide)
theorem q_loop_hear : opEq (.str "loop") (.str "hear") = some (.bool false) := st_eq (by decide)
theorem n_loop_hear : opNe (.str "loop") (.str "hear") = some (.bool true) := st_ne (c := false) (by decide)
theorem q_say_again : opEq (.str "say") (.str "again") = some (.bool false) := st_eq (by decide)
theorem n_say_again : opNe (.str "say") (.str "again") = some (.bool true) := st_ne (c := false) (by decide)
theorem q_say_end : opEq (.str "say") (.str "end") = some (.bool false) := st_eq (by decide)
theorem n_say_end : opNe (.str "say") (.str "end") = some (.bool true) := st_ne (c := false) (by decide)
theorem q_say_loop : opEq (.str "say") (.str "loop") = some (.bool false) := st_eq (by decide)
theorem n_say_loop : opNe (.str "say") (.str "loop") = some (.bool true) := st_ne (c := false) (by decide)
theorem q_say_say : opEq (.str "say") (.str "say") = some (.bool true) := st_eq (by decide)
theorem n_say_say : opNe (.str "say") (.str "say") = some (.bool false) := st_ne (c := true) (by decide)
theorem q_say_beside : opEq (.str "say") (.str "beside") = some (.bool false) := st_eq (by decide)
theorem n_say_beside : opNe (.str "say") (.str "beside") = some (.bool true) := st_ne (c := false) (by decide)
theorem q_say_send : opEq (.str "say") (.str "send") = some (.bool false) := st_eq (by decide)
theorem n_say_send : opNe (.str "say") (.str "send") = some (.bool true) := st_ne (c := false) (by decide)
theorem q_say_hear : opEq (.str "say") (.str "hear") = some (.bool false) := st_eq (by decide)
theorem n_say_hear : opNe (.str "say") (.str "hear") = some (.bool true) := st_ne (c := false) (by decide)
theorem q_beside_again : opEq (.str "beside") (.str "again") = some (.bool false) := st_eq (by decide)
theorem n_beside_again : opNe (.str "beside") (.str "again") = some (.bool true) := st_ne (c := false) (by decide)
theorem q_beside_end : opEq (.str "beside") (.str "end") = some (.bool false) := st_eq (by decide)
theorem n_beside_end : opNe (.str "beside") (.str "end") = some (.bool true) := st_ne (c := false) (by decide)
theorem q_beside_loop : opEq (.str "beside") (.str "loop") = some (.bool false) := st_eq (by decide)
theorem n_beside_loop : opNe (.str "beside") (.str "loop") = some (.bool true) := st_ne (c := false) (by decide)
theorem q_beside_say : opEq (.str "beside") (.str "say") = some (.bool false) := st_eq (by decide)
theorem n_beside_say : opNe (.str "beside") (.str "say") = some (.bool true) := st_ne (c := false) (by decide)
theorem q_beside_beside : opEq (.str "beside") (.str "beside") = some (.bool true) := st_eq (by decide)
theorem n_beside_beside : opNe (.str "beside") (.str "beside") = some (.bool false) := st_ne (c := true) (by decide)
theorem q_beside_send : opEq (.str "beside") (.str "send") = some (.bool false) := st_eq (by decide)
theorem n_beside_send : opNe (.str "beside") (.str "send") = some (.bool true) := st_ne (c := false) (by decide)
theorem q_beside_hear : opEq (.str "beside") (.str "hear") = some (.bool false) := st_eq (by decide)
theorem n_beside_hear : opNe (.str "beside") (.str "hear") = some (.bool true) := st_ne (c := false) (by decide)
theorem q_send_again : opEq (.str "send") (.str "again") = some (.bool false) := st_eq (by decide)
theorem n_send_again : opNe (.str "send") (.str "again") = some (.bool true) := st_ne (c := false) (by decide)
theorem q_send_end : opEq (.str "send") (.str "end") = some (.bool false) := st_eq (by decide)
theorem n_send_end : opNe (.str "send") (.str "end") = some (.bool true) := st_ne (c := false) (by decide)
theorem q_send_loop : opEq (.str "send") (.str "loop") = some (.bool false) := st_eq (by decide)
theorem n_send_loop : opNe (.str "send") (.str "loop") = some (.bool true) := st_ne (c := false) (by decide)
theorem q_send_say : opEq (.str "send") (.str "say") = some (.bool false) := st_eq (by decide)
theorem n_send_say : opNe (.str "send") (.str "say") = some (.bool true) := st_ne (c := false) (by decide)
theorem q_send_beside : opEq (.str "send") (.str "beside") = some (.bool false) := st_eq (by decide)
theorem n_send_beside : opNe (.str "send") (.str "beside") = some (.bool true) := st_ne (c := false) (by decide)
theorem q_send_send : opEq (.str "send") (.str "send") = some (.bool true) := st_eq (by decide)
theorem n_send_send : opNe (.str "send") (.str "send") = some (.bool false) := st_ne (c := true) (by decide)
theorem q_send_hear : opEq (.str "send") (.str "hear") = some (.bool false) := st_eq (by decide)
theorem n_send_hear : opNe (.str "send") (.str "hear") = some (.bool true) := st_ne (c := false) (by decide)
theorem q_hear_again : opEq (.str "hear") (.str "again") = some (.bool false) := st_eq (by decide)
theorem n_hear_again : opNe (.str "hear") (.str "again") = some (.bool true) := st_ne (c := false) (by decide)
theorem q_hear_end : opEq (.str "hear") (.str "end") = some (.bool false) := st_eq (by decide)
theorem n_hear_end : opNe (.str "hear") (.str "end") = some (.bool true) := st_ne (c := false) (by decide)
theorem q_hear_loop : opEq (.str "hear") (.str "loop") = some (.bool false) := st_eq (by decide)
theorem n_hear_loop : opNe (.str "hear") (.str "loop") = some (.bool true) := st_ne (c := false) (by decide)
theorem q_hear_say : opEq (.str "hear") (.str "say") = some (.bool false) := st_eq (by decide)
theorem n_hear_say : opNe (.str "hear") (.str "say") = some (.bool true) := st_ne (c := false) (by decide)
theorem q_hear_beside : opEq (.str "hear") (.str "beside") = some (.bool false) := st_eq (by decide)
theorem n_hear_beside : opNe (.str "hear") (.str "beside") = some (.bool true) := st_ne (c := false) (by decide)
theorem q_hear_send : opEq (.str "hear") (.str "send") = some (.bool false) := st_eq (by decide)
theorem n_hear_send : opNe (.str "hear") (.str "send") = some (.bool true) := st_ne (c := false) (by decide)
theorem q_hear_hear : opEq (.str "hear") (.str "hear") = some (.bool true) := st_eq (by decide)
theorem n_hear_hear : opNe (.str "hear") (.str "hear") = some (.bool false) := st_ne (c := true) (by decide)
theorem q_w_again (b : Bool) : opEq (wD b) (.str "again") = some (.bool false) := by cases b; exact q_hear_again; exact q_send_again
theorem n_w_again (b : Bool) : opNe (wD b) (.str "again") = some (.bool true) := by cases b; exact n_hear_again; exact n_send_again
theorem q_w_end (b : Bool) : opEq (wD b) (.str "end") = some (.bool false) := by cases b; exact q_hear_end; exact q_send_end
theorem n_w_end (b : Bool) : opNe (wD b) (.str "end") = some (.bool true) := by cases b; exact n_hear_end; exact n_send_end
theorem q_w_loop (b : Bool) : opEq (wD b) (.str "loop") = some (.bool false) := by cases b; exact q_hear_loop; exact q_send_loop
theorem n_w_loop (b : Bool) : opNe (wD b) (.str "loop") = some (.bool true) := by cases b; exact n_hear_loop; exact n_send_loop
theorem q_w_say (b : Bool) : opEq (wD b) (.str "say") = some (.bool false) := by cases b; exact q_hear_say; exact q_send_say
theorem n_w_say (b : Bool) : opNe (wD b) (.str "say") = some (.bool true) := by cases b; exact n_hear_say; exact n_send_say
theorem q_w_beside (b : Bool) : opEq (wD b) (.str "beside") = some (.bool false) := by cases b; exact q_hear_beside; exact q_send_beside
theorem n_w_beside (b : Bool) : opNe (wD b) (.str "beside") = some (.bool true) := by cases b; exact n_hear_beside; exact n_send_beside
theorem i_end_end_again : opIn (.str "end") (.tuple [.str "end", .str "again"]) = some (.bool true) := in_of (by decide +kernel) (by simp [okD, PyData.depth])
theorem i_again_end_again : opIn (.str "again") (.tuple [.str "end", .str "again"]) = some (.bool true) := in_of (by decide +kernel) (by simp [okD, PyData.depth])
theorem i_say_end_again : opIn (.str "say") (.tuple [.str "end", .str "again"]) = some (.bool false) := in_of (by decide +kernel) (by simp [okD, PyData.depth])
theorem i_loop_end_again : opIn (.str "loop") (.tuple [.str "end", .str "again"]) = some (.bool false) := in_of (by decide +kernel) (by simp [okD, PyData.depth])
theorem i_beside_end_again : opIn (.str "beside") (.tuple [.str "end", .str "again"]) = some (.bool false) := in_of (by decide +kernel) (by simp [okD, PyData.depth])
theorem i_end_send_hear : opIn (.str "end") (.tuple [.str "send", .str "hear"]) = some (.bool false) := in_of (by decide +kernel) (by simp [okD, PyData.depth])
theorem i_again_send_hear : opIn (.str "again") (.tuple [.str "send", .str "hear"]) = some (.bool false) := in_of (by decide +kernel) (by simp [okD, PyData.depth])
theorem i_loop_send_hear : opIn (.str "loop") (.tuple [.str "send", .str "hear"]) = some (.bool false) := in_of (by decide +kernel) (by simp [okD, PyData.depth])
theorem i_send_send_hear : opIn (.str "send") (.tuple [.str "send", .str "hear"]) = some (.bool true) := in_of (by decide +kernel) (by simp [okD, PyData.depth])
theorem i_hear_send_hear : opIn (.str "hear") (.tuple [.str "send", .str "hear"]) = some (.bool true) := in_of (by decide +kernel) (by simp [okD, PyData.depth])
theorem i_w (b : Bool) : opIn (wD b) (.tuple [.str "send", .str "hear"]) = some (.bool true) := by cases b; exact i_hear_send_hear; exact i_send_send_hear
/-- a comprehension of two clauses that changes nothing -/
theorem comp2_of {α : Type} {t : Tg} {tst : Mean} {src1 : MSrc} {t1 : Tg} {vs1 : List Nat} {tst1 elt : Mean} {ρ : Env} {S : Store} (emb : α → D) (g : α → List D) : ∀ (l : List α), (∀ a ∈ l, ∃ ρ1 es, t.set (emb a) ρ = some ρ1 ∧ tst ρ1 S = some (.d (.bool true), S) ∧ src1 ρ1 S = some (es, S) ∧ compRun t1 tst1 elt (wipeE ρ1 vs1) es S = some (g a, S)) →
    comp2Run t tst src1 t1 vs1 tst1 elt ρ (l.map emb) S = some (l.flatMap g, S)
  | [], _ => rfl
  | a :: l, h => by
    obtain ⟨ρ1, es, h1, h2, h3, h4⟩ := h a List.mem_cons_self
    have ih := comp2_of emb g l fun b hb => h b (List.mem_cons_of_mem _ hb)
    rw [List.map_cons]
    unfold comp2Run
    rw [h1]
    simp only [h2, h3, h4, ih]
    rfl
theorem sSeq_nx {m n : SMean} {ρ ρ1 : Env} {S S1 : Store} (h : m ρ S = some (.nx ρ1 S1)) : sSeq m n ρ S = n ρ1 S1 := by
  unfold sSeq
  rw [h]
mutual
/-- no bool, no dict in it, and nothing long -/
def sk : D → Bool
  | .none => true
  | .int _ => true
  | .str _ => true
  | .list xs => decide (xs.length ≤ 1000) && sks xs
  | .tuple xs => decide (xs.length ≤ 1000) && sks xs
  | .bool _ => false
  | .dict _ => false
def sks : List D → Bool
  | [] => true
  | x :: xs => sk x && sks xs
end
theorem sks_mem : ∀ {xs : List D} {x : D}, sks xs = true → x ∈ xs → sk x = true
  | y :: xs, x, h, hm => by
    simp only [sks, Bool.and_eq_true] at h
    rcases List.mem_cons.mp hm with e | e
    · rw [e]; exact h.1
    · exact sks_mem h.2 e
theorem depthAll_mem : ∀ {xs : List D} {x : D}, x ∈ xs → x.depth ≤ PyData.depthAll xs
  | y :: xs, x, hm => by
    simp only [PyData.depthAll]
    rcases List.mem_cons.mp hm with e | e
    · rw [e]; omega
    · have := depthAll_mem e; omega
end MP
set_option Elab.async false
set_option linter.all false
set_option maxRecDepth 20000
/-! Part 26: a dict of numbers whose keys are nested tuples. -/
namespace MP
open PySem L2
open PySem.PyData (strOk)
theorem keyDs_some {d : D} {ds : List D} {k : List NestedKey} (h : keyDs (d :: ds) = some k) : ∃ x xs, keyD d = some x ∧ keyDs ds = some xs ∧ k = x :: xs := by
  simp only [keyDs] at h
  split at h
  · rename_i x xs e1 e2
    cases h
    exact ⟨x, xs, e1, e2, rfl⟩
  · cases h
theorem keyD_tup {ds : List D} {k : NestedKey} (h : keyD (.tuple ds) = some k) : ∃ ks, keyDs ds = some ks ∧ k = .tup ks := by
  simp only [keyD] at h
  cases e : keyDs ds with
  | none => rw [e] at h; cases h
  | some ks => rw [e] at h; cases h; exact ⟨ks, rfl, rfl⟩
section
variable {X : Cx} {pins : List (Addr × Obj)} {σ : L2.St} {H : Hp} {s : Shared}
mutual
theorem nested_of (I : Inv X pins σ H s) : ∀ (d : D) (k : NestedKey) (v : V) (u : Value), keyD d = some k → DR X.K H v d → RelV v u → NestedIs s.heap k u
  | .none, k, v, u, e, r, q => by
    cases e
    rw [r.of_non] at q
    cases (show u = Value.none from q)
    exact .none
  | .bool b, k, v, u, e, r, q => by
    cases e
    rw [r.of_bl] at q
    cases (show u = Value.bool b from q)
    exact .bool rfl
  | .int i, k, v, u, e, r, q => by
    cases e
    rw [r.of_int] at q
    obtain ⟨t, rfl⟩ := (show ∃ t, u = Value.int i t from q)
    exact .int i t
  | .str x, k, v, u, e, r, q => by
    cases e
    rw [r.of_str.1] at q
    obtain ⟨t, rfl⟩ := (show ∃ t, u = Value.str x t from q)
    exact .text x t
  | .tuple ds, k, v, u, e, r, q => by
    obtain ⟨ks, ek, rfl⟩ := keyD_tup e
    obtain ⟨a, xs, rfl, hs, dr⟩ := r.of_tup
    obtain ⟨its, rv, ⟨o, ho, hc, n, hd⟩, _⟩ := I.tuple hs
    cases (show u = Value.ref a from q)
    exact .tup ho hc hd (by simpa using nested_all I ds ks xs its ek dr rv)
  | .list _, k, v, u, e, r, q => by simp [keyD] at e
  | .dict _, k, v, u, e, r, q => by simp [keyD] at e
theorem nested_all (I : Inv X pins σ H s) : ∀ (ds : List D) (ks : List NestedKey) (vs : List V) (us : List Value), keyDs ds = some ks → DRs X.K H vs ds → Vals vs us → NestedAll s.heap ks us
  | [], ks, vs, us, e, r, q => by
    cases e
    rw [r.of_nil] at q
    cases q
    exact .nil
  | d :: ds, ks, vs, us, e, r, q => by
    obtain ⟨x, xs, e1, e2, rfl⟩ := keyDs_some e
    obtain ⟨v, ws, rfl, h, t⟩ := r.of_cons
    cases q with
    | cons q1 q2 => exact .cons (nested_of I d x v _ e1 h q1) (nested_all I ds xs ws _ e2 t q2)
end
end
/-! entries and the dict's own -/
abbrev KR : List KEnt → List (NestedKey × Addr × Value) → Prop := Paired fun x y => x.1 = y.1 ∧ x.2.1 = y.2.1 ∧ RelV (.int x.2.2) y.2.2
def lookE (xs : List KEnt) (k : NestedKey) : Option Int := (xs.find? fun x => decide (x.1 = k)).map (·.2.2)
def putE (xs : List KEnt) (k : NestedKey) (a : Addr) (i : Int) : List KEnt := if (lookE xs k).isSome then xs.map fun x => if x.1 = k then (x.1, x.2.1, i) else x else xs ++ [(k, a, i)]
def lookKV (kvs : List (NestedKey × Int)) (k : NestedKey) : Option Int := (kvs.find? fun x => decide (x.1 = k)).map (·.2)
def putKV (kvs : List (NestedKey × Int)) (k : NestedKey) (i : Int) : List (NestedKey × Int) := if (lookKV kvs k).isSome then kvs.map fun x => if x.1 = k then (x.1, i) else x else kvs ++ [(k, i)]
def kvOf (xs : List KEnt) : List (NestedKey × Int) := xs.map fun x => (x.1, x.2.2)
theorem lookE_kv (k : NestedKey) : ∀ xs : List KEnt, lookKV (kvOf xs) k = lookE xs k
  | [] => rfl
  | x :: xs => by
    have ih := lookE_kv k xs
    unfold lookKV kvOf lookE at *
    rw [List.map_cons, List.find?_cons, List.find?_cons]
    by_cases h : x.1 = k
    · simp [h]
    · simp only [decide_eq_false h]
      exact ih
theorem putE_kv (xs : List KEnt) (k : NestedKey) (a : Addr) (i : Int) : kvOf (putE xs k a i) = putKV (kvOf xs) k i := by
  unfold putE putKV
  rw [lookE_kv]
  split
  · unfold kvOf
    rw [List.map_map, List.map_map]
    refine List.map_congr_left fun x _ => ?_
    show (fun x : KEnt => (x.1, x.2.2)) (if x.1 = k then (x.1, x.2.1, i) else x) = _
    by_cases h : x.1 = k <;> simp [h]
  · simp [kvOf]
theorem kr_at {xs : List KEnt} {ys : List (NestedKey × Addr × Value)} (r : KR xs ys) (k : NestedKey) : (lookE xs k = none ∧ atKey ys k = none) ∨ ∃ i b t, lookE xs k = some i ∧ atKey ys k = some (b, Value.int i t) := by
  induction r with
  | nil => exact .inl ⟨rfl, rfl⟩
  | @cons x y xs ys h t ih =>
    obtain ⟨h1, h2, h3⟩ := h
    by_cases e : x.1 = k
    · have e' : y.1 = k := h1.symm.trans e
      obtain ⟨t, ht⟩ := (show ∃ t, y.2.2 = Value.int x.2.2 t from h3)
      refine .inr ⟨x.2.2, y.2.1, t, ?_, ?_⟩
      · simp [lookE, List.find?_cons, e]
      · have : atKey (y :: ys) k = some y.2 := by simp [atKey, List.find?_cons, e']
        rw [this, ← ht]
    · have e' : ¬ y.1 = k := fun z => e (h1.trans z)
      have l1 : lookE (x :: xs) k = lookE xs k := by simp [lookE, List.find?_cons, e]
      have l2 : atKey (y :: ys) k = atKey ys k := by simp [atKey, List.find?_cons, e']
      rw [l1, l2]
      exact ih
theorem kr_some {xs : List KEnt} {ys : List (NestedKey × Addr × Value)} (r : KR xs ys) (k : NestedKey) : (atKey ys k).isSome = (lookE xs k).isSome := by
  rcases kr_at r k with ⟨h1, h2⟩ | ⟨i, b, t, h1, h2⟩ <;> rw [h1, h2] <;> rfl
theorem kr_repl {xs : List KEnt} {ys : List (NestedKey × Addr × Value)} (r : KR xs ys) (k : NestedKey) {i : Int} {u : Value} (ru : RelV (.int i) u) : KR (xs.map fun x => if x.1 = k then (x.1, x.2.1, i) else x) (ys.map (PySem.putAt k u)) := by
  induction r with
  | nil => exact .nil
  | @cons x y xs ys h t ih =>
    rw [List.map_cons, List.map_cons]
    refine .cons ?_ ih
    obtain ⟨h1, h2, h3⟩ := h
    unfold PySem.putAt
    by_cases e : x.1 = k
    · rw [if_pos e, if_pos (h1.symm.trans e)]; exact ⟨h1, h2, ru⟩
    · rw [if_neg e, if_neg (fun z => e (h1.trans z))]; exact ⟨h1, h2, h3⟩
theorem kr_put {xs : List KEnt} {ys : List (NestedKey × Addr × Value)} (r : KR xs ys) (k : NestedKey) (a : Addr) {i : Int} {u : Value} (ru : RelV (.int i) u) : KR (putE xs k a i) (storedH ys k a u) := by
  unfold putE storedH
  rw [kr_some r k]
  split
  · exact kr_repl r k ru
  · exact Paired.snoc r ⟨rfl, rfl, ru⟩
theorem kr_keys {xs : List KEnt} {ys : List (NestedKey × Addr × Value)} (r : KR xs ys) : xs.map (·.1) = ys.map (·.1) := by
  induction r with
  | nil => rfl
  | cons h t ih => rw [List.map_cons, List.map_cons, ih, h.1]
theorem kr_all {xs : List KEnt} {ys : List (NestedKey × Addr × Value)} {P : NestedKey → Addr → Prop} (r : KR xs ys) (h : ∀ x ∈ xs, P x.1 x.2.1) : ∀ y ∈ ys, P y.1 y.2.1 := by
  induction r with
  | nil => intro y hy; cases hy
  | @cons x y xs ys e t ih =>
    intro z hz
    rcases List.mem_cons.mp hz with q | q
    · subst q
      have := h x List.mem_cons_self
      rw [e.1, e.2.1] at this
      exact this
    · exact ih (fun x hx => h x (List.mem_cons_of_mem _ hx)) z q
theorem putE_keys {xs : List KEnt} {k : NestedKey} {a : Addr} {i : Int} {x : KEnt} (h : x ∈ putE xs k a i) : (∃ y ∈ xs, x.1 = y.1 ∧ x.2.1 = y.2.1) ∨ (x.1 = k ∧ x.2.1 = a) := by
  unfold putE at h
  split at h
  · obtain ⟨y, hy, rfl⟩ := List.mem_map.mp h
    refine .inl ⟨y, hy, ?_⟩
    split <;> exact ⟨rfl, rfl⟩
  · rcases List.mem_append.mp h with e | e
    · exact .inl ⟨x, e, rfl, rfl⟩
    · rw [List.mem_singleton] at e
      subst e
      exact .inr ⟨rfl, rfl⟩
theorem putE_len (xs : List KEnt) (k : NestedKey) (a : Addr) (i : Int) : (putE xs k a i).length ≤ xs.length + 1 := by
  unfold putE
  split
  · rw [List.length_map]; omega
  · rw [List.length_append]; simp
theorem lookKV_mem {kvs : List (NestedKey × Int)} {k : NestedKey} : (lookKV kvs k).isSome = true ↔ k ∈ kvs.map (·.1) := by
  unfold lookKV
  rw [Option.isSome_map, List.find?_isSome]
  constructor
  · rintro ⟨x, hx, e⟩
    exact List.mem_map.mpr ⟨x, hx, of_decide_eq_true e⟩
  · intro h
    obtain ⟨x, hx, e⟩ := List.mem_map.mp h
    exact ⟨x, hx, decide_eq_true e⟩
theorem putKV_keys (kvs : List (NestedKey × Int)) (k : NestedKey) (i : Int) : (putKV kvs k i).map (·.1) = if (lookKV kvs k).isSome then kvs.map (·.1) else kvs.map (·.1) ++ [k] := by
  unfold putKV
  split
  · rw [List.map_map]
    refine List.map_congr_left fun x _ => ?_
    show (if x.1 = k then (x.1, i) else x).1 = x.1
    split <;> rfl
  · rw [List.map_append]; rfl
theorem putKV_nodup {kvs : List (NestedKey × Int)} (h : (kvs.map (·.1)).Nodup) (k : NestedKey) (i : Int) : ((putKV kvs k i).map (·.1)).Nodup := by
  rw [putKV_keys]
  split
  · exact h
  · rename_i hn
    rw [lookKV_mem] at hn
    rw [List.nodup_append]
    refine ⟨h, by simp, fun a ha b hb => ?_⟩
    rw [List.mem_singleton] at hb
    subst hb
    exact fun e => hn (e ▸ ha)
/-! the rules -/
/-- what a dict of the heap asks of its keys -/
def KeysIn (K : PySem.W.Frag) (H : Hp) (xs : List KEnt) : Prop := ∀ x ∈ xs, ∃ ds, keyD (.tuple ds) = some x.1 ∧ DR K H (.ref x.2.1) (.tuple ds) ∧ x.1.depth ≤ 8
def KeyIn (K : PySem.W.Frag) (H : Hp) (b : Addr) (k : NestedKey) : Prop := ∃ ds, keyD (.tuple ds) = some k ∧ DR K H (.ref b) (.tuple ds) ∧ k.depth ≤ 8
theorem keptO_new {P : Program} {w : World} {H : Hp} {h : Heap} {a : Addr} {xs : List KEnt} (R : KeptH w h a xs) : ObjOk P w H h a (KeptO w a xs) := by
  have ⟨ys, r, o, es, ep, ho, q⟩ := R.ex
  refine ⟨R, ⟨o, ho⟩, fun h1 h2 p k => ?_⟩
  obtain ⟨ys', r', o', es', ep', ho', q'⟩ := KeptH.ex p
  exact ⟨ys', r', o', es', ep', k o' ho', q'⟩
section
variable {X : Cx} {pins : List (Addr × Obj)} {σ : L2.St} {H : Hp} {s : Shared}
theorem key_is (I : Inv X pins σ H s) {b : Addr} {k : NestedKey} (h : KeyIn X.K H b k) : (nestedKind X.prog X.w).is s.heap k b := by
  obtain ⟨ds, e, r, hd⟩ := h
  exact ⟨nested_of I (.tuple ds) k (.ref b) (.ref b) e r rfl, hd⟩
theorem kept_dict (I : Inv X pins σ H s) {a : Addr} {xs : List KEnt} (ha : H a = some (KeptO X.w a xs)) (hk : KeysIn X.K H xs) (nd : (xs.map (·.1)).Nodup) : ∃ ys, KR xs ys ∧ s.heap.DictOfH (nestedKind X.prog X.w) a ys := by
  have R : KeptH X.w s.heap a xs := (I.hok a _ ha).1
  obtain ⟨ys, r, o, es, ep, h1, h2, h3, h4⟩ := R.ex
  refine ⟨ys, r, o, es, ep, h1, h2, h3, h4, ?_, by rw [← kr_keys r]; exact nd⟩
  exact kr_all (P := fun k b => (nestedKind X.prog X.w).is s.heap k b) r fun x hx => key_is I (hk x hx)
def rNotInK (K : PySem.W.Frag) (w : World) : R2 := fun x y H Q => ∃ a b xs k, x = .ref b ∧ y = .ref a ∧ H a = some (KeptO w a xs) ∧ KeysIn K H xs ∧ (xs.map (·.1)).Nodup ∧ (a == sysModules) = false ∧ KeyIn K H b k ∧ Q (.bl (!(lookE xs k).isSome)) H
theorem op_notInK (hu : X.A.units + 20 < cLine) : OpR X (compareOp .NotIn) (rNotInK X.K X.w) := by
  intro pins s σ H x y v u Q I rx ry h
  obtain ⟨a, b, xs, k, rfl, rfl, ha, hk, nd, hs, hb, q⟩ := h
  cases rx
  cases ry
  obtain ⟨ys, r, dd⟩ := kept_dict I ha hk nd
  refine PyProof.Rows.wpAny_notIn_heap (show (nestedKind X.prog X.w).room X.A.in1 from by show X.A.in1.units + 8 < cLine; simp only [Around.in1_units]; omega) (key_is I hb) hs dd ?_
  rw [kr_some r k]
  exact ⟨.bl (!(lookE xs k).isSome), H, I.tok _, rfl, q⟩
def rGetK (K : PySem.W.Frag) (w : World) : R2 := fun x y H Q => ∃ a b xs k i, x = .ref a ∧ y = .ref b ∧ H a = some (KeptO w a xs) ∧ KeysIn K H xs ∧ (xs.map (·.1)).Nodup ∧ KeyIn K H b k ∧ lookE xs k = some i ∧ Q (.int i) H
theorem ix_kept (hu : X.A.units + 20 < cLine) : IxR X (rGetK X.K X.w) := by
  intro value slice pins s σ H x y v u Q I rx ry h hs
  obtain ⟨a, b, xs, k, i, rfl, rfl, ha, hk, nd, hb, hi, q⟩ := h
  cases rx
  cases ry
  obtain ⟨ys, r, dd⟩ := kept_dict I ha hk nd
  rcases kr_at r k with ⟨z, _⟩ | ⟨i', c, t, h1, h2⟩
  · rw [z] at hi; cases hi
  · rw [h1] at hi
    cases hi
    refine PyProof.Rows.tail_any dd.typeIs PySem.F.slot_dict_getitem.lookup (wpAny_getItem_heap (show (nestedKind X.prog X.w).room X.A.in1 from by show X.A.in1.units + 8 < cLine; simp only [Around.in1_units]; omega) (key_is I hb) dd h2 ?_) hs
    exact ⟨.int i, H, I.tok _, ⟨t, rfl⟩, q⟩
def rSetK (K : PySem.W.Frag) (w : World) : V → V → V → Hp → (Hp → Prop) → Prop := fun o i v H Q => ∃ a b xs k j, o = .ref a ∧ i = .ref b ∧ v = .int j ∧ H a = some (KeptO w a xs) ∧ xs.length ≤ 100000 ∧ KeysIn K H xs ∧ (xs.map (·.1)).Nodup ∧ KeyIn K H b k ∧ Q (upd H a (KeptO w a (putE xs k b j)))
theorem set_kept (hu : X.A.units + 20 < cLine) : PSet X (rSetK X.K X.w) := by
  intro pins s σ H o i v ov iv u Q I ro ri rv h
  obtain ⟨a, b, xs, k, j, rfl, rfl, rfl, ha, hz, hk, nd, hb, q⟩ := h
  cases ro
  cases ri
  obtain ⟨ys, r, dd⟩ := kept_dict I ha hk nd
  have hl := Paired.length r
  refine wpAny_setItem_heap (hsz := by rw [sizeLine_eq]; omega) (show (nestedKind X.prog X.w).room X.A.in1 from by show X.A.in1.units + 8 < cLine; simp only [Around.in1_units]; omega) (key_is I hb) dd fun h' dd' hs => ?_
  obtain ⟨ob, es, ep, hq, h2, h3, h4, _, h5⟩ := dd'
  refine ⟨_, d_write I (by rw [ha]; exact True.intro) hs ⟨ob, hq⟩ (keptO_new ⟨_, kr_put r k b rv, ob, es, ep, hq, h2, h3, h4⟩), q⟩
def tKeptNew (w : World) : TE := fun _ H Q => ∀ p, H p = none → (p == sysModules) = false → Q (.ref p) (upd H p (KeptO w p []))
theorem pe_keptNew {pos : Pos} : PE X (.Dict [] [] pos) (tKeptNew X.w) := ⟨fun pins s σ H Q I h =>
  wpAny_Dict_empty ⟨.ref s.heap.objs.size, _, I.laid (a := s.heap.objs.size) (o := KeptO X.w s.heap.objs.size []) (t' := s.toks) (fun _ _ q => Heap.get?_push_of_some _ q) (Nat.le_refl _)
    (keptO_new ⟨[], .nil, _, #[], 0, Heap.get?_push_size _ rfl, ⟨rfl, rfl, rfl⟩, rfl, rfl⟩), rfl, h _ (I.hok.fresh (Nat.le_refl _)) (beq_eq_false_iff_ne.mpr (Ne.symm (Nat.ne_of_lt I.big)))⟩⟩
end
end MP
set_option Elab.async false
set_option linter.all false
set_option maxRecDepth 20000
/-! Part 27: a dict of numbers in the store: its rules. -/
namespace MP
open PySem L2
open PySem.PyData (strOk)
section
variable {Γ : Gam} {X : Cx} {O : List Nat} {a b e o ie : Expr} {ma mb mo mi mv : Mean} {c1 c2 : Bool} {pos p pos' : Pos}
/-- the key of a datum -/
def keyOk (d : D) : Option NestedKey := match d with
  | .tuple ds => match keyD (.tuple ds) with
    | some k => if k.depth ≤ 8 then some k else none
    | none => none
  | _ => none
theorem keyOk_some {d : D} {k : NestedKey} (h : keyOk d = some k) : ∃ ds, d = .tuple ds ∧ keyD (.tuple ds) = some k ∧ k.depth ≤ 8 := by
  unfold keyOk at h
  split at h
  · rename_i ds
    split at h
    · rename_i k' ek
      split at h
      · rename_i hd
        cases h
        exact ⟨ds, rfl, ek, hd⟩
      · cases h
    · cases h
  · cases h
theorem DT.tupR {ω : Wd} {v : V} {ds : List D} (h : DT (Γ := Γ) ω v (.tuple ds)) : DR Γ.K ω.F v (.tuple ds) := by
  rcases h with h | ⟨p, xs, ds, e1, e2, _⟩
  · exact h
  · cases e2
/-- the dict that is the n-th object -/
theorem WOk.kept (c : Ctx Γ X) {ω : Wd} (ok : WOk Γ ω) {n : Nat} {kvs : List (NestedKey × Int)} {v : V} (h : ω.S[n]? = some (.kept kvs)) (r : ∃ a, ω.φ[n]? = some a ∧ v = .ref a) :
    ∃ a xs, v = .ref a ∧ ω.φ[n]? = some a ∧ ω.H a = some (KeptO X.w a xs) ∧ kvOf xs = kvs ∧ (xs.map (·.1)).Nodup ∧ (a == sysModules) = false ∧ KeysIn X.K ω.H xs ∧ ∀ x ∈ xs, ∃ ds, keyD (.tuple ds) = some x.1 ∧ DR Γ.K ω.F (.ref x.2.1) (.tuple ds) ∧ x.1.depth ≤ 8 := by
  obtain ⟨a, e, rfl⟩ := r
  obtain ⟨b, e', xs, q1, q2, q3, q4, q5⟩ := ok.ob n _ h
  rw [e] at e'
  cases e'
  refine ⟨a, xs, rfl, e, by rw [← c.hw]; exact q1, q2, ?_, q4, fun x hx => ?_, q5⟩
  · have : kvs.map (·.1) = xs.map (·.1) := by rw [← q2, List.map_map]; rfl
    rw [← this]
    exact q3
  · obtain ⟨ds, z1, z2, z3⟩ := q5 x hx
    exact ⟨ds, z1, by rw [← c.hK]; exact z2.sub ok.sub, z3⟩
theorem key_in (c : Ctx Γ X) {ω : Wd} (ok : WOk Γ ω) {v : V} {d : D} {k : NestedKey} (h : keyOk d = some k) (r : DT (Γ := Γ) ω v d) : ∃ b, v = .ref b ∧ KeyIn X.K ω.H b k ∧ ∃ ds, keyD (.tuple ds) = some k ∧ DR Γ.K ω.F (.ref b) (.tuple ds) ∧ k.depth ≤ 8 := by
  obtain ⟨ds, rfl, ek, hd⟩ := keyOk_some h
  have r' := r.tupR
  obtain ⟨b, xs, rfl, _, _⟩ := r'.of_tup
  exact ⟨b, rfl, ⟨ds, ek, by rw [← c.hK]; exact r'.sub ok.sub, hd⟩, ds, ek, r', hd⟩
def eNotInK (a b : Mean) : Mean := fun ρ S => match a ρ S with
  | some (.d d, S1) => match b ρ S1 with
    | some (.obj n, S2) => match S2[n]?, keyOk d with
      | some (.kept kvs), some k => some (.d (.bool (!(lookKV kvs k).isSome)), S2)
      | _, _ => none
    | _ => none
  | _ => none
theorem eNotInK_some {a b : Mean} {ρ : Env} {S S' : Store} {u : Val} (h : eNotInK a b ρ S = some (u, S')) : ∃ d S1 n kvs k, a ρ S = some (.d d, S1) ∧ b ρ S1 = some (.obj n, S') ∧ S'[n]? = some (.kept kvs) ∧ keyOk d = some k ∧ u = .d (.bool (!(lookKV kvs k).isSome)) := by
  unfold eNotInK at h
  split at h
  · rename_i d S1 e1
    split at h
    · rename_i n S2 e2
      split at h
      · rename_i kvs k e3 e4
        cases h
        exact ⟨d, S1, n, kvs, k, e1, e2, e3, e4, rfl⟩
      · cases h
    · cases h
  · cases h
theorem T_notInK (c : Ctx Γ X) {σ : L2.St} {H : Hp} {Q : VK} (h : T Γ O (eNotInK ma mb) true σ H Q) : tOp (rNotInK X.K X.w) (T Γ O ma false) (T Γ O mb true) σ H Q := by
  obtain ⟨ω, ρ, u, S', e1, ok, E, e2, k⟩ := h
  obtain ⟨d, S1, n, kvs, kk, ea, eb, en, ek, rfl⟩ := eNotInK_some e2
  refine ⟨ω, ρ, _, S1, e1, ok, E, ea, fun ω1 v1 l1 ok1 es1 r1 => ?_⟩
  refine ⟨ω1, ρ, _, S', rfl, ok1, E.le l1, by rw [es1]; exact eb, fun ω2 v2 l2 ok2 es2 r2 => ?_⟩
  obtain ⟨ad, xs, rfl, _, hH, hkv, nd, hs, hk, _⟩ := ok2.kept c (by rw [es2]; exact en) r2
  obtain ⟨b, rfl, hb, _⟩ := key_in c ok2 ek (DT.le l2 r1)
  refine ⟨ad, b, xs, kk, rfl, rfl, hH, hk, nd, hs, hb, ?_⟩
  rw [← lookE_kv, hkv]
  exact k ω2 _ (l1.trans l2) ok2 es2 (.bl _)
theorem me_notInK (c : Ctx Γ X) (ha : PE X a (T Γ O ma c1)) (hb : PE X b (T Γ O mb true)) (hm : behindInMarks .NotIn b = false := by with_unfolding_all rfl) : PE X (.Compare a [.NotIn] [b] pos) (T Γ O (eNotInK ma mb) true) :=
  PE.mono (pe_cmpR (op_notInK (by have := c.units; omega)) (PM.weak ha) hb hm) fun σ H Q h => T_notInK c h
theorem mt_notInK (c : Ctx Γ X) (ha : PE X a (T Γ O ma c1)) (hb : PE X b (T Γ O mb true)) (hm : behindInMarks .NotIn b = false := by with_unfolding_all rfl) : PT X (.Compare a [.NotIn] [b] pos) (TB Γ O (eNotInK ma mb)) :=
  PT.mono (pt_cmpR (op_notInK (by have := c.units; omega)) (PM.weak ha) hb hm) fun σ H Q ⟨ω, ρ, z, S', e1, ok, E, e2, k⟩ =>
    T_notInK c ⟨ω, ρ, _, S', e1, ok, E, e2, fun ω' v l ok' es (r : DR Γ.K ω'.F v (.bool z)) => ⟨z, r.of_bl, k ω' l ok' es⟩⟩
/-- d[k] -/
def eGetK (o i : Mean) : Mean := fun ρ S => match o ρ S with
  | some (.obj n, S1) => match i ρ S1 with
    | some (.d d, S2) => match S2[n]?, keyOk d with
      | some (.kept kvs), some k => (lookKV kvs k).map fun j => (.d (.int j), S2)
      | _, _ => none
    | _ => none
  | _ => none
theorem eGetK_some {a b : Mean} {ρ : Env} {S S' : Store} {u : Val} (h : eGetK a b ρ S = some (u, S')) : ∃ d S1 n kvs k j, a ρ S = some (.obj n, S1) ∧ b ρ S1 = some (.d d, S') ∧ S'[n]? = some (.kept kvs) ∧ keyOk d = some k ∧ lookKV kvs k = some j ∧ u = .d (.int j) := by
  unfold eGetK at h
  split at h
  · rename_i n S1 e1
    split at h
    · rename_i d S2 e2
      split at h
      · rename_i kvs k e3 e4
        cases e5 : lookKV kvs k with
        | none => rw [e5] at h; cases h
        | some j => rw [e5] at h; cases h; exact ⟨d, S1, n, kvs, k, j, e1, e2, e3, e4, e5, rfl⟩
      · cases h
    · cases h
  · cases h
theorem me_getK (c : Ctx Γ X) (ho : PE X o (T Γ O mo true)) (hi : PE X ie (T Γ O mi c1)) (hs : PlainIx ie) : PE X (.Subscript o ie pos) (T Γ O (eGetK mo mi) true) :=
  PE.mono (pe_ix (ix_kept (by have := c.units; omega)) ho (PM.weak hi) hs) fun σ H Q ⟨ω, ρ, u, S', e1, ok, E, e2, k⟩ => by
  obtain ⟨d, S1, n, kvs, kk, j, ea, eb, en, ek, ej, rfl⟩ := eGetK_some e2
  refine ⟨ω, ρ, _, S1, e1, ok, E, ea, fun ω1 v1 l1 ok1 es1 r1 => ?_⟩
  refine ⟨ω1, ρ, _, S', rfl, ok1, E.le l1, by rw [es1]; exact eb, fun ω2 v2 l2 ok2 es2 r2 => ?_⟩
  obtain ⟨ad, xs, rfl, _, hH, hkv, nd, hs, hk, _⟩ := ok2.kept c (by rw [es2]; exact en) ((RT.rv r1).le l2)
  obtain ⟨b, rfl, hb, _⟩ := key_in c ok2 ek r2
  refine ⟨ad, b, xs, kk, j, rfl, rfl, hH, hk, nd, hb, ?_, k ω2 _ (l1.trans l2) ok2 es2 (.int j)⟩
  rw [← lookE_kv, hkv]
  exact ej
/-- d[k] = i -/
def sSetK (mo mi mv : Mean) : SMean := fun ρ S => match mv ρ S with
  | some (.d (.int j), S1) => match mo ρ S1 with
    | some (.obj n, S2) => match mi ρ S2 with
      | some (.d d, S3) => match S3[n]?, keyOk d with
        | some (.kept kvs), some k => if kvs.length ≤ 100000 then some (.nx ρ (S3.set n (.kept (putKV kvs k j)))) else none
        | _, _ => none
      | _ => none
    | _ => none
  | _ => none
theorem sSetK_some {ρ : Env} {S : Store} {r : Out} (h : sSetK mo mi mv ρ S = some r) : ∃ j S1 n S2 d S3 kvs k, mv ρ S = some (.d (.int j), S1) ∧ mo ρ S1 = some (.obj n, S2) ∧ mi ρ S2 = some (.d d, S3) ∧ S3[n]? = some (.kept kvs) ∧ keyOk d = some k ∧ kvs.length ≤ 100000 ∧ r = .nx ρ (S3.set n (.kept (putKV kvs k j))) := by
  unfold sSetK at h
  split at h
  · rename_i j S1 e1
    split at h
    · rename_i n S2 e2
      split at h
      · rename_i d S3 e3
        split at h
        · rename_i kvs k e4 e5
          split at h
          · rename_i hz
            cases h
            exact ⟨j, S1, n, S2, d, S3, kvs, k, e1, e2, e3, e4, e5, hz, rfl⟩
          · cases h
        · cases h
      · cases h
    · cases h
  · cases h
theorem ms_setK (c : Ctx Γ X) (hv : PE X e (T Γ O mv true)) (ho : PE X o (T Γ O mo true)) (hi : PE X ie (T Γ O mi true))
    (hs : swapsWithSole [.Subscript o ie pos'] e pos.line X.env = pure false := by rfl) (hw : swappedStores [.Subscript o ie pos'] e X.env = pure none := by rfl)
    (h1 : (assignEach [.Subscript o ie pos'] X.env).map (·.2) = [assign (.Subscript o ie pos') X.env] := by rfl)
    (ha : ∀ v, assign (.Subscript o ie pos') X.env v = (do
      let ov ← holding [v] (eval o X.env)
      let iv ← holding [v, ov] (eval ie X.env)
      standAt pos'
      holding [v, ov, iv] (setItem ov iv v)
      release [v, ov, iv] []) := by intro _; rfl) : PS X (.Assign [.Subscript o ie pos'] e pos) (TS_ Γ O (sSetK mo mi mv)) :=
  PS.mono (ps_asg hv (pg_sub ho hi (set_kept (by have := c.units; omega)) ha) hs hw h1) fun D σ H ⟨ω₀, ω, ρ, r, e1, E, e2, k⟩ => by
  obtain ⟨j, S1, n, S2, d, S3, kvs, kk, ev, eo, ei, en, ek, hz, rfl⟩ := sSetK_some e2
  refine ⟨ω, ρ, _, S1, e1, E.ok, E.env, ev, fun ω1 v l1 ok1 es1 r1 => ?_⟩
  refine ⟨ω1, ρ, _, S2, rfl, ok1, E.env.le l1, by rw [es1]; exact eo, fun ω2 w l2 ok2 es2 r2 => ?_⟩
  refine ⟨ω2, ρ, _, S3, rfl, ok2, (E.env.le l1).le l2, by rw [es2]; exact ei, fun ω3 z l3 ok3 es3 r3 => ?_⟩
  obtain ⟨ad, xs, rfl, hφ, hH, hkv, nd, hs, hk, hkF⟩ := ok3.kept c (by rw [es3]; exact en) ((RT.rv r2).le l3)
  obtain ⟨b, rfl, hb, hbF⟩ := key_in c ok3 ek (RT.weak r3)
  have hxl : xs.length = kvs.length := by rw [← hkv]; unfold kvOf; rw [List.length_map]
  refine ⟨ad, b, xs, kk, j, rfl, rfl, DR.of_int r1, hH, by omega, hk, nd, hb, ?_⟩
  have hok := Wd.chg_ok (o := KeptO X.w ad (putE xs kk b j)) (b := .kept (putKV kvs kk j)) ok3 hφ ⟨putE xs kk b j, by rw [c.hw]; exact upd_same, by rw [← hkv, ← putE_kv]; rfl, putKV_nodup (by rw [← hkv]; unfold kvOf; rw [List.map_map]; exact nd) kk j, hs, fun x hx => by
    rcases putE_keys hx with ⟨y, hy, h1, h2⟩ | ⟨h1, h2⟩
    · rw [h1, h2]; exact hkF y hy
    · rw [h1, h2]; exact hbF⟩
  refine k (ω3.chg n ad _ _) σ ((((E.le_ l1 ok1).le_ l2 ok2).le_ l3 ok3).le_ (Wd.chg_le hφ) hok) ((l1.F.trans l2.F).trans l3.F) ?_
  show ω3.S.set n _ = S3.set n _
  rw [es3]
/-- {} -/
def eKeptNew : Mean := fun _ S => some (.obj S.length, S ++ [.kept []])
theorem me_keptNew (c : Ctx Γ X) : PE X (.Dict [] [] pos) (T Γ O eKeptNew true) := PE.mono pe_keptNew fun σ H Q ⟨ω, ρ, w, S', e1, ok, E, e2, k⟩ => by
  cases e2
  subst e1
  intro p hp hs
  exact k (ω.add p (KeptO X.w p []) (.kept [])) (.ref p) (Wd.add_le ok _ _ hp) (Wd.add_ok ok hp ⟨[], by rw [c.hw]; exact upd_same, rfl, List.nodup_nil, hs, fun x hx => nomatch hx⟩) rfl ⟨p, add_get ok, rfl⟩
end
end MP
set_option Elab.async false
set_option linter.all false
set_option maxRecDepth 100000
/-! Part 28: dict(t)[i] of a tuple of pairs; name += a tuple; two comparisons in a row. -/
namespace MP
open PySem L2 PyProof.Rows
section
variable {X : Cx}
theorem pairs_of2 {pins : List (Addr × Obj)} {σ : L2.St} {H : Hp} {s : Shared} (I : Inv X pins σ H s) : ∀ {ps : List Addr} {kvs : List (L2.Key × V)}, Paired (fun p kv => SqT X.K H p [kV kv.1, kv.2]) ps kvs →
    ∃ (vps : List (Value × Value)) (prs : List (L2.Key × Value)), KV kvs prs ∧ vps.length = ps.length ∧ prs.length = ps.length ∧
      ∀ (j : Nat) (k v : Value), vps[j]? = some (k, v) → ∃ (b : Addr) (kk : L2.Key), ps[j]? = some b ∧ s.heap.IsTuple b #[k, v] ∧ prs[j]? = some (kk, v) ∧ keyIs kk k = true
  | _, _, .nil => ⟨[], [], .nil, rfl, rfl, fun j k v e => by simp at e⟩
  | _, _, .cons (a := p) (b := kv) h t => by
    obtain ⟨vps, prs, r, hl, hl2, hp⟩ := pairs_of2 I t
    obtain ⟨its, rv, ht, _⟩ := I.tuple h
    obtain ⟨u, y, ei, ru, ry⟩ := vals2 rv
    subst ei
    refine ⟨(u, y) :: vps, (kv.1, y) :: prs, .cons ⟨rfl, ry⟩ r, by rw [List.length_cons, List.length_cons, hl], by rw [List.length_cons, List.length_cons, hl2], fun j k v e => ?_⟩
    cases j with
    | zero =>
      have e' : (u, y) = (k, v) := Option.some.inj e
      cases e'
      exact ⟨p, kv.1, rfl, ht, rfl, kV_is (P := X.prog) (w := X.w) ru⟩
    | succ j =>
      obtain ⟨b, kk, e1, e2, e3, e4⟩ := hp j k v (by simpa using e)
      exact ⟨b, kk, by simpa using e1, e2, by simpa using e3, e4⟩
/-- the tuple's object has no dict -/
theorem plain_seq {pins : List (Addr × Obj)} {σ : L2.St} {H : Hp} {s : Shared} (I : Inv X pins σ H s) {a : Addr} {its : List Value} (h : IsTup s.heap a its.toArray) (p : PlT X.K H a) : PlainSeq "tuple" s.heap a its.toArray := by
  obtain ⟨o, ho, hc, n, hd⟩ := h
  rcases p with ⟨vs, m, xs, e⟩ | ⟨o', hl, hn⟩
  · have e2 : s.heap.get? a = some { cls := .type "tuple", data := .seq vs m } := (show ObjOk X.prog X.w H s.heap a (.frz _ _) from I.hok a _ e).1
    rw [ho] at e2
    cases e2
    exact ⟨_, n, ho, rfl, rfl, hd⟩
  · have e2 := I.kIn a o' hl
    rw [ho] at e2
    cases e2
    exact ⟨o, n, ho, hc, hn, hd⟩
theorem call_dictT (hcalm : X.calm = true) : CallR X (.type "dict") (fun xs H Q => ∃ (a : Addr) (ps : List Addr) (kvs : List (L2.Key × V)), xs = [.ref a] ∧ SqT X.K H a (ps.map V.ref) ∧ PlT X.K H a ∧ Paired (fun p kv => SqT X.K H p [kV kv.1, kv.2]) ps kvs ∧
    ∀ p, H p = none → Q (.ref p) (upd H p (.dK (mergeK [] kvs)))) := by
  intro pins s σ H xs us Q I r q
  obtain ⟨a, ps, kvs, ex, hq, hpl, hp, q⟩ := q
  subst ex
  obtain ⟨u, eu, rx⟩ := vals1 r
  subst eu
  cases rx
  obtain ⟨its, rv, pl, hz⟩ := I.tuple hq
  have ei := refs_at rv
  subst ei
  rw [List.length_map] at hz
  obtain ⟨vps, prs, rel, hl, hl2, hpr⟩ := pairs_of2 I hp
  have lp : kvs.length = ps.length := by rw [rel.length, hl2]
  refine PySem.call_dict_pairs (knd := mixKind X.prog X.w) (kvs := prs) (PairArg.tuple a (ps.map Value.ref).toArray (fun j => ps.getD j 0) vps) (I.ok.hd hcalm) ⟨plain_seq I pl hpl, by simp [hl], fun j k v e => ?_⟩ ⟨by rw [hl2, hl], fun i k v e => ?_⟩ (by rw [hl]; exact hz) fun h' tk hd' k => ?_
  · obtain ⟨b, kk, e1, e2, e3, e4⟩ := hpr j k v e
    have : ps.getD j 0 = b := by rw [List.getD_eq_getElem?_getD, e1]; rfl
    dsimp only
    rw [this]
    exact ⟨by simp [e1], .inl e2⟩
  · obtain ⟨b, kk, e1, e2, e3, e4⟩ := hpr i k v e
    exact ⟨kk, e3, e4⟩
  · have hm : (s.heap.objs.size == sysModules) = false := beq_eq_false_iff_ne.mpr (Nat.ne_of_gt I.big)
    have hlen : (mergeK [] kvs).length ≤ sizeLine := by
      refine Nat.le_trans (length_mergeK kvs []) ?_
      rw [List.length_nil, Nat.zero_add, lp]
      exact hz
    exact ⟨.ref s.heap.objs.size, upd H s.heap.objs.size (.dK (mergeK [] kvs)), I.laid (t' := tk) (fun b o e => k b o (by simp) e) (Nat.le_refl _) (show ObjOk X.prog X.w _ _ _ (.dK (mergeK [] kvs)) from ⟨hlen, hm, merged [] prs, KV.merge rel .nil, hd'⟩), rfl, q _ (I.hok.fresh (Nat.le_refl _))⟩
end
/-- the pairs of a dict's display, int keys -/
def pairsD : List D → Option (List (Int × D))
  | [] => some []
  | .tuple [.int i, d] :: r => (pairsD r).map ((i, d) :: ·)
  | _ => none
theorem pairsD_map : ∀ {ds : List D} {ks : List (Int × D)}, pairsD ds = some ks → ds = ks.map fun x => .tuple [.int x.1, x.2]
  | [], ks, h => by cases h; rfl
  | d :: r, ks, h => by
    unfold pairsD at h
    split at h
    · rename_i e; cases e
    · rename_i i d' r' e
      cases e
      cases e2 : pairsD r with
      | none => rw [e2] at h; cases h
      | some ks' =>
        rw [e2] at h
        cases h
        rw [pairsD_map e2]
        rfl
    · cases h
theorem putK_new {kvs : List (L2.Key × V)} {k : L2.Key} {v : V} (h : k ∉ kvs.map (·.1)) : putK kvs k v = kvs ++ [(k, v)] := by
  unfold putK
  rw [if_neg]
  intro z
  obtain ⟨x, hx, e⟩ := List.any_eq_true.mp z
  exact h (List.mem_map.mpr ⟨x, hx, of_decide_eq_true e⟩)
theorem merge_nodup : ∀ (more kvs : List (L2.Key × V)), ((kvs ++ more).map (·.1)).Nodup → mergeK kvs more = kvs ++ more
  | [], kvs, _ => by simp [mergeK]
  | x :: more, kvs, h => by
    have hn : x.1 ∉ kvs.map (·.1) := by
      rw [List.map_append, List.nodup_append] at h
      intro z
      exact h.2.2 _ z x.1 (by simp) rfl
    have e : mergeK kvs (x :: more) = mergeK (putK kvs x.1 x.2) more := rfl
    rw [e, putK_new hn, merge_nodup more (kvs ++ [(x.1, x.2)]) (by simpa using h)]
    simp
section
variable {Γ : Gam} {X : Cx} {O : List Nat} {a b e : Expr} {ma mb m : Mean} {c1 c2 : Bool} {pos p p2 pos2 pos' : Pos}
theorem kvs_of {K : PySem.W.Frag} {F : Hp} : ∀ {ks : List (Int × D)} {vs : List V}, DRs K F vs (ks.map fun x => .tuple [.int x.1, x.2]) →
    ∃ (ps : List Addr) (kvs : List (L2.Key × V)), vs = ps.map V.ref ∧ Paired (fun p kv => SqT K F p [kV kv.1, kv.2]) ps kvs ∧ kvs.map (·.1) = ks.map (fun x => Sum.inl x.1) ∧ ∀ i d, (ks.find? fun x => decide (x.1 = i)) = some (i, d) → ∃ v, valV kvs (Sum.inl i) = some v ∧ DR K F v d
  | [], vs, r => ⟨[], [], by rw [r.of_nil]; rfl, .nil, rfl, fun i d h => by simp at h⟩
  | x :: ks, vs, r => by
    obtain ⟨v, ws, rfl, h, t⟩ := DRs.of_cons (d := .tuple [.int x.1, x.2]) (ds := ks.map fun x => .tuple [.int x.1, x.2]) r
    obtain ⟨ps, kvs, e1, e2, e3, e4⟩ := kvs_of t
    obtain ⟨q, xs, rfl, hs, dr⟩ := h.of_tup
    obtain ⟨v1, w1, rfl, r1, dr⟩ := dr.of_cons
    obtain ⟨v2, w2, rfl, r2, dr⟩ := dr.of_cons
    rw [dr.of_nil, r1.of_int] at hs
    refine ⟨q :: ps, (Sum.inl x.1, v2) :: kvs, by rw [e1]; rfl, .cons hs e2, by rw [List.map_cons, List.map_cons, e3], fun i d hf => ?_⟩
    rw [List.find?_cons] at hf
    by_cases hx : x.1 = i
    · rw [decide_eq_true hx] at hf
      injection hf with hf
      subst hf
      exact ⟨v2, by simp [valV, List.find?_cons], r2⟩
    · rw [decide_eq_false hx] at hf
      obtain ⟨v, ev, dv⟩ := e4 i d hf
      refine ⟨v, ?_, dv⟩
      have : ¬ (Sum.inl x.1 : L2.Key) = Sum.inl i := fun z => hx (by injection z)
      simpa [valV, List.find?_cons, this] using ev
/-- dict(a)[b] -/
def eDictIx (a b : Mean) : Mean := fun ρ S => match a ρ S with
  | some (.d (.tuple ds), S1) => match b ρ S1 with
    | some (.d (.int i), S2) => match pairsD ds with
      | some ks => if (ks.map (·.1)).Nodup then (ks.find? fun x => decide (x.1 = i)).map fun x => (.d x.2, S2) else none
      | none => none
    | _ => none
  | _ => none
theorem me_dictIx (c : Ctx Γ X) (hg : Gl X "dict") (ha : PE X a (T Γ O ma true)) (hb : PE X b (T Γ O mb true)) (hs : NoSl b := by exact fun _ _ => rfl) (na : starEach [a] X.env = (false, eval a X.env) :: starEach [] X.env := by rfl)
    (hpl : (backTo pos (starEach [] X.env)).any (·.1) = false := by rfl) : PE X (.Subscript (.Call (.Name "dict" p) [a] [] pos) b pos2) (T Γ O (eDictIx ma mb) true) :=
  PE.mono (pe_dget (by have := c.units; omega) (pe_callTy (call_dictT c.calm) hg c.b_dict (by decide +kernel) (pa_cons ha pa_nil na) (by decide) (by decide) na hpl) hb hs) fun σ H Q ⟨ω, ρ, w, S', e1, ok, E, e2, k⟩ => by
  unfold eDictIx at e2
  split at e2
  · rename_i ds S1 em
    split at e2
    · rename_i i S2 eb
      split at e2
      · rename_i ks ek
        split at e2
        · rename_i hnd
          cases ef : ks.find? fun x => decide (x.1 = i) with
          | none => rw [ef] at e2; cases e2
          | some y =>
            rw [ef] at e2
            cases e2
            have hy : y.1 = i := by
              have := List.find?_some ef
              exact of_decide_eq_true this
            refine ⟨ω, ρ, _, S1, e1, ok, E, em, fun ω1 v l1 ok1 es1 r1 => ?_⟩
            have r1' : DR Γ.K ω1.F v (.tuple ds) := r1
            rw [pairsD_map ek] at r1'
            obtain ⟨q, vs, rfl, hH, hpl, dr⟩ := r1'.of_tupP
            obtain ⟨ps, kvs, rfl, hp, hk, hval⟩ := kvs_of dr
            rw [c.hK] at hH hpl hp
            refine ⟨q, ps, kvs, rfl, ok1.sub.sqT hH, ok1.sub.pl hpl, Paired.mapP hp fun _ _ z => ok1.sub.sqT z, fun p3 hp3 => ?_⟩
            have hkn : (kvs.map (·.1)).Nodup := by
              rw [hk]
              exact List.Pairwise.map _ (fun x y h => h) (by
                rw [List.Nodup, List.pairwise_map] at hnd
                exact hnd.imp fun h z => h (by injection z))
            rw [merge_nodup kvs [] (by simpa using hkn), List.nil_append]
            have l2 := Wd.lay_le ok1 (.dK kvs) hp3
            have ok2 := Wd.lay_ok ok1 (.dK kvs) hp3
            refine ⟨ω1.lay p3 (.dK kvs), ρ, _, S', rfl, ok2, (E.le l1).le l2, by show mb ρ ω1.S = _; rw [es1]; exact eb, fun ω3 v3 l3 ok3 es3 r3 => ?_⟩
            have rz : v3 = .int i := DR.of_int r3
            subst rz
            have h3 : ω3.H p3 = some (.dK kvs) := l3.H p3 _ upd_same (ok1.fresh hp3)
            obtain ⟨v, ev, dv⟩ := hval i y.2 (by rw [ef, ← hy])
            refine ⟨p3, v, rfl, ?_, k ω3 v ((l1.trans l2).trans l3) ok3 es3 (dv.sub (l2.F.trans l3.F))⟩
            have := DGet.k (k := Sum.inl i) h3
            rw [ev] at this
            exact this
        · cases e2
      · cases e2
    · cases e2
  · cases e2
/-! name += a tuple -/
theorem noI_tuple_add : typeLookup (.type "tuple") (dunderI "add") = pure none := by rw [typeLookup_type, builtinLookup_eq_fast]; kernel_rfl
theorem icat_meets {prog : Program} {w : World} {A : Around} {E : Value → Shared → Prop} {s : Shared} {T id : String} {B : Builtin} {a b : Value} {S : PySem.Spec} {Q : Value → Shared → Prop} (ha : s.TypeIs a T) (hb : s.TypeIs b T) (hno : typeLookup (.type T) (dunderI "add") = pure none)
    (hfill : fillsNumberSlot (.type T) "add" = pure false) (hseq : seqSlot? (.type T) "__add__" = pure (some (.builtin id))) (slot : PySem.Slot T "__add__" id)
    (entry : entryFor table id = some B) (args : argsOk id ⟨[a, b], []⟩) (g : PySem.Meets (B ⟨[a, b], []⟩) S) (h : S A (wants Q E) s) : wpAny (model prog w) A (inplaceOp .Add a b) Q E s :=
  wpAny_inplaceOp_concat ha hb hno hfill hseq (call_meets slot ha entry args g h)
theorem icat_tup0 {prog : Program} {w : World} {A : Around} {E : Value → Shared → Prop} {s : Shared} {t b : Addr} {ws : List Value} {Q : Value → Shared → Prop} (ht : IsTup s.heap t ([] : List Value).toArray) (hb : IsTup s.heap b ws.toArray) (h : Q (.ref b) s) : wpAny (model prog w) A (inplaceOp .Add (.ref t) (.ref b)) Q E s := by
  obtain ⟨⟨cls, dd, data, sl⟩, ho, hc, n, hd⟩ := id ht
  obtain ⟨⟨cls2, dd2, data2, sl2⟩, ho2, hc2, n2, hd2⟩ := id hb
  simp only at hc hd hc2 hd2
  subst hc hd hc2 hd2
  exact icat_meets ⟨_, ho, rfl⟩ ⟨_, ho2, rfl⟩ noI_tuple_add noFill_tuple_add seq_tuple_add PySem.F.slot_tuple_add PySem.F.entry_tuple_add (PySem.F.args_tuple_add_2 _ _)
    (tuple_addW0 t b ([] : List Value).toArray ws.toArray n n2 dd dd2 sl sl2 (by simp)) ⟨ho, ho2, h⟩
theorem icat_tup {prog : Program} {w : World} {A : Around} {E : Value → Shared → Prop} {s : Shared} {t b : Addr} {vs ws : List Value} {Q : Value → Shared → Prop} (ht : IsTup s.heap t vs.toArray) (hb : IsTup s.heap b ws.toArray) (hv : vs ≠ [])
    (h1 : ws = [] → Q (.ref t) s) (h2 : ws ≠ [] → Q (.ref s.heap.objs.size) { s with heap := s.heap.push { cls := .type "tuple", data := .seq (vs ++ ws).toArray } })
    (hsz : vs.length + ws.length ≤ sizeLine) : wpAny (model prog w) A (inplaceOp .Add (.ref t) (.ref b)) Q E s := by
  obtain ⟨⟨cls, dd, data, sl⟩, ho, hc, n, hd⟩ := id ht
  obtain ⟨⟨cls2, dd2, data2, sl2⟩, ho2, hc2, n2, hd2⟩ := id hb
  simp only at hc hd hc2 hd2
  subst hc hd hc2 hd2
  have e : vs.toArray ++ ws.toArray = (vs ++ ws).toArray := by simp
  by_cases hw : ws = []
  · exact icat_meets ⟨_, ho, rfl⟩ ⟨_, ho2, rfl⟩ noI_tuple_add noFill_tuple_add seq_tuple_add PySem.F.slot_tuple_add PySem.F.entry_tuple_add (PySem.F.args_tuple_add_2 _ _)
      (tuple_addW1 t b vs.toArray ws.toArray n n2 dd dd2 sl sl2 (by simpa using hv) (by simp [hw])) ⟨ho, ho2, h1 hw⟩
  · refine icat_meets ⟨_, ho, rfl⟩ ⟨_, ho2, rfl⟩ noI_tuple_add noFill_tuple_add seq_tuple_add PySem.F.slot_tuple_add PySem.F.entry_tuple_add (PySem.F.args_tuple_add_2 _ _)
      (tuple_addW2 t b vs.toArray ws.toArray n n2 dd dd2 sl sl2 (by simpa using hv) (by simpa using hw) (by rw [List.size_toArray, List.size_toArray]; exact hsz)) ⟨ho, ho2, ?_⟩
    rw [e]
    exact h2 hw
theorem ip_catP : PIp X .Add (rCatP X.K) := by
  intro pins s σ H x y v u Q I rx ry h
  obtain ⟨a, b, xs, ys, rfl, rfl, ha, hb, hz, q0, q1, q2⟩ := h
  cases rx
  cases ry
  obtain ⟨its, r1, p1, _⟩ := I.tuple ha
  obtain ⟨its2, r2, p2, _⟩ := I.tuple hb
  by_cases hx : xs = []
  · subst hx
    cases r1
    exact icat_tup0 p1 p2 ⟨.ref b, H, I, rfl, q0 rfl⟩
  · refine icat_tup p1 p2 (fun z => hx (r1.nil_iff.mp z)) (fun z => ⟨.ref a, H, I, rfl, q1 hx (r2.nil_iff.mp z)⟩) (fun z => ?_) (by rw [← r1.length, ← r2.length]; exact hz)
    exact ⟨.ref s.heap.objs.size, _, I.laid (t' := s.toks) (o := tupO (its ++ its2).toArray 0 (xs ++ ys)) (fun b ob q => Heap.get?_push_of_some _ q) (Nat.le_refl _) (tupO_new (by rw [List.length_append]; exact hz) (r1.append r2)), rfl, q2 hx (fun w => z (r2.nil_iff.mpr w)) _ _ _ (I.hok.fresh (Nat.le_refl _))⟩
def sAugT (i : Nat) (m : Mean) : SMean := fun ρ S => match ρ.getD i none with
  | some (.d (.tuple x)) => match m ρ S with
    | some (.d (.tuple y), S1) => if x.length + y.length ≤ 1000000 then some (.nx (ρ.set i (some (.d (.tuple (x ++ y))))) S1) else none
    | _ => none
  | _ => none
theorem ms_augT {i : Nat} {x : Str} (c : Ctx Γ X) (hO : i ∉ O) (he : PE X e (T Γ O m true)) (hi : X.N[i]? = some x := by rfl) (hx : Loc X.env.scope x := by first | exact Or.inl rfl | exact Or.inr rfl)
    (hf : X.fn x = true ∨ X.env.scope.names.lookup x = some .local := by first | exact .inl rfl | exact .inr rfl) : PS X (.AugAssign (.Name x pos') .Add e pos) (TS_ Γ O (sAugT i m)) :=
  PS.mono (ps_aug c.nd hi hx he ip_catP hf) fun D σ H ⟨ω₀, ω, ρ, r, e1, E, e2, k⟩ => by
  have key : ∃ a b S1, ρ[i]? = some (some (.d (.tuple a))) ∧ m ρ ω.S = some (.d (.tuple b), S1) ∧ a.length + b.length ≤ 1000000 ∧ r = .nx (ρ.set i (some (.d (.tuple (a ++ b))))) S1 := by
    unfold sAugT at e2
    split at e2
    · rename_i a e3
      split at e2
      · rename_i b S1 e4
        split at e2
        · rename_i hl
          cases e2
          exact ⟨a, b, S1, getD_some e3, e4, hl, rfl⟩
        · cases e2
      · cases e2
    · cases e2
  obtain ⟨a, b, S1, ea, em, hl, rfl⟩ := key
  obtain ⟨v, ev, rv⟩ := E.env.var i _ ea hO
  refine ⟨v, ev, ω, ρ, _, S1, e1, E.ok, E.env, em, fun ω1 w l1 ok1 es1 r1 => ?_⟩
  have r0 : DR Γ.K ω1.F v (.tuple a) := (show DR Γ.K ω.F v (.tuple a) from rv).sub l1.F
  have r1 : DR Γ.K ω1.F w (.tuple b) := r1
  obtain ⟨p1, vs, rfl, h1, f1, g1⟩ := r0.of_tupP
  obtain ⟨p2, ws, rfl, h2, f2, g2⟩ := r1.of_tupP
  have k2 : ∀ (ω2 : Wd) (u : V), Le ω1 ω2 → WOk Γ ω2 → ω2.S = ω1.S → DR Γ.K ω2.F u (.tuple (a ++ b)) → D.nx (σ.set i (some u)) ω2.H := fun ω2 u l2 ok2 es2 r2 =>
    k ω2 _ (((E.le_ l1 ok1).le_ l2 ok2).set hO (u := .d (.tuple (a ++ b))) r2) (l1.F.trans l2.F) (es2.trans es1)
  refine ⟨p1, p2, vs, ws, rfl, rfl, by rw [← c.hK]; exact ok1.sub.sqT h1, by rw [← c.hK]; exact ok1.sub.sqT h2, lineM (by rw [g1.length, g2.length]; exact hl), fun e => ?_, fun _ e => ?_, fun _ _ t us n ht => ?_⟩
  · subst e
    cases g1
    exact k2 ω1 _ (Le.refl ω1) ok1 rfl r1
  · subst e
    cases g2
    rw [List.append_nil] at k2
    exact k2 ω1 _ (Le.refl ω1) ok1 rfl r0
  · exact k2 _ _ (Wd.put_le ok1 _ ht) (Wd.put_ok ok1 _ ht) rfl (DR.new_tup ok1 ht (g1.append g2))
/-! two comparisons in a row -/
def eChain (f g : D → D → Option D) (a b d : Mean) : Mean := fun ρ S => match a ρ S with
  | some (.d x, S1) => match b ρ S1 with
    | some (.d y, S2) => match f x y with
      | some (.bool true) => match d ρ S2 with
        | some (.d z, S3) => (g y z).map fun r => (.d r, S3)
        | _ => none
      | some (.bool false) => some (.d (.bool false), S2)
      | _ => none
    | _ => none
  | _ => none
theorem T_chain {r r' : R2} {f g : D → D → Option D} {md : Mean} {c1 c2 c3 : Bool} (hs : Serves2 Γ r f) (hs' : Serves2 Γ r' g) {σ : L2.St} {H : Hp} {Q : VK} (h : T Γ O (eChain f g ma mb md) true σ H Q) : tChain r r' (T Γ O ma false) (T Γ O mb false) (T Γ O md false) σ H Q := by
  obtain ⟨ω, ρ, u, S', e1, ok, E, e2, k⟩ := h
  unfold eChain at e2
  split at e2
  · rename_i x S1 ea
    split at e2
    · rename_i y S2 eb
      split at e2
      · rename_i ef
        split at e2
        · rename_i z S3 ed
          cases eg : g y z with
          | none => rw [eg] at e2; cases e2
          | some q =>
            rw [eg] at e2
            cases e2
            refine ⟨ω, ρ, _, S1, e1, ok, E, ea, fun ω1 v1 l1 ok1 es1 r1 => ?_⟩
            refine ⟨ω1, ρ, _, S2, rfl, ok1, E.le l1, by rw [es1]; exact eb, fun ω2 v2 l2 ok2 es2 r2 => ?_⟩
            refine hs ω2 v1 v2 x y _ _ ok2 (DT.le l2 r1) r2 ef fun ω3 v l3 ok3 es3 r3 => ⟨true, DR.of_bl r3, ?_⟩
            rw [if_pos rfl]
            refine ⟨ω3, ρ, _, S', rfl, ok3, ((E.le l1).le l2).le l3, by rw [es3, es2]; exact ed, fun ω4 v4 l4 ok4 es4 r4 => ?_⟩
            exact hs' ω4 v2 v4 y z q Q ok4 (DT.le (l3.trans l4) r2) r4 eg fun ω5 v5 l5 ok5 es5 r5 => k ω5 v5 ((((l1.trans l2).trans l3).trans l4).trans l5) ok5 (es5.trans es4) r5
        · cases e2
      · rename_i ef
        cases e2
        refine ⟨ω, ρ, _, S1, e1, ok, E, ea, fun ω1 v1 l1 ok1 es1 r1 => ?_⟩
        refine ⟨ω1, ρ, _, S', rfl, ok1, E.le l1, by rw [es1]; exact eb, fun ω2 v2 l2 ok2 es2 r2 => ?_⟩
        refine hs ω2 v1 v2 x y _ _ ok2 (DT.le l2 r1) r2 ef fun ω3 v l3 ok3 es3 r3 => ⟨false, DR.of_bl r3, ?_⟩
        rw [if_neg Bool.false_ne_true]
        exact k ω3 _ ((l1.trans l2).trans l3) ok3 (es3.trans es2) (.bl false)
      · cases e2
    · cases e2
  · cases e2
theorem me_chain {op op' : CmpOp} {f g : D → D → Option D} {d : Expr} {md : Mean} {c3 : Bool} (h : CmpIs Γ X op f) (h' : CmpIs Γ X op' g) (ha : PE X a (T Γ O ma c1)) (hb : PE X b (T Γ O mb c2)) (hd : PE X d (T Γ O md c3)) (hm : lastMarks [op, op'] [b, d] = false := by with_unfolding_all rfl) :
    PE X (.Compare a [op, op'] [b, d] pos) (T Γ O (eChain f g ma mb md) true) := by
  cases h with
  | mk h s => cases h' with
    | mk h' s' => exact PE.mono (pe_chain h h' (PM.weak ha) (PM.weak hb) (PM.weak hd) hm) fun σ H Q q => T_chain (c1 := c1) (c2 := c2) (c3 := c3) s s' q
theorem mt_chain {op op' : CmpOp} {f g : D → D → Option D} {d : Expr} {md : Mean} {c3 : Bool} (h : CmpIs Γ X op f) (h' : CmpIs Γ X op' g) (ha : PE X a (T Γ O ma c1)) (hb : PE X b (T Γ O mb c2)) (hd : PE X d (T Γ O md c3)) (hm : lastMarks [op, op'] [b, d] = false := by with_unfolding_all rfl) :
    PT X (.Compare a [op, op'] [b, d] pos) (TB Γ O (eChain f g ma mb md)) := by
  cases h with
  | mk h s => cases h' with
    | mk h' s' => exact PT.mono (pt_chain h h' (PM.weak ha) (PM.weak hb) (PM.weak hd) hm) fun σ H Q ⟨ω, ρ, z, S', e1, ok, E, e2, k⟩ => T_chain (c1 := c1) (c2 := c2) (c3 := c3) s s' ⟨ω, ρ, _, S', e1, ok, E, e2, fun ω' v l ok' es (r : DR Γ.K ω'.F v (.bool z)) => ⟨z, r.of_bl, k ω' l ok' es⟩⟩
end
end MP
set_option Elab.async false
set_option linter.all false
set_option maxRecDepth 20000
/-! Part 29: defs whose last parameter has the default False. -/
namespace MP
open PySem L2
open PySem.PyData (strOk)
structure DFD (K : PySem.W.Frag) (x qual : Str) (st : Stmt) (ps : List Str) where
  fa : Addr
  fd : FuncData
  fn : FunD K x qual (defArgs st) (defBody st) (defScope st) [V.bl false] [] fa fd
  bind : Binds K fd ps []
  bindD : ∃ ds, Vals [V.bl false] ds ∧ Binds K fd ps ds
theorem funD_mk {K : PySem.W.Frag} {x qual : Str} {st : Stmt} {f T : Addr} {oc : Value} {od an : Option Addr} {osl : Array (Option Value)} {kV doc pm cdv ct : Value} {to : Option Addr} {tc : Value} {tn : Nat} {tsl : Array (Option Value)}
    (l : K.lookup f = some ⟨oc, od, .func (PySem.W.fnOf x qual (defArgs st) (defBody st) (defScope st) (.ref T) kV doc pm an cdv ct), osl⟩) (lT : K.lookup T = some ⟨tc, to, .seq #[.bool false] tn, tsl⟩)
    (c : PySem.W.codeIn K cdv qual = true) (k : PySem.W.keepIn K (.ref f) = true) : FunD K x qual (defArgs st) (defBody st) (defScope st) [V.bl false] [] f (PySem.W.fnOf x qual (defArgs st) (defBody st) (defScope st) (.ref T) kV doc pm an cdv ct) :=
  ⟨⟨oc, od, .ref T, kV, doc, pm, an, cdv, ct, osl, rfl, l, c, .inr ⟨by simp, T, _, [.bool false], tn, rfl, lT, rfl, .cons rfl .nil⟩, .inl rfl⟩, k⟩
def dfd_mk {K : PySem.W.Frag} {x qual : Str} {st : Stmt} {ps : List Str} {f T : Addr} {oc : Value} {od an : Option Addr} {osl : Array (Option Value)} {kV doc pm cdv ct : Value} {to : Option Addr} {tc : Value} {tn : Nat} {tsl : Array (Option Value)}
    (l : K.lookup f = some ⟨oc, od, .func (PySem.W.fnOf x qual (defArgs st) (defBody st) (defScope st) (.ref T) kV doc pm an cdv ct), osl⟩) (lT : K.lookup T = some ⟨tc, to, .seq #[.bool false] tn, tsl⟩)
    (c : PySem.W.codeIn K cdv qual = true) (k : PySem.W.keepIn K (.ref f) = true) (n : Nat) (hn : n + 1 = ps.length)
    (h1 : ∀ (T : Addr) (kV doc pm : Value) (an : Option Addr) (cdv ct : Value) (us its : List Value), us.length = ps.length → its.length = 1 →
      ∃ k, bindArgs (PySem.W.fnOf x qual (defArgs st) (defBody st) (defScope st) (.ref T) kV doc pm an cdv ct) ⟨us, []⟩ = seqItems? (.ref T) >>= k ∧ k (some its.toArray) = pure (ps.zip (us ++ its.drop 1)))
    (h2 : ∀ (T : Addr) (kV doc pm : Value) (an : Option Addr) (cdv ct : Value) (us its : List Value), us.length = n → its.length = 1 →
      ∃ k, bindArgs (PySem.W.fnOf x qual (defArgs st) (defBody st) (defScope st) (.ref T) kV doc pm an cdv ct) ⟨us, []⟩ = seqItems? (.ref T) >>= k ∧ k (some its.toArray) = pure (ps.zip (us ++ its.drop 0))) : DFD K x qual st ps :=
  ⟨f, _, funD_mk l lT c k, by
    obtain ⟨ds, r, b⟩ := (funD_mk l lT c k).binds1 ps.length 1 (by simp) (by simp) h1
    cases r
    exact b, by
    exact (funD_mk l lT c k).binds1 n 0 (by simp) (by simpa using hn) h2⟩
section
variable {P : Program} {w : World} {K : PySem.W.Frag} {mg : Str → Option Value} {base : Heap} {Γ : Gam}
theorem fn_okD {x qual : Str} {st : Stmt} {f : Addr} {fd : FuncData} {N ps : List Str} {k ar i : Nat} {B : Calls} {body : SMean} {O : List Nat} {dvs : List V} (F : FunD K x qual (defArgs st) (defBody st) (defScope st) dvs [] f fd) (Sc : FnScope N ps (defScope st)) (bl : Bl mg) (hK : Γ.K = K) (hw : Γ.w = w) (har : ps.length = ar) (hO : ∀ i ∈ O, ar ≤ i) (hk : 100 ≤ k)
    (hB : ∀ us S, B i us S = runFn N.length body us S)
    (hbody : ∀ (cdv : Value) (A : Around) (outer : List PySem.Env) (s : Shared) (H : Hp) (E : XK), Room k (A.deeper (PyProof.Rows.envOfC qual (defScope st) s.heap.objs.size f cdv)) → Ctx Γ (cxOf CX0 P w K mg base N qual (defScope st) f cdv A outer s H E).nox →
      PSs (cxOf CX0 P w K mg base N qual (defScope st) f cdv A outer s H E).nox (defBody st) (TS_ Γ O body)) : FnOk P w K mg base CX0 (k + 1) f fd ps (spF Γ B i ar) := by
  refine F.ok Sc (fun vs H Q E h => (spF_len h).trans har.symm) (fun cdv A outer s H vs Q E hr h => ?_)
  have c : Ctx Γ (cxOf CX0 P w K mg base N qual (defScope st) f cdv A outer s H E).nox :=
    ⟨hK, hw, hr.mono hk, rfl, Sc.nd, PassesOwn.never, bl.b_len, bl.b_range, bl.b_sorted, bl.b_set, bl.b_all, bl.b_any, bl.b_sum, bl.b_max, bl.b_tuple, bl.b_list, bl.b_dict, bl.b_int, bl.b_bool, bl.b_str, bl.b_isi⟩
  refine ⟨_, (hbody cdv A outer s H E hr c).nox, ?_⟩
  obtain ⟨ω, us, u, S', rfl, ok, r, hl, e, q⟩ := h
  rw [hB] at e
  unfold runFn at e
  split at e
  · rename_i ρ1 S1 eb
    cases e
    exact ⟨ω, ω, _, _, rfl, start_env ok r (by rw [hl]; exact hO), eb, fun ω' σ' E' s' es => q ω' _ E'.le E'.ok es .non⟩
  · rename_i u1 S1 eb
    cases e
    exact ⟨ω, ω, _, _, rfl, start_env ok r (by rw [hl]; exact hO), eb, fun ω' v l ok' es rv => q ω' v l ok' es rv⟩
  · cases e
end
section
variable {Γ : Gam} {X : Cx} {O : List Nat} {e : Expr} {es : List Expr} {ms : Means} {pos p : Pos} {x : Str}
theorem me_callD {B : Calls} {f n k : Nat} {fa : Addr} {fd : FuncData} {ps : List Str}
    (F : FnOk X.prog X.w X.K X.mg X.base CX0 k fa fd ps (spF Γ B f n)) (hr : Room k X.A) (hm : X.mg x = some (.ref fa)) (hk : PySem.W.keepIn X.K (.ref fa) = true) (hb : ∃ ds, Vals [V.bl false] ds ∧ Binds X.K fd ps ds) (ha : PA X (e :: es) (TAs Γ O ms)) (hl : aLen (e :: es) ms)
    (hg : Gl X x := by rfl) (hn : (e :: es).length + ([.d (.bool false)] : List Val).length = n := by rfl) (hdb : (x == ("__debug__" : Str)) = false := by decide)
    (he : starEach (e :: es) X.env = (false, eval e X.env) :: starEach es X.env := by rfl) (hpl : (backTo pos (starEach es X.env)).any (·.1) = false := by rfl) :
    PE X (.Call (.Name x p) (e :: es) [] pos) (T Γ O (eCall B f ms [.d (.bool false)]) true) := by
  obtain ⟨ds, hd, hb⟩ := hb
  exact me_call F hr hm hk hb hd (fun _ => .cons (.bl false) .nil) hg hn ha hl hdb he hpl
/-- C() -/
theorem me_make00 {B : Calls} {c f k : Nat} {fa : Addr} {fd : FuncData} {ps : List Str} {C : Addr}
    (F : FnOk X.prog X.w X.K X.mg X.base CX0 k fa fd ps (spF Γ B f 1)) (hr : Room (k + 1) X.A) (M : Mk X.K C fa) (hm : X.mg x = some (.ref C)) (hb : Binds X.K fd ps [])
    (hC : Γ.cls c = C := by rfl) (hg : Gl X x := by rfl) (hdb : (x == ("__debug__" : Str)) = false := by decide) :
    PE X (.Call (.Name x p) [] [] pos) (T Γ O (eMake B c f aNil) true) := by
  subst hC
  exact me_make0 F hr M hm hb hg hdb
end
end MP
set_option Elab.async false
set_option linter.all false
set_option maxRecDepth 20000
/-! Part 30: sorting ints, steps of a body, more of the meanings reckoned out. -/
namespace MP
open PySem L2
open PySem.W (alike alikeAll dataLe dataLt)
theorem ms2 {α : Type} (le : α → α → Bool) (a b : α) : [a,b].mergeSort le = if le a b then [a,b] else [b,a] := by
  simp [List.mergeSort, List.merge, List.MergeSort.Internal.splitInTwo]
theorem alike_iTs (l : List (List Int)) (h : ∀ x ∈ l, x ≠ []) : sortOk (l.map iT) = true := by
  unfold sortOk
  simp only [List.all_map, Bool.and_eq_true, Bool.or_eq_true, List.all_eq_true, Function.comp]
  refine ⟨⟨fun x _ y _ => alike_iT x y, .inl fun x hx => ?_⟩, fun x _ => ok_iT x⟩
  cases x with
  | nil => exact absurd rfl (h _ hx)
  | cons a x => rfl
theorem sortOk_ints (l : List Int) : sortOk (l.map PyData.int) = true := by
  unfold sortOk
  simp only [List.all_map, Bool.and_eq_true, Bool.or_eq_true, List.all_eq_true, Function.comp]
  exact ⟨⟨fun x _ y _ => by simp [PySem.W.alike], .inr fun x _ => rfl⟩, fun x _ => ok_int x⟩
theorem le_ints (x y : Int) : PySem.W.dataLe false id (PyData.int x) (PyData.int y) = decide (x ≤ y) := by
  rw [PySem.W.dataLe_eq]
  show (!PySem.W.dataLt (PyData.int y) (PyData.int x)) = _
  rw [PySem.W.dataLt_int]
  by_cases h : x ≤ y
  · have : ¬ y < x := by omega
    simp [h, this]
  · have : y < x := by omega
    simp [h, this]
theorem sort_is {l m : List Int} (h : m.Pairwise (· ≤ ·)) (hp : l.Perm m) : sortBy PyData.int l = m := by
  unfold sortBy
  have e : (fun x y => PySem.W.dataLe false id (PyData.int x) (PyData.int y)) = fun (x y : Int) => decide (x ≤ y) := by
    funext x y
    exact le_ints x y
  rw [e]
  refine List.Perm.eq_of_pairwise (le := fun a b : Int => a ≤ b) (fun a b _ _ h1 h2 => by omega) ?_ h ((List.mergeSort_perm l _).trans hp)
  have := List.pairwise_mergeSort (le := fun (x y : Int) => decide (x ≤ y)) (fun a b c h1 h2 => by simp at *; omega) (fun a b => by simp; omega) l
  simpa using this
theorem seq_go {m n : SMean} {ρ ρ1 : MP.Env} {S S1 : Store} {R : Option Out} (h : m ρ S = some (.nx ρ1 S1)) (k : n ρ1 S1 = R) : sSeq m n ρ S = R := by
  rw [MP.sSeq_nx h]
  exact k
theorem runFn_ret {n : Nat} {body : SMean} {us : List Val} {S S1 : Store} {u : Val} (h : body (start0 n us) S = some (.ret u S1)) : runFn n body us S = some (u, S1) := by
  unfold runFn
  rw [h]
def insS (x : Int) : List Int → List Int
  | [] => [x]
  | y :: ys => if x ≤ y then x :: y :: ys else y :: insS x ys
def isort : List Int → List Int
  | [] => []
  | x :: xs => insS x (isort xs)
theorem insS_perm (x : Int) : ∀ l : List Int, (x :: l).Perm (insS x l)
  | [] => .refl _
  | y :: ys => by
    unfold insS
    split
    · exact .refl _
    · exact (List.Perm.swap y x ys).trans ((insS_perm x ys).cons y)
theorem insS_up (x : Int) : ∀ l : List Int, l.Pairwise (· ≤ ·) → (insS x l).Pairwise (· ≤ ·)
  | [], _ => by simp [insS]
  | y :: ys, h => by
    have h' := List.pairwise_cons.mp h
    unfold insS
    split
    · rename_i hxy
      refine List.pairwise_cons.mpr ⟨fun z hz => ?_, h⟩
      rcases List.mem_cons.mp hz with e | e
      · omega
      · have := h'.1 z e; omega
    · rename_i hxy
      refine List.pairwise_cons.mpr ⟨fun z hz => ?_, insS_up x ys h'.2⟩
      rcases List.mem_cons.mp ((insS_perm x ys).mem_iff.mpr hz) with e | e
      · omega
      · exact h'.1 z e
theorem isort_perm : ∀ l : List Int, l.Perm (isort l)
  | [] => .refl _
  | x :: xs => ((isort_perm xs).cons x).trans (insS_perm x _)
theorem isort_up : ∀ l : List Int, (isort l).Pairwise (· ≤ ·)
  | [] => by simp [isort]
  | x :: xs => insS_up x _ (isort_up xs)
theorem sort_isort (l : List Int) : sortBy PyData.int l = isort l := sort_is (isort_up l) (isort_perm l)
theorem sortD_ints (l : List Int) : sortD (l.map PyData.int) = (isort l).map PyData.int := by rw [sortD_map, sort_isort]
theorem isort_len (l : List Int) : (isort l).length = l.length := (isort_perm l).length_eq.symm
theorem srtL (l : List Int) : opSorted (.d (.list (l.map PyData.int))) = some (.list ((isort l).map PyData.int)) := by
  rw [x_sorted, sortOk_ints, if_pos rfl, sortD_ints]
theorem sks_ints : ∀ l : List Int, sks (l.map PyData.int) = true
  | [] => rfl
  | x :: l => by simp [sks, sk, sks_ints l]
theorem sk_intsL {l : List Int} (h : l.length ≤ 1000) : sk (.list (l.map PyData.int)) = true := by simp [sk, sks_ints, h]
theorem sk_iT {l : List Int} (h : l.length ≤ 1000) : sk (iT l) = true := by simp [iT, sk, sks_ints, h]
theorem dp_ints : ∀ l : List Int, PyData.depthAll (l.map PyData.int) = 0
  | [] => by simp [PyData.depthAll]
  | x :: l => by simp [PyData.depthAll, PyData.depth, dp_ints l]
theorem nb (c d : Bool) : opNe (.bool c) (.bool d) = some (.bool (c != d)) := by
  cases c <;> cases d <;> simp [opNe, okD, PyData.depth, PyData.eqv]
theorem cut_mid (ds : List D) (a b : Nat) (hab : a ≤ b) (hn : a ≤ ds.length) : cutD ds (some (a : Int)) (some (b : Int)) = (ds.drop a).take (b - a) := by
  unfold cutD
  rw [HT.sIx_nat, HT.sIx_nat, Nat.min_eq_left hn]
  by_cases h : b ≤ ds.length
  · rw [Nat.min_eq_left h]
  · rw [Nat.min_eq_right (by omega), List.take_of_length_le (by rw [List.length_drop]; omega), List.take_of_length_le (by rw [List.length_drop]; omega)]
theorem x_unpL (is : List Nat) (m : Mean) (ρ : MP.Env) (S : Store) : sUnpL is m ρ S = match m ρ S with
  | some (.d (.list ds), S1) => if ds.length = is.length then some (.nx (setAll ρ is (ds.map .d)) S1) else none
  | _ => none := rfl
theorem x_callD {B : Calls} {f : Nat} {ms : Means} {dus : List Val} (ρ : MP.Env) (S : Store) : eCall B f ms dus ρ S = match ms ρ S with
  | some (us, S1) => B f (us ++ dus) S1
  | none => none := rfl
theorem x_notInK (a b : Mean) (ρ : MP.Env) (S : Store) : eNotInK a b ρ S = match a ρ S with
  | some (.d d, S1) => match b ρ S1 with
    | some (.obj n, S2) => match S2[n]?, keyOk d with
      | some (.kept kvs), some k => some (.d (.bool (!(lookKV kvs k).isSome)), S2)
      | _, _ => none
    | _ => none
  | _ => none := rfl
theorem x_getK (o i : Mean) (ρ : MP.Env) (S : Store) : eGetK o i ρ S = match o ρ S with
  | some (.obj n, S1) => match i ρ S1 with
    | some (.d d, S2) => match S2[n]?, keyOk d with
      | some (.kept kvs), some k => (lookKV kvs k).map fun j => (.d (.int j), S2)
      | _, _ => none
    | _ => none
  | _ => none := rfl
theorem x_setK (mo mi mv : Mean) (ρ : MP.Env) (S : Store) : sSetK mo mi mv ρ S = match mv ρ S with
  | some (.d (.int j), S1) => match mo ρ S1 with
    | some (.obj n, S2) => match mi ρ S2 with
      | some (.d d, S3) => match S3[n]?, keyOk d with
        | some (.kept kvs), some k => if kvs.length ≤ 100000 then some (.nx ρ (S3.set n (.kept (putKV kvs k j)))) else none
        | _, _ => none
      | _ => none
    | _ => none
  | _ => none := rfl
theorem x_keptNew (ρ : MP.Env) (S : Store) : eKeptNew ρ S = some (.obj S.length, S ++ [.kept []]) := rfl
/-! entries -/
theorem look_put (kvs : List (NestedKey × Int)) (k k' : NestedKey) (i : Int) : lookKV (putKV kvs k i) k' = if k' = k then some i else lookKV kvs k' := by
  unfold putKV
  by_cases hk : (lookKV kvs k).isSome = true
  · rw [if_pos hk]
    rw [lookKV_mem] at hk
    induction kvs with
    | nil => simp at hk
    | cons x kvs ih =>
      unfold lookKV at ih ⊢
      rw [List.map_cons, List.find?_cons, List.find?_cons]
      by_cases hx : x.1 = k
      · subst hx
        simp only [if_true]
        by_cases h2 : x.1 = k'
        · simp [h2]
        · have h3 : ¬ k' = x.1 := fun e => h2 e.symm
          simp only [decide_eq_false h2, if_neg h3]
          by_cases hm : x.1 ∈ kvs.map (·.1)
          · have := ih hm
            rw [if_neg h3] at this
            exact this
          · have e : (kvs.map fun y => if y.1 = x.1 then (y.1, i) else y) = kvs := by
              conv => rhs; rw [← List.map_id kvs]
              refine List.map_congr_left fun y hy => ?_
              have : ¬ y.1 = x.1 := fun e => hm (List.mem_map.mpr ⟨y, hy, e⟩)
              simp [this]
            rw [e]
      · simp only [if_neg hx]
        by_cases h2 : x.1 = k'
        · have h3 : ¬ k' = k := fun e => hx (h2.trans e)
          simp [h2, h3]
        · simp only [decide_eq_false h2]
          refine ih ?_
          rw [List.map_cons] at hk
          rcases List.mem_cons.mp hk with e | e
          · exact absurd e.symm hx
          · exact e
  · rw [if_neg hk]
    unfold lookKV
    rw [List.find?_append]
    by_cases h : k' = k
    · subst h
      have : (kvs.find? fun x => decide (x.1 = k')) = none := by
        unfold lookKV at hk
        rw [Option.isSome_map] at hk
        cases e : kvs.find? fun x => decide (x.1 = k') with
        | none => rfl
        | some y => rw [e] at hk; exact absurd rfl hk
      simp [this]
    · have : ¬ k = k' := fun e => h e.symm
      simp [h, this]
theorem nodup_sub_len {α : Type} [DecidableEq α] : ∀ (l m : List α), l.Nodup → (∀ x ∈ l, x ∈ m) → l.length ≤ m.length
  | [], _, _, _ => Nat.zero_le _
  | x :: l, m, h, hs => by
    obtain ⟨h1, h2⟩ := List.nodup_cons.mp h
    have hx : x ∈ m := hs x List.mem_cons_self
    have ih := nodup_sub_len l (m.erase x) h2 fun y hy => by
      refine (List.mem_erase_of_ne ?_).mpr (hs y (List.mem_cons_of_mem _ hy))
      intro e
      exact h1 (e ▸ hy)
    rw [List.length_erase_of_mem hx] at ih
    have : 0 < m.length := List.length_pos_of_mem hx
    rw [List.length_cons]
    omega
mutual
theorem key_depth : ∀ (d : D) (k : NestedKey), keyD d = some k → k.depth ≤ d.depth
  | .none, k, e => by cases e; simp [NestedKey.depth]
  | .bool b, k, e => by cases e; simp [NestedKey.depth]
  | .int i, k, e => by cases e; simp [NestedKey.depth]
  | .str x, k, e => by cases e; simp [NestedKey.depth]
  | .tuple ds, k, e => by
    obtain ⟨ks, ek, rfl⟩ := keyD_tup e
    have := keys_depth ds ks ek
    simp only [NestedKey.depth, PyData.depth]
    omega
  | .list _, k, e => by simp [keyD] at e
  | .dict _, k, e => by simp [keyD] at e
theorem keys_depth : ∀ (ds : List D) (ks : List NestedKey), keyDs ds = some ks → NestedKey.depthAll ks ≤ PyData.depthAll ds
  | [], ks, e => by cases e; simp [NestedKey.depthAll]
  | d :: ds, ks, e => by
    obtain ⟨x, xs, e1, e2, rfl⟩ := keyDs_some e
    have := key_depth d x e1
    have := keys_depth ds xs e2
    simp only [NestedKey.depthAll, PyData.depthAll]
    omega
end
/-- a comprehension whose element may change the store -/
theorem compRun_st {α : Type} {t : Tg} {elt : Mean} {ρ : Env} (I : Store → Prop) (emb : α → D) (g : α → D) : ∀ (l : List α) (S : Store), I S → (∀ a ∈ l, ∀ S, I S → ∃ ρ1 S1, t.set (emb a) ρ = some ρ1 ∧ elt ρ1 S = some (.d (g a), S1) ∧ I S1) →
    ∃ S1, compRun t (eC (.bool true)) elt ρ (l.map emb) S = some (l.map g, S1) ∧ I S1
  | [], S, hi, _ => ⟨S, rfl, hi⟩
  | a :: l, S, hi, h => by
    obtain ⟨ρ1, S1, h1, h2, h3⟩ := h a List.mem_cons_self S hi
    obtain ⟨S2, h4, h5⟩ := compRun_st I emb g l S1 h3 fun b hb => h b (List.mem_cons_of_mem _ hb)
    refine ⟨S2, ?_, h5⟩
    rw [List.map_cons]
    unfold compRun
    rw [h1]
    simp only [x_c, h2, h4]
    rfl
end MP
set_option Elab.async false
set_option linter.all false
set_option maxRecDepth 100000
set_option maxHeartbeats 4000000
namespace K58
open PySem MP
/-- _law_same: 0 actual, 1 due, 2 k -/
def b__law_same (B : Calls) : SMean := sSeq (sIf (eOr (eIsi "tuple" (eVar 1)) (eIsi "list" (eVar 1))) (sSeq (sIf (eOr (eBin opNe (eIsi "tuple" (eVar 1)) (eIsi "tuple" (eVar 0))) (eOr (eBin opNe (eIsi "list" (eVar 1)) (eIsi "list" (eVar 0))) (eBin opNe (eU opLen (eVar 0)) (eU opLen (eVar 1))))) (sRet (eC (.bool false))) (sSkip)) (sRet (eBin opEq (eU opLen (eComp (sRg1 (eU opLen (eVar 1))) (.n 2) [2] (eNot (eCall B 0 (aCons (eIx (eVar 0) (eVar 2)) (aCons (eIx (eVar 1) (eVar 2)) (aNil))) [])) (eVar 2))) (eC (.int 0))))) (sSkip)) (sSeq (sIf (eBin opIs (eVar 1) (eC .none)) (sRet (eBin opIs (eVar 0) (eC .none))) (sSkip)) (sSeq (sIf (eOr (eIsi "bool" (eVar 1)) (eIsi "bool" (eVar 0))) (sRet (eAnd (eIsi "bool" (eVar 1)) (eAnd (eIsi "bool" (eVar 0)) (eBin opEq (eVar 0) (eVar 1))))) (sSkip)) (sSeq (sIf (eIsi "int" (eVar 1)) (sRet (eAnd (eIsi "int" (eVar 0)) (eBin opEq (eVar 0) (eVar 1)))) (sSkip)) (sRet (eAnd (eIsi "str" (eVar 0)) (eAnd (eIsi "str" (eVar 1)) (eBin opEq (eVar 0) (eVar 1))))))))
/-- _law_pool: 0 script, 1 salt, 2 cell -/
def l0__law_pool (B : Calls) : SMean := sSet 1 (eBin opMod (eU opInt (eBin opAdd (eBin opMul (eVar 1) (eC (.int 31))) (eVar 2))) (eC (.int 1000003)))
def b__law_pool (B : Calls) : SMean := sSeq (sSet 1 (eC (.int 7))) (sSeq (sFor (sSq (eSl (eVar 0) (oNo) (oSome (eC (.int 63))))) (.n 2) (l0__law_pool B)) (sRet (eCells (aCons (eList (eVar 0)) (aCons (eC (.int 0)) (aCons (eC (.int 0)) (aCons (eC (.int 0)) (aCons (eVar 1) (aNil)))))))))
/-- _law_spread: 0 cell, 1 mixed, 2 total, 3 k -/
def l0__law_spread (B : Calls) : SMean := sSeq (sSet 1 (eBin opMod (eU opInt (eBin opAdd (eBin opAdd (eBin opMul (eVar 1) (eC (.int 48271))) (eC (.int 12345))) (eVar 3))) (eC (.int 2147483647)))) (sSet 2 (eBin opAdd (eBin opMul (eVar 2) (eC (.int 2147483647))) (eVar 1)))
def b__law_spread (B : Calls) : SMean := sSeq (sSet 1 (eBin opMod (eU opInt (eVar 0)) (eC (.int 2147483647)))) (sSeq (sSet 2 (eC (.int 1))) (sSeq (sFor (sRg1 (eC (.int 4))) (.n 3) (l0__law_spread B)) (sRet (eVar 2))))
/-- _law_draw: 0 pool, 1 many, 2 cell, 3 mixed, 4 value -/
def b__law_draw (B : Calls) : SMean := sSeq (sIf (eAnd (eBin opLe (eIx (eVar 0) (eC (.int 2))) (eC (.int 0))) (eBin opLt (eIx (eVar 0) (eC (.int 1))) (eU opLen (eIx (eVar 0) (eC (.int 0)))))) (sSeq (sSet 2 (eIx (eIx (eVar 0) (eC (.int 0))) (eIx (eVar 0) (eC (.int 1))))) (sSeq (sCell (eVar 0) (eC (.int 1)) (eBin opAdd (eIx (eVar 0) (eC (.int 1))) (eC (.int 1)))) (sSeq (sCell (eVar 0) (eC (.int 2)) (eVar 2)) (sIf (eBin opLt (eVar 2) (eC (.int 1000000000000000000))) (sCell (eVar 0) (eC (.int 2)) (eCall B 2 (aCons (eVar 2) (aNil)) [])) (sSkip))))) (sSkip)) (sSeq (sCell (eVar 0) (eC (.int 3)) (eBin opAdd (eIx (eVar 0) (eC (.int 3))) (eC (.int 1)))) (sSeq (sIf (eBin opLe (eIx (eVar 0) (eC (.int 2))) (eC (.int 0))) (sSeq (sSet 3 (eBin opMod (eU opInt (eBin opAdd (eBin opAdd (eBin opMul (eIx (eVar 0) (eC (.int 4))) (eC (.int 48271))) (eBin opMul (eIx (eVar 0) (eC (.int 3))) (eC (.int 69621)))) (eC (.int 1)))) (eC (.int 2147483647)))) (sSeq (sSet 3 (eBin opMod (eU opInt (eBin opAdd (eBin opMul (eVar 3) (eC (.int 16807))) (eIx (eVar 0) (eC (.int 3))))) (eC (.int 2147483629)))) (sRet (eBin opMod (eBin opFdiv (eVar 3) (eC (.int 5))) (eVar 1))))) (sSkip)) (sSeq (sSet 4 (eBin opMod (eU opInt (eIx (eVar 0) (eC (.int 2)))) (eVar 1))) (sSeq (sCell (eVar 0) (eC (.int 2)) (eBin opFdiv (eIx (eVar 0) (eC (.int 2))) (eVar 1))) (sRet (eVar 4))))))
/-- _law_shuffled: 0 pool, 1 items, 2 left, 3 found -/
def l0__law_shuffled (B : Calls) : SMean := sPopApp 3 2 (eCall B 3 (aCons (eVar 0) (aCons (eU opLen (eVar 2)) (aNil))) [])
def b__law_shuffled (B : Calls) : SMean := sSeq (sSet 2 (eList (eVar 1))) (sSeq (sSet 3 (eLst (aNil))) (sSeq (sWhile 100 (eBin opNe (eVar 2) (eLst (aNil))) (l0__law_shuffled B)) (sRet (eVar 3))))
/-- size: 0 value, 1 part -/
def b_size (B : Calls) : SMean := sRet (eBin opAdd (eC (.int 1)) (eU opSum (eComp (sSq (eCall B 25 (aCons (eVar 0) (aNil)) [])) (.n 1) [1] (eC (.bool true)) (eCall B 5 (aCons (eVar 1) (aNil)) []))))
/-- law: 0 script, 1 pool, 2 roles, 3 sizes, 4 loops, 5 k, 6 talk, 7 length, 8 every, 9 number, 10 row, 11 left, 12 machines, 13 room, 14 due, 15 size_of_v, 16 part, 17 letter, 18 machine -/
def l0_law (B : Calls) : SMean := sApp 4 (eTup (aCons (eC (.str "loop")) (aCons (eVar 5) (aCons (eTup (aCons (eC (.str "say")) (aCons (eIx (eVar 2) (eBin opMul (eC (.int 2)) (eVar 5))) (aCons (eIx (eVar 2) (eBin opAdd (eBin opMul (eC (.int 2)) (eVar 5)) (eC (.int 1)))) (aCons (eU opTuple (eComp (sRg1 (eIx (eVar 3) (eVar 5))) (.n 17) [17] (eC (.bool true)) (eTup (aCons (eVar 17) (aCons (eTup (aCons (eC (.str "again")) (aCons (eVar 5) (aNil)))) (aNil)))))) (aNil)))))) (aNil)))))
def l1_law (B : Calls) : SMean := sIf (eNot (eCall B 0 (aCons (eCall B 43 (aCons (eIx (eVar 4) (eVar 5)) (aNil)) []) (aCons (eTup (aCons (eC (.str "say")) (aCons (eIx (eVar 2) (eBin opMul (eC (.int 2)) (eVar 5))) (aCons (eIx (eVar 2) (eBin opAdd (eBin opMul (eC (.int 2)) (eVar 5)) (eC (.int 1)))) (aCons (eU opTuple (eComp (sRg1 (eIx (eVar 3) (eVar 5))) (.n 17) [17] (eC (.bool true)) (eTup (aCons (eVar 17) (aCons (eIx (eVar 4) (eVar 5)) (aNil)))))) (aNil)))))) (aNil))) [])) (sRet (eC (.bool false))) (sSkip)
def l2_law (B : Calls) : SMean := sSet 8 (eBin opAdd (eVar 8) (eComp (sRg1 (eIx (eVar 3) (eVar 5))) (.n 17) [17] (eC (.bool true)) (eTup (aCons (eIx (eVar 2) (eBin opMul (eC (.int 2)) (eVar 5))) (aCons (eIx (eVar 2) (eBin opAdd (eBin opMul (eC (.int 2)) (eVar 5)) (eC (.int 1)))) (aCons (eVar 17) (aNil)))))))
def l3_law (B : Calls) : SMean := sPar [10, 11] (aCons (eBin opAdd (eTup (aCons (eIx (eVar 8) (eBin opMod (eU opInt (eVar 11)) (eU opSum (eVar 3)))) (aNil))) (eVar 10)) (aCons (eBin opFdiv (eVar 11) (eU opSum (eVar 3))) (aNil)))
def b_law (B : Calls) : SMean := sSeq (sSet 1 (eCall B 1 (aCons (eVar 0) (aNil)) [])) (sSeq (sUnp (.t [2, 3]) (eTup (aCons (eCall B 4 (aCons (eVar 1) (aCons (eLst (aCons (eC (.int 0)) (aCons (eC (.int 1)) (aCons (eC (.int 2)) (aCons (eC (.int 3)) (aNil)))))) (aNil))) []) (aCons (eComp (sRg1 (eC (.int 2))) (.n 5) [5] (eC (.bool true)) (eBin opAdd (eC (.int 1)) (eCall B 3 (aCons (eVar 1) (aCons (eC (.int 3)) (aNil))) []))) (aNil))))) (sSeq (sSet 4 (eLst (aNil))) (sSeq (sFor (sRg1 (eC (.int 2))) (.n 5) (l0_law B)) (sSeq (sSet 6 (eTup (aCons (eC (.str "beside")) (aCons (eIx (eVar 4) (eC (.int 0))) (aCons (eIx (eVar 4) (eC (.int 1))) (aNil)))))) (sSeq (sSet 7 (eCall B 3 (aCons (eVar 1) (aCons (eC (.int 7)) (aNil))) [])) (sSeq (sIf (eNot (eCall B 0 (aCons (eLst (aCons (eCall B 52 (aCons (eVar 6) (aCons (eVar 7) (aNil))) [.d (.bool false)]) (aCons (eCall B 52 (aCons (eVar 6) (aCons (eVar 7) (aCons (eC (.bool true)) (aNil)))) []) (aCons (eCall B 55 (aCons (eVar 6) (aNil)) []) (aCons (eCall B 5 (aCons (eVar 6) (aNil)) []) (aNil)))))) (aCons (eLst (aCons (eCall B 41 (aCons (eU opSum (eVar 3)) (aCons (eVar 7) (aNil))) []) (aCons (eC (.int 0)) (aCons (eC .none) (aCons (eBin opAdd (eC (.int 5)) (eU opSum (eVar 3))) (aNil)))))) (aNil))) [])) (sRet (eC (.bool false))) (sSkip)) (sSeq (sFor (sRg1 (eC (.int 2))) (.n 5) (l1_law B)) (sSeq (sSet 8 (eLst (aNil))) (sSeq (sFor (sRg1 (eC (.int 2))) (.n 5) (l2_law B)) (sSeq (sSet 8 (eU opSorted (eVar 8))) (sSeq (sSet 9 (eCall B 3 (aCons (eVar 1) (aCons (eCall B 41 (aCons (eU opSum (eVar 3)) (aCons (eVar 7) (aNil))) []) (aNil))) [])) (sSeq (sPar [10, 11] (aCons (eTup (aNil)) (aCons (eVar 9) (aNil)))) (sSeq (sFor (sRg1 (eVar 7)) (.n 5) (l3_law B)) (sSeq (sIf (eNot (eCall B 0 (aCons (eLst (aCons (eCall B 53 (aCons (eVar 6) (aCons (eVar 7) (aCons (eVar 9) (aNil)))) [.d (.bool false)]) (aCons (eCall B 54 (aCons (eVar 6) (aCons (eVar 10) (aNil))) [.d (.bool false)]) (aNil)))) (aCons (eLst (aCons (eVar 10) (aCons (eVar 9) (aNil)))) (aNil))) [])) (sRet (eC (.bool false))) (sSkip)) (sSeq (sSet 12 (eU opTuple (eComp (sSq (eCall B 12 (aCons (eVar 6) (aNil)) [])) (.n 16) [16] (eC (.bool true)) (eCall B 15 (aCons (eVar 16) (aNil)) [])))) (sSeq (sSet 13 (eBin opAdd (eC (.int 1)) (eCall B 3 (aCons (eVar 1) (aCons (eC (.int 2)) (aNil))) []))) (sSeq (sSet 14 (eComp (sSq (eVar 3)) (.n 15) [15] (eC (.bool true)) (eU opSum (eComp (sRg1 (eBin opAdd (eVar 13) (eC (.int 1)))) (.n 5) [5] (eC (.bool true)) (eCall B 41 (aCons (eVar 15) (aCons (eVar 5) (aNil))) []))))) (sSeq (sIf (eNot (eCall B 0 (aCons (eLst (aCons (eComp (sSq (eVar 12)) (.n 18) [18] (eC (.bool true)) (eIx (eVar 18) (eC (.int 0)))) (aCons (eU opLen (eCall B 38 (aCons (eVar 12) (aNil)) [])) (aCons (eU opLen (eCall B 34 (aCons (eVar 12) (aCons (eVar 13) (aNil))) [])) (aCons (eCall B 24 (aCons (eVar 12) (aCons (eVar 13) (aNil))) []) (aCons (eCall B 40 (aCons (eVar 12) (aNil)) []) (aNil))))))) (aCons (eLst (aCons (eLst (aCons (eC (.int 1)) (aCons (eC (.int 1)) (aCons (eC (.int 1)) (aCons (eC (.int 1)) (aNil)))))) (aCons (eC (.int 1)) (aCons (eBin opMul (eIx (eVar 14) (eC (.int 0))) (eIx (eVar 14) (eC (.int 1)))) (aCons (eC .none) (aCons (eC .none) (aNil))))))) (aNil))) [])) (sRet (eC (.bool false))) (sSkip)) (sRet (eAnd (eBin opEq (eCall B 32 (aCons (eVar 6) (aNil)) []) (eC (.int 1))) (eNot (eCall B 39 (aCons (eVar 12) (aCons (eIx (eCall B 38 (aCons (eVar 12) (aNil)) []) (eC (.int 0))) (aNil))) []))))))))))))))))))))))
/-- Parter.__init__: 0 self, 1 role -/
def b_Parter_init (B : Calls) : SMean := sSeq (sFldSet 0 0 (eVar 0) (eVar 1)) (sFldSet 0 1 (eVar 0) (eC .none))
/-- Parter.part: 0 self, 1 value, 2 number, 3 one, 4 two -/
def b_Parter_part (B : Calls) : SMean := sSeq (sIf (eBin opIn (eIx (eVar 1) (eC (.int 0))) (eTup (aCons (eC (.str "end")) (aCons (eC (.str "again")) (aNil))))) (sRet (eVar 1)) (sSkip)) (sSeq (sIf (eBin opEq (eIx (eVar 1) (eC (.int 0))) (eC (.str "loop"))) (sRet (eMeth B 0 29 (eVar 0) (aCons (eVar 1) (aCons (eVar 2) (aNil))))) (sSkip)) (sSeq (sIf (eBin opEq (eIx (eVar 1) (eC (.int 0))) (eC (.str "beside"))) (sSeq (sSet 3 (eMeth B 0 8 (eVar 0) (aCons (eIx (eVar 1) (eC (.int 1))) (aCons (eBin opAdd (eVar 2) (eC (.int 1))) (aNil))))) (sSeq (sSet 4 (eMeth B 0 8 (eVar 0) (aCons (eIx (eVar 1) (eC (.int 2))) (aCons (eBin opAdd (eBin opAdd (eVar 2) (eC (.int 1))) (eCall B 10 (aCons (eIx (eVar 1) (eC (.int 1))) (aNil)) [])) (aNil))))) (sRet (eIf (eBin opIn (eFld 0 0 (eVar 0)) (eCall B 26 (aCons (eIx (eVar 1) (eC (.int 2))) (aNil)) [])) (eVar 4) (eVar 3))))) (sSkip)) (sRet (eMeth B 0 9 (eVar 0) (aCons (eVar 1) (aCons (eVar 2) (aNil)))))))
/-- Parter.of_saying: 0 self, 1 value, 2 number, 3 here, 4 found, 5 letter, 6 after, 7 whole, 8 _, 9 part -/
def l0_Parter_of_saying (B : Calls) : SMean := sSeq (sApp 4 (eTup (aCons (eVar 5) (aCons (eMeth B 0 8 (eVar 0) (aCons (eVar 6) (aCons (eVar 2) (aNil)))) (aNil))))) (sAug (fun i j => i + j) 2 (eCall B 10 (aCons (eVar 6) (aNil)) []))
def l1_Parter_of_saying (B : Calls) : SMean := sSet 7 (eIf (eBin opIsNot (eVar 7) (eC .none)) (eNever) (eC .none))
def b_Parter_of_saying (B : Calls) : SMean := sSeq (sSet 3 (eVar 2)) (sSeq (sSet 4 (eLst (aNil))) (sSeq (sAug (fun i j => i + j) 2 (eC (.int 1))) (sSeq (sFor (sSq (eIx (eVar 1) (eC (.int 3)))) (.t [5, 6]) (l0_Parter_of_saying B)) (sSeq (sIf (eU opAny (eComp (sSq (eVar 4)) (.t [8, 9]) [8, 9] (eC (.bool true)) (eBin opIs (eVar 9) (eC .none)))) (sRet (eC .none)) (sSkip)) (sSeq (sIf (eBin opEq (eFld 0 0 (eVar 0)) (eIx (eVar 1) (eC (.int 1)))) (sRet (eTup (aCons (eC (.str "send")) (aCons (eIx (eVar 1) (eC (.int 2))) (aCons (eU opTuple (eVar 4)) (aNil)))))) (sSkip)) (sSeq (sIf (eBin opEq (eFld 0 0 (eVar 0)) (eIx (eVar 1) (eC (.int 2)))) (sRet (eTup (aCons (eC (.str "hear")) (aCons (eIx (eVar 1) (eC (.int 1))) (aCons (eU opTuple (eVar 4)) (aNil)))))) (sSkip)) (sSeq (sSet 7 (eIx (eIx (eVar 4) (eC (.int 0))) (eC (.int 1)))) (sSeq (sFor (sSq (eSl (eVar 4) (oSome (eC (.int 1))) (oNo))) (.t [8, 9]) (l1_Parter_of_saying B)) (sRet (eIf (eBin opIs (eVar 7) (eC .none)) (eMeth B 0 33 (eVar 0) (aCons (eVar 3) (aNil))) (eVar 7)))))))))))
/-- size_of: 0 talk, 1 _, 2 after -/
def b_size_of (B : Calls) : SMean := sSeq (sIf (eBin opEq (eIx (eVar 0) (eC (.int 0))) (eC (.str "say"))) (sRet (eBin opAdd (eC (.int 1)) (eU opSum (eComp (sSq (eIx (eVar 0) (eC (.int 3)))) (.t [1, 2]) [1, 2] (eC (.bool true)) (eCall B 10 (aCons (eVar 2) (aNil)) []))))) (sSkip)) (sSeq (sIf (eBin opEq (eIx (eVar 0) (eC (.int 0))) (eC (.str "beside"))) (sRet (eBin opAdd (eBin opAdd (eC (.int 1)) (eCall B 10 (aCons (eIx (eVar 0) (eC (.int 1))) (aNil)) [])) (eCall B 10 (aCons (eIx (eVar 0) (eC (.int 2))) (aNil)) []))) (sSkip)) (sRet (eIf (eBin opEq (eIx (eVar 0) (eC (.int 0))) (eC (.str "loop"))) (eBin opAdd (eC (.int 1)) (eCall B 10 (aCons (eIx (eVar 0) (eC (.int 2))) (aNil)) [])) (eC (.int 1)))))
/-- parted: 0 talk, 1 role, 2 parter, 3 found -/
def b_parted (B : Calls) : SMean := sSeq (sSet 2 (eMake B 0 7 (aCons (eVar 1) (aNil)))) (sSeq (sSet 3 (eMeth B 0 8 (eVar 2) (aCons (eVar 0) (aCons (eC (.int 0)) (aNil))))) (sRet (eIf (eBin opIs (eFld 0 1 (eVar 2)) (eC .none)) (eTup (aCons (eVar 3) (aCons (eC .none) (aNil)))) (eTup (aCons (eC .none) (aCons (eFld 0 1 (eVar 2)) (aNil)))))))
/-- parts: 0 talk, 1 found, 2 role, 3 part -/
def b_parts (B : Calls) : SMean := sSeq (sSet 1 (eComp (sRg1 (eC (.int 4))) (.n 2) [2] (eC (.bool true)) (eIx (eCall B 11 (aCons (eVar 0) (aCons (eVar 2) (aNil))) []) (eC (.int 0))))) (sRet (eIf (eU opAny (eComp (sSq (eVar 1)) (.n 3) [3] (eC (.bool true)) (eBin opIs (eVar 3) (eC .none)))) (eC .none) (eVar 1)))
/-- opened: 0 value -/
def l0_opened_2 (B : Calls) : SMean := sSet 0 (eCall B 31 (aCons (eIx (eVar 0) (eC (.int 2))) (aCons (eIx (eVar 0) (eC (.int 1))) (aCons (eVar 0) (aNil)))) [])
def b_opened_2 (B : Calls) : SMean := sSeq (sWhile 10 (eBin opEq (eIx (eVar 0) (eC (.int 0))) (eC (.str "loop"))) (l0_opened_2 B)) (sRet (eVar 0))
/-- steps_from: 0 machine, 1 state, 2 step -/
def b_steps_from (B : Calls) : SMean := sRet (eComp (sSq (eIx (eVar 0) (eC (.int 1)))) (.n 2) [2] (eBin opEq (eIx (eVar 2) (eC (.int 0))) (eVar 1)) (eVar 2))
/-- machine_of: 0 part, 1 found, 2 steps, 3 at, 4 here, 5 letter, 6 after -/
def l0_machine_of (B : Calls) : SMean := sSeq (sSet 6 (eCall B 13 (aCons (eVar 6) (aNil)) [])) (sSeq (sIf (eBin opNotIn (eVar 6) (eVar 1)) (sApp 1 (eVar 6)) (sSkip)) (sApp 2 (eTup (aCons (eVar 3) (aCons (eIx (eVar 4) (eC (.int 0))) (aCons (eIx (eVar 4) (eC (.int 1))) (aCons (eVar 5) (aCons (eIndex (eVar 1) (eVar 6)) (aNil)))))))))
def l1_machine_of (B : Calls) : SMean := sSeq (sSet 4 (eIx (eVar 1) (eVar 3))) (sSeq (sFor (sSq (eIf (eBin opNe (eIx (eVar 4) (eC (.int 0))) (eC (.str "end"))) (eIx (eVar 4) (eC (.int 2))) (eTup (aNil)))) (.t [5, 6]) (l0_machine_of B)) (sAug (fun i j => i + j) 3 (eC (.int 1))))
def b_machine_of (B : Calls) : SMean := sSeq (sSet 1 (eLst (aCons (eCall B 13 (aCons (eVar 0) (aNil)) []) (aNil)))) (sSeq (sSet 2 (eLst (aNil))) (sSeq (sSet 3 (eC (.int 0))) (sSeq (sWhile 1000 (eBin opLt (eVar 3) (eU opLen (eVar 1))) (l1_machine_of B)) (sRet (eTup (aCons (eU opLen (eVar 1)) (aCons (eU opTuple (eU opSorted (eVar 2))) (aNil))))))))
/-- begin: 0 machines, 1 _ -/
def b_begin_2 (B : Calls) : SMean := sRet (eTup (aCons (eU opTuple (eComp (sSq (eVar 0)) (.n 1) [1] (eC (.bool true)) (eC (.int 0)))) (aCons (eTup (aNil)) (aNil))))
/-- on_way: 0 queues, 1 speaker, 2 hearer, 3 found, 4 a, 5 b, 6 row -/
def b_on_way (B : Calls) : SMean := sSeq (sSet 3 (eComp (sSq (eVar 0)) (.t [4, 5, 6]) [4, 5, 6] (eBin opEq (eTup (aCons (eVar 4) (aCons (eVar 5) (aNil)))) (eTup (aCons (eVar 1) (aCons (eVar 2) (aNil))))) (eVar 6))) (sRet (eIf (eBin opGt (eU opLen (eVar 3)) (eC (.int 0))) (eIx (eVar 3) (eC (.int 0))) (eTup (aNil))))
/-- with_row: 0 queues, 1 speaker, 2 hearer, 3 row, 4 rest, 5 entry -/
def b_with_row (B : Calls) : SMean := sSeq (sSet 4 (eComp (sSq (eVar 0)) (.n 5) [5] (eBin opNe (eSl (eVar 5) (oNo) (oSome (eC (.int 2)))) (eTup (aCons (eVar 1) (aCons (eVar 2) (aNil))))) (eVar 5))) (sRet (eU opTuple (eU opSorted (eBin opAdd (eVar 4) (eIf (eBin opGt (eU opLen (eVar 3)) (eC (.int 0))) (eLst (aCons (eTup (aCons (eVar 1) (aCons (eVar 2) (aCons (eVar 3) (aNil))))) (aNil))) (eLst (aNil)))))))
/-- moved: 0 states, 1 role, 2 state -/
def b_moved (B : Calls) : SMean := sRet (eBin opAdd (eBin opAdd (eSl (eVar 0) (oNo) (oSome (eVar 1))) (eTup (aCons (eVar 2) (aNil)))) (eSl (eVar 0) (oSome (eBin opAdd (eVar 1) (eC (.int 1)))) (oNo)))
/-- deeds: 0 machines, 1 here, 2 room, 3 states, 4 queues, 5 found, 6 role, 7 _, 8 word, 9 other, 10 letter, 11 after, 12 row, 13 behind -/
def l0_deeds (B : Calls) : SMean := sSeq (sSet 12 (eIf (eBin opEq (eVar 8) (eC (.str "send"))) (eCall B 17 (aCons (eVar 4) (aCons (eVar 6) (aCons (eVar 9) (aNil)))) []) (eCall B 17 (aCons (eVar 4) (aCons (eVar 9) (aCons (eVar 6) (aNil)))) []))) (sSeq (sIf (eAnd (eBin opEq (eVar 8) (eC (.str "send"))) (eAnd (eBin opLt (eVar 9) (eU opLen (eVar 0))) (eAnd (eBin opNe (eVar 9) (eVar 6)) (eBin opLt (eU opLen (eVar 12)) (eVar 2))))) (sSeq (sSet 13 (eTup (aCons (eCall B 19 (aCons (eVar 3) (aCons (eVar 6) (aCons (eVar 11) (aNil)))) []) (aCons (eCall B 18 (aCons (eVar 4) (aCons (eVar 6) (aCons (eVar 9) (aCons (eBin opAdd (eVar 12) (eTup (aCons (eVar 10) (aNil)))) (aNil))))) []) (aNil))))) (sApp 5 (eTup (aCons (eVar 6) (aCons (eVar 8) (aCons (eVar 9) (aCons (eVar 10) (aCons (eVar 13) (aNil))))))))) (sSkip)) (sIf (eAnd (eBin opEq (eVar 8) (eC (.str "hear"))) (eBin opEq (eSl (eVar 12) (oNo) (oSome (eC (.int 1)))) (eTup (aCons (eVar 10) (aNil))))) (sSeq (sSet 13 (eTup (aCons (eCall B 19 (aCons (eVar 3) (aCons (eVar 6) (aCons (eVar 11) (aNil)))) []) (aCons (eCall B 18 (aCons (eVar 4) (aCons (eVar 9) (aCons (eVar 6) (aCons (eSl (eVar 12) (oSome (eC (.int 1))) (oNo)) (aNil))))) []) (aNil))))) (sApp 5 (eTup (aCons (eVar 6) (aCons (eVar 8) (aCons (eVar 9) (aCons (eVar 10) (aCons (eVar 13) (aNil))))))))) (sSkip)))
def l1_deeds (B : Calls) : SMean := sFor (sSq (eCall B 14 (aCons (eIx (eVar 0) (eVar 6)) (aCons (eIx (eVar 3) (eVar 6)) (aNil))) [])) (.t [7, 8, 9, 10, 11]) (l0_deeds B)
def b_deeds (B : Calls) : SMean := sSeq (sUnp (.t [3, 4]) (eVar 1)) (sSeq (sSet 5 (eLst (aNil))) (sSeq (sFor (sRg1 (eU opLen (eVar 0))) (.n 6) (l1_deeds B)) (sRet (eU opSorted (eVar 5)))))
/-- trouble_at: 0 machines, 1 here, 2 room, 3 states, 4 queues, 5 role, 6 steps, 7 over, 8 k, 9 step -/
def l0_trouble_at (B : Calls) : SMean := sSeq (sSet 6 (eCall B 14 (aCons (eIx (eVar 0) (eVar 5)) (aCons (eIx (eVar 3) (eVar 5)) (aNil))) [])) (sIf (eAnd (eBin opGt (eU opLen (eVar 6)) (eC (.int 0))) (eU opAll (eComp (sSq (eVar 6)) (.n 9) [9] (eC (.bool true)) (eBin opEq (eIx (eVar 9) (eC (.int 1))) (eC (.str "hear")))))) (sIf (eCall B 22 (aCons (eVar 6) (aCons (eVar 4) (aCons (eVar 5) (aNil)))) []) (sRet (eC (.str "unheard"))) (sSkip)) (sSkip))
def b_trouble_at (B : Calls) : SMean := sSeq (sUnp (.t [3, 4]) (eVar 1)) (sSeq (sFor (sRg1 (eU opLen (eVar 0))) (.n 5) (l0_trouble_at B)) (sSeq (sIf (eBin opGt (eU opLen (eCall B 20 (aCons (eVar 0) (aCons (eVar 1) (aCons (eVar 2) (aNil)))) [])) (eC (.int 0))) (sRet (eC .none)) (sSkip)) (sSeq (sSet 7 (eU opAll (eComp (sRg1 (eU opLen (eVar 0))) (.n 8) [8] (eC (.bool true)) (eBin opEq (eU opLen (eCall B 14 (aCons (eIx (eVar 0) (eVar 8)) (aCons (eIx (eVar 3) (eVar 8)) (aNil))) [])) (eC (.int 0)))))) (sSeq (sIf (eVar 7) (sRet (eIf (eBin opGt (eU opLen (eVar 4)) (eC (.int 0))) (eC (.str "left")) (eC .none))) (sSkip)) (sRet (eC (.str "stuck")))))))
/-- is_unheard: 0 steps, 1 queues, 2 role, 3 other, 4 row, 5 step -/
def l0_is_unheard (B : Calls) : SMean := sSeq (sSet 4 (eCall B 17 (aCons (eVar 1) (aCons (eVar 3) (aCons (eVar 2) (aNil)))) [])) (sIf (eAnd (eBin opGt (eU opLen (eVar 4)) (eC (.int 0))) (eBin opNotIn (eIx (eVar 4) (eC (.int 0))) (eComp (sSq (eVar 0)) (.n 5) [5] (eBin opEq (eIx (eVar 5) (eC (.int 2))) (eVar 3)) (eIx (eVar 5) (eC (.int 3)))))) (sRet (eC (.bool true))) (sSkip))
def b_is_unheard (B : Calls) : SMean := sSeq (sFor (sSq (eSortSet (eComp (sSq (eVar 0)) (.n 5) [5] (eC (.bool true)) (eIx (eVar 5) (eC (.int 2)))))) (.n 3) (l0_is_unheard B)) (sRet (eC (.bool false)))
/-- search: 0 machines, 1 room, 2 found, 3 ways, 4 at, 5 word, 6 role, 7 deed, 8 other, 9 letter, 10 after -/
def l0_search (B : Calls) : SMean := sIf (eAnd (eBin opNotIn (eVar 10) (eVar 2)) (eBin opLt (eU opLen (eVar 2)) (eC (.int 3000)))) (sSeq (sApp 2 (eVar 10)) (sApp 3 (eBin opAdd (eIx (eVar 3) (eVar 4)) (eTup (aCons (eTup (aCons (eVar 6) (aCons (eVar 7) (aCons (eVar 8) (aCons (eVar 9) (aNil)))))) (aNil)))))) (sSkip)
def l1_search (B : Calls) : SMean := sSeq (sSet 5 (eCall B 21 (aCons (eVar 0) (aCons (eIx (eVar 2) (eVar 4)) (aCons (eVar 1) (aNil)))) [])) (sSeq (sIf (eBin opIsNot (eVar 5) (eC .none)) (sRet (eTup (aCons (eTup (aCons (eVar 5) (aCons (eIx (eVar 3) (eVar 4)) (aNil)))) (aCons (eVar 2) (aNil))))) (sSkip)) (sSeq (sFor (sSq (eCall B 20 (aCons (eVar 0) (aCons (eIx (eVar 2) (eVar 4)) (aCons (eVar 1) (aNil)))) [])) (.t [6, 7, 8, 9, 10]) (l0_search B)) (sAug (fun i j => i + j) 4 (eC (.int 1)))))
def b_search (B : Calls) : SMean := sSeq (sSet 2 (eLst (aCons (eCall B 16 (aCons (eVar 0) (aNil)) []) (aNil)))) (sSeq (sSet 3 (eLst (aCons (eTup (aNil)) (aNil)))) (sSeq (sSet 4 (eC (.int 0))) (sSeq (sWhile 4000 (eBin opLt (eVar 4) (eU opLen (eVar 2))) (l1_search B)) (sRet (eTup (aCons (eC .none) (aCons (eVar 2) (aNil))))))))
/-- trouble: 0 machines, 1 room -/
def b_trouble (B : Calls) : SMean := sRet (eIx (eCall B 23 (aCons (eVar 0) (aCons (eVar 1) (aNil))) []) (eC (.int 0)))
/-- inner: 0 value, 1 _, 2 after -/
def b_inner (B : Calls) : SMean := sSeq (sIf (eBin opEq (eIx (eVar 0) (eC (.int 0))) (eC (.str "say"))) (sRet (eComp (sSq (eIx (eVar 0) (eC (.int 3)))) (.t [1, 2]) [1, 2] (eC (.bool true)) (eVar 2))) (sSkip)) (sSeq (sIf (eBin opEq (eIx (eVar 0) (eC (.int 0))) (eC (.str "beside"))) (sRet (eLst (aCons (eIx (eVar 0) (eC (.int 1))) (aCons (eIx (eVar 0) (eC (.int 2))) (aNil))))) (sSkip)) (sRet (eIf (eBin opEq (eIx (eVar 0) (eC (.int 0))) (eC (.str "loop"))) (eLst (aCons (eIx (eVar 0) (eC (.int 2))) (aNil))) (eLst (aNil)))))
/-- roles_in: 0 value, 1 found, 2 part -/
def l0_roles_in (B : Calls) : SMean := sExt 1 (eCall B 26 (aCons (eVar 2) (aNil)) [])
def b_roles_in (B : Calls) : SMean := sSeq (sSet 1 (eIf (eBin opEq (eIx (eVar 0) (eC (.int 0))) (eC (.str "say"))) (eLst (aCons (eIx (eVar 0) (eC (.int 1))) (aCons (eIx (eVar 0) (eC (.int 2))) (aNil)))) (eLst (aNil)))) (sSeq (sFor (sSq (eCall B 25 (aCons (eVar 0) (aNil)) [])) (.n 2) (l0_roles_in B)) (sRet (eSortSet (eVar 1))))
/-- inner: 0 value, 1 _, 2 after -/
def b_inner_2 (B : Calls) : SMean := sSeq (sIf (eBin opIn (eIx (eVar 0) (eC (.int 0))) (eTup (aCons (eC (.str "send")) (aCons (eC (.str "hear")) (aNil))))) (sRet (eComp (sSq (eIx (eVar 0) (eC (.int 2)))) (.t [1, 2]) [1, 2] (eC (.bool true)) (eVar 2))) (sSkip)) (sRet (eIf (eBin opEq (eIx (eVar 0) (eC (.int 0))) (eC (.str "loop"))) (eLst (aCons (eIx (eVar 0) (eC (.int 2))) (aNil))) (eLst (aNil))))
/-- goes_again: 0 value, 1 name, 2 part -/
def b_goes_again (B : Calls) : SMean := sSeq (sIf (eBin opEq (eIx (eVar 0) (eC (.int 0))) (eC (.str "again"))) (sRet (eBin opEq (eIx (eVar 0) (eC (.int 1))) (eVar 1))) (sSkip)) (sSeq (sIf (eAnd (eBin opEq (eIx (eVar 0) (eC (.int 0))) (eC (.str "loop"))) (eBin opEq (eIx (eVar 0) (eC (.int 1))) (eVar 1))) (sRet (eC (.bool false))) (sSkip)) (sRet (eU opAny (eComp (sSq (eCall B 27 (aCons (eVar 0) (aNil)) [])) (.n 2) [2] (eC (.bool true)) (eCall B 28 (aCons (eVar 2) (aCons (eVar 1) (aNil))) [])))))
/-- Parter.of_loop: 0 self, 1 value, 2 number, 3 body, 4 ways, 5 out, 6 name -/
def b_Parter_of_loop (B : Calls) : SMean := sSeq (sIf (eBin opIn (eFld 0 0 (eVar 0)) (eCall B 26 (aCons (eVar 1) (aNil)) [])) (sSeq (sSet 3 (eMeth B 0 8 (eVar 0) (aCons (eIx (eVar 1) (eC (.int 2))) (aCons (eBin opAdd (eVar 2) (eC (.int 1))) (aNil))))) (sRet (eIf (eAnd (eBin opIsNot (eVar 3) (eC .none)) (eCall B 28 (aCons (eVar 3) (aCons (eIx (eVar 1) (eC (.int 1))) (aNil))) [])) (eTup (aCons (eC (.str "loop")) (aCons (eIx (eVar 1) (eC (.int 1))) (aCons (eVar 3) (aNil))))) (eVar 3)))) (sSkip)) (sSeq (sSet 4 (eCall B 30 (aCons (eIx (eVar 1) (eC (.int 2))) (aNil)) [])) (sSeq (sSet 5 (eComp (sSq (eVar 4)) (.n 6) [6] (eBin opNotIn (eVar 6) (eTup (aCons (eNeg (eC (.int 1))) (aCons (eIx (eVar 1) (eC (.int 1))) (aNil))))) (eVar 6))) (sSeq (sIf (eBin opEq (eU opLen (eVar 5)) (eC (.int 0))) (sRet (eTup (aCons (eC (.str "end")) (aNil)))) (sSkip)) (sRet (eIf (eBin opEq (eVar 4) (eSl (eVar 5) (oNo) (oSome (eC (.int 1))))) (eTup (aCons (eC (.str "again")) (aCons (eIx (eVar 5) (eC (.int 0))) (aNil)))) (eMeth B 0 33 (eVar 0) (aCons (eVar 2) (aNil))))))))
/-- ways_out: 0 talk, 1 name, 2 _, 3 after -/
def b_ways_out (B : Calls) : SMean := sSeq (sIf (eBin opEq (eIx (eVar 0) (eC (.int 0))) (eC (.str "again"))) (sRet (eLst (aCons (eIx (eVar 0) (eC (.int 1))) (aNil)))) (sSkip)) (sSeq (sIf (eBin opEq (eIx (eVar 0) (eC (.int 0))) (eC (.str "loop"))) (sRet (eComp (sSq (eCall B 30 (aCons (eIx (eVar 0) (eC (.int 2))) (aNil)) [])) (.n 1) [1] (eBin opNe (eVar 1) (eIx (eVar 0) (eC (.int 1)))) (eVar 1))) (sSkip)) (sSeq (sIf (eBin opEq (eIx (eVar 0) (eC (.int 0))) (eC (.str "say"))) (sRet (eSortSet (eComp2 (sSq (eIx (eVar 0) (eC (.int 3)))) (.t [2, 3]) [2, 3, 1] (eC (.bool true)) (sSq (eCall B 30 (aCons (eVar 3) (aNil)) [])) (.n 1) [1] (eC (.bool true)) (eVar 1)))) (sSkip)) (sRet (eLst (aCons (eNeg (eC (.int 1))) (aNil))))))
/-- put_for: 0 value, 1 name, 2 other, 3 letter, 4 after -/
def b_put_for_2 (B : Calls) : SMean := sSeq (sIf (eBin opEq (eIx (eVar 0) (eC (.int 0))) (eC (.str "again"))) (sRet (eIf (eBin opEq (eIx (eVar 0) (eC (.int 1))) (eVar 1)) (eVar 2) (eVar 0))) (sSkip)) (sSeq (sIf (eBin opEq (eIx (eVar 0) (eC (.int 0))) (eC (.str "loop"))) (sRet (eIf (eBin opEq (eIx (eVar 0) (eC (.int 1))) (eVar 1)) (eVar 0) (eTup (aCons (eC (.str "loop")) (aCons (eIx (eVar 0) (eC (.int 1))) (aCons (eCall B 31 (aCons (eIx (eVar 0) (eC (.int 2))) (aCons (eVar 1) (aCons (eVar 2) (aNil)))) []) (aNil))))))) (sSkip)) (sSeq (sIf (eBin opEq (eIx (eVar 0) (eC (.int 0))) (eC (.str "end"))) (sRet (eVar 0)) (sSkip)) (sRet (eBin opAdd (eSl (eVar 0) (oNo) (oSome (eC (.int 2)))) (eTup (aCons (eU opTuple (eComp (sSq (eIx (eVar 0) (eC (.int 2)))) (.t [3, 4]) [3, 4] (eC (.bool true)) (eTup (aCons (eVar 3) (aCons (eCall B 31 (aCons (eVar 4) (aCons (eVar 1) (aCons (eVar 2) (aNil)))) []) (aNil)))))) (aNil)))))))
/-- states_in: 0 talk, 1 found, 2 at, 3 _, 4 after -/
def l0_states_in (B : Calls) : SMean := sIf (eBin opNotIn (eVar 4) (eVar 1)) (sApp 1 (eVar 4)) (sSkip)
def l1_states_in (B : Calls) : SMean := sSeq (sFor (sSq (eCall B 49 (aCons (eIx (eVar 1) (eVar 2)) (aNil)) [])) (.t [3, 4]) (l0_states_in B)) (sAug (fun i j => i + j) 2 (eC (.int 1)))
def b_states_in (B : Calls) : SMean := sSeq (sSet 1 (eLst (aCons (eVar 0) (aNil)))) (sSeq (sSet 2 (eC (.int 0))) (sSeq (sWhile 1000 (eBin opLt (eVar 2) (eU opLen (eVar 1))) (l1_states_in B)) (sRet (eU opLen (eVar 1)))))
/-- Parter.none_at: 0 self, 1 number -/
def b_Parter_none_at (B : Calls) : SMean := sSeq (sIf (eOr (eBin opIs (eFld 0 1 (eVar 0)) (eC .none)) (eBin opLt (eVar 1) (eFld 0 1 (eVar 0)))) (sFldSet 0 1 (eVar 0) (eVar 1)) (sSkip)) (sRet (eC .none))
/-- reached: 0 machines, 1 room -/
def b_reached_2 (B : Calls) : SMean := sRet (eIx (eCall B 23 (aCons (eVar 0) (aCons (eVar 1) (aNil))) []) (eC (.int 1)))
/-- begin: 0 machines, 1 _ -/
def b_begin (B : Calls) : SMean := sRet (eU opTuple (eComp (sSq (eVar 0)) (.n 1) [1] (eC (.bool true)) (eC (.int 0))))
/-- meets: 0 machines, 1 states, 2 found, 3 speaker, 4 step, 5 hearer, 6 other, 7 after -/
def l0_meets (B : Calls) : SMean := sIf (eBin opEq (eSl (eVar 6) (oSome (eC (.int 1))) (oSome (eC (.int 4)))) (eTup (aCons (eC (.str "hear")) (aCons (eVar 3) (aCons (eIx (eVar 4) (eC (.int 3))) (aNil)))))) (sSeq (sSet 7 (eCall B 37 (aCons (eVar 1) (aCons (eVar 3) (aCons (eIx (eVar 4) (eC (.int 4))) (aCons (eVar 5) (aCons (eIx (eVar 6) (eC (.int 4))) (aNil)))))) [])) (sApp 2 (eTup (aCons (eVar 3) (aCons (eVar 5) (aCons (eIx (eVar 4) (eC (.int 3))) (aCons (eVar 7) (aNil)))))))) (sSkip)
def l1_meets (B : Calls) : SMean := sSeq (sSet 5 (eIx (eVar 4) (eC (.int 2)))) (sIf (eAnd (eBin opEq (eIx (eVar 4) (eC (.int 1))) (eC (.str "send"))) (eAnd (eBin opLt (eVar 5) (eU opLen (eVar 0))) (eBin opNe (eVar 5) (eVar 3)))) (sFor (sSq (eCall B 14 (aCons (eIx (eVar 0) (eVar 5)) (aCons (eIx (eVar 1) (eVar 5)) (aNil))) [])) (.n 6) (l0_meets B)) (sSkip))
def l2_meets (B : Calls) : SMean := sFor (sSq (eCall B 14 (aCons (eIx (eVar 0) (eVar 3)) (aCons (eIx (eVar 1) (eVar 3)) (aNil))) [])) (.n 4) (l1_meets B)
def b_meets (B : Calls) : SMean := sSeq (sSet 2 (eLst (aNil))) (sSeq (sFor (sRg1 (eU opLen (eVar 0))) (.n 3) (l2_meets B)) (sRet (eU opSorted (eVar 2))))
/-- with_states: 0 states, 1 one, 2 first, 3 two, 4 second, 5 found -/
def b_with_states (B : Calls) : SMean := sSeq (sSet 5 (eList (eVar 0))) (sSeq (sOwnSet 5 (eVar 1) (eVar 2)) (sSeq (sOwnSet 5 (eVar 3) (eVar 4)) (sRet (eU opTuple (eVar 5)))))
/-- reached: 0 machines, 1 found, 2 at, 3 _, 4 after -/
def l0_reached (B : Calls) : SMean := sIf (eBin opNotIn (eVar 4) (eVar 1)) (sApp 1 (eVar 4)) (sSkip)
def l1_reached (B : Calls) : SMean := sSeq (sFor (sSq (eCall B 36 (aCons (eVar 0) (aCons (eIx (eVar 1) (eVar 2)) (aNil))) [])) (.t [3, 3, 3, 4]) (l0_reached B)) (sAug (fun i j => i + j) 2 (eC (.int 1)))
def b_reached (B : Calls) : SMean := sSeq (sSet 1 (eLst (aCons (eCall B 35 (aCons (eVar 0) (aNil)) []) (aNil)))) (sSeq (sSet 2 (eC (.int 0))) (sSeq (sWhile 4000 (eAnd (eBin opLt (eVar 2) (eU opLen (eVar 1))) (eBin opLt (eU opLen (eVar 1)) (eC (.int 3000)))) (l1_reached B)) (sRet (eVar 1))))
/-- is_over: 0 machines, 1 states, 2 k -/
def b_is_over_2 (B : Calls) : SMean := sRet (eU opAll (eComp (sRg1 (eU opLen (eVar 0))) (.n 2) [2] (eC (.bool true)) (eBin opEq (eU opLen (eCall B 14 (aCons (eIx (eVar 0) (eVar 2)) (aCons (eIx (eVar 1) (eVar 2)) (aNil))) [])) (eC (.int 0)))))
/-- dead_end: 0 machines, 1 states -/
def l0_dead_end (B : Calls) : SMean := sIf (eAnd (eBin opEq (eU opLen (eCall B 36 (aCons (eVar 0) (aCons (eVar 1) (aNil))) [])) (eC (.int 0))) (eNot (eCall B 39 (aCons (eVar 0) (aCons (eVar 1) (aNil))) []))) (sRet (eVar 1)) (sSkip)
def b_dead_end (B : Calls) : SMean := sSeq (sFor (sSq (eCall B 38 (aCons (eVar 0) (aNil)) [])) (.n 1) (l0_dead_end B)) (sRet (eC .none))
/-- _law_power: 0 base, 1 times, 2 found, 3 k -/
def l0__law_power (B : Calls) : SMean := sSet 2 (eBin opMul (eVar 2) (eVar 0))
def b__law_power (B : Calls) : SMean := sSeq (sSet 2 (eC (.int 1))) (sSeq (sFor (sRg1 (eVar 1)) (.n 3) (l0__law_power B)) (sRet (eVar 2)))
/-- put_for: 0 value, 1 name, 2 other, 3 letter, 4 after -/
def b_put_for (B : Calls) : SMean := sSeq (sIf (eBin opEq (eIx (eVar 0) (eC (.int 0))) (eC (.str "again"))) (sRet (eIf (eBin opEq (eIx (eVar 0) (eC (.int 1))) (eVar 1)) (eVar 2) (eVar 0))) (sSkip)) (sSeq (sIf (eBin opEq (eIx (eVar 0) (eC (.int 0))) (eC (.str "loop"))) (sRet (eIf (eBin opEq (eIx (eVar 0) (eC (.int 1))) (eVar 1)) (eVar 0) (eTup (aCons (eC (.str "loop")) (aCons (eIx (eVar 0) (eC (.int 1))) (aCons (eCall B 42 (aCons (eIx (eVar 0) (eC (.int 2))) (aCons (eVar 1) (aCons (eVar 2) (aNil)))) []) (aNil))))))) (sSkip)) (sSeq (sIf (eBin opEq (eIx (eVar 0) (eC (.int 0))) (eC (.str "say"))) (sRet (eBin opAdd (eSl (eVar 0) (oNo) (oSome (eC (.int 3)))) (eTup (aCons (eU opTuple (eComp (sSq (eIx (eVar 0) (eC (.int 3)))) (.t [3, 4]) [3, 4] (eC (.bool true)) (eTup (aCons (eVar 3) (aCons (eCall B 42 (aCons (eVar 4) (aCons (eVar 1) (aCons (eVar 2) (aNil)))) []) (aNil)))))) (aNil))))) (sSkip)) (sRet (eVar 0))))
/-- opened: 0 value -/
def l0_opened (B : Calls) : SMean := sSet 0 (eCall B 42 (aCons (eIx (eVar 0) (eC (.int 2))) (aCons (eIx (eVar 0) (eC (.int 1))) (aCons (eVar 0) (aNil)))) [])
def b_opened (B : Calls) : SMean := sSeq (sWhile 10 (eBin opEq (eIx (eVar 0) (eC (.int 0))) (eC (.str "loop"))) (l0_opened B)) (sRet (eVar 0))
/-- next_said: 0 talk -/
def b_next_said (B : Calls) : SMean := sRet (eSortSetT (eCall B 45 (aCons (eVar 0) (aCons (eLst (aNil)) (aCons (eLst (aNil)) (aNil)))) []))
/-- said_without: 0 talk, 1 busy, 2 seen, 3 _, 4 speaker, 5 hearer, 6 branches, 7 found, 8 more, 9 ahead, 10 after, 11 saying, 12 letter, 13 row -/
def b_said_without (B : Calls) : SMean := sSeq (sSet 0 (eCall B 43 (aCons (eVar 0) (aNil)) [])) (sSeq (sIf (eOr (eBin opEq (eIx (eVar 0) (eC (.int 0))) (eC (.str "end"))) (eBin opIn (eVar 0) (eVar 2))) (sRet (eLst (aNil))) (sSkip)) (sSeq (sIf (eBin opEq (eIx (eVar 0) (eC (.int 0))) (eC (.str "beside"))) (sRet (eBin opAdd (eCall B 45 (aCons (eIx (eVar 0) (eC (.int 1))) (aCons (eVar 1) (aCons (eVar 2) (aNil)))) []) (eCall B 45 (aCons (eIx (eVar 0) (eC (.int 2))) (aCons (eVar 1) (aCons (eVar 2) (aNil)))) []))) (sSkip)) (sSeq (sUnp (.t [3, 4, 5, 6]) (eVar 0)) (sSeq (sSet 7 (eLst (aNil))) (sSeq (sIf (eAnd (eBin opNotIn (eVar 4) (eVar 1)) (eBin opNotIn (eVar 5) (eVar 1))) (sSet 7 (eComp (sSq (eVar 6)) (.t [12, 3]) [12, 3] (eC (.bool true)) (eTup (aCons (eVar 4) (aCons (eVar 5) (aCons (eVar 12) (aNil))))))) (sSkip)) (sSeq (sSet 8 (eComp (sSq (eVar 6)) (.t [3, 10]) [3, 10] (eC (.bool true)) (eCall B 45 (aCons (eVar 10) (aCons (eBin opAdd (eVar 1) (eLst (aCons (eVar 4) (aCons (eVar 5) (aNil))))) (aCons (eBin opAdd (eVar 2) (eLst (aCons (eVar 0) (aNil)))) (aNil)))) []))) (sSeq (sSet 9 (eComp (sSq (eIx (eVar 8) (eC (.int 0)))) (.n 11) [11] (eU opAll (eComp (sSq (eVar 8)) (.n 13) [13] (eC (.bool true)) (eBin opIn (eVar 11) (eVar 13)))) (eVar 11))) (sRet (eBin opAdd (eVar 7) (eVar 9))))))))))
/-- after_said: 0 talk, 1 saying, 2 _, 3 speaker, 4 hearer, 5 branches, 6 letter, 7 after -/
def b_after_said (B : Calls) : SMean := sSeq (sSet 0 (eCall B 43 (aCons (eVar 0) (aNil)) [])) (sSeq (sIf (eBin opEq (eIx (eVar 0) (eC (.int 0))) (eC (.str "beside"))) (sSeq (sIf (eBin opIn (eVar 1) (eCall B 44 (aCons (eIx (eVar 0) (eC (.int 1))) (aNil)) [])) (sRet (eCall B 47 (aCons (eCall B 46 (aCons (eIx (eVar 0) (eC (.int 1))) (aCons (eVar 1) (aNil))) []) (aCons (eIx (eVar 0) (eC (.int 2))) (aNil))) [])) (sSkip)) (sRet (eCall B 47 (aCons (eIx (eVar 0) (eC (.int 1))) (aCons (eCall B 46 (aCons (eIx (eVar 0) (eC (.int 2))) (aCons (eVar 1) (aNil))) []) (aNil))) []))) (sSkip)) (sSeq (sUnp (.t [2, 3, 4, 5]) (eVar 0)) (sSeq (sIf (eBin opEq (eSl (eVar 1) (oNo) (oSome (eC (.int 2)))) (eTup (aCons (eVar 3) (aCons (eVar 4) (aNil))))) (sRet (eDictIx (eVar 5) (eIx (eVar 1) (eC (.int 2))))) (sSkip)) (sRet (eBin opAdd (eSl (eVar 0) (oNo) (oSome (eC (.int 3)))) (eTup (aCons (eU opTuple (eComp (sSq (eVar 5)) (.t [6, 7]) [6, 7] (eC (.bool true)) (eTup (aCons (eVar 6) (aCons (eCall B 46 (aCons (eVar 7) (aCons (eVar 1) (aNil))) []) (aNil)))))) (aNil))))))))
/-- beside: 0 one, 1 two -/
def b_beside (B : Calls) : SMean := sSeq (sIf (eBin opEq (eCall B 43 (aCons (eVar 0) (aNil)) []) (eC (.tuple [.str "end"]))) (sRet (eVar 1)) (sSkip)) (sRet (eIf (eBin opEq (eCall B 43 (aCons (eVar 1) (aNil)) []) (eC (.tuple [.str "end"]))) (eVar 0) (eTup (aCons (eC (.str "beside")) (aCons (eVar 0) (aCons (eVar 1) (aNil)))))))
/-- is_over: 0 talk -/
def b_is_over (B : Calls) : SMean := sSeq (sSet 0 (eCall B 43 (aCons (eVar 0) (aNil)) [])) (sSeq (sIf (eBin opEq (eIx (eVar 0) (eC (.int 0))) (eC (.str "beside"))) (sRet (eAnd (eCall B 48 (aCons (eIx (eVar 0) (eC (.int 1))) (aNil)) []) (eCall B 48 (aCons (eIx (eVar 0) (eC (.int 2))) (aNil)) []))) (sSkip)) (sRet (eBin opEq (eVar 0) (eC (.tuple [.str "end"])))))
/-- written: 0 talk, 1 first, 2 letter, 3 after, 4 saying -/
def b_written (B : Calls) : SMean := sSeq (sSet 0 (eCall B 43 (aCons (eVar 0) (aNil)) [])) (sSeq (sIf (eBin opEq (eIx (eVar 0) (eC (.int 0))) (eC (.str "end"))) (sRet (eLst (aNil))) (sSkip)) (sSeq (sIf (eBin opEq (eIx (eVar 0) (eC (.int 0))) (eC (.str "beside"))) (sSeq (sSet 1 (eComp (sSq (eCall B 49 (aCons (eIx (eVar 0) (eC (.int 1))) (aNil)) [])) (.t [4, 3]) [4, 3] (eC (.bool true)) (eTup (aCons (eVar 4) (aCons (eCall B 47 (aCons (eVar 3) (aCons (eIx (eVar 0) (eC (.int 2))) (aNil))) []) (aNil)))))) (sRet (eBin opAdd (eVar 1) (eComp (sSq (eCall B 49 (aCons (eIx (eVar 0) (eC (.int 2))) (aNil)) [])) (.t [4, 3]) [4, 3] (eC (.bool true)) (eTup (aCons (eVar 4) (aCons (eCall B 47 (aCons (eIx (eVar 0) (eC (.int 1))) (aCons (eVar 3) (aNil))) []) (aNil)))))))) (sSkip)) (sRet (eComp (sSq (eIx (eVar 0) (eC (.int 3)))) (.t [2, 3]) [2, 3] (eC (.bool true)) (eTup (aCons (eTup (aCons (eIx (eVar 0) (eC (.int 1))) (aCons (eIx (eVar 0) (eC (.int 2))) (aCons (eVar 2) (aNil))))) (aCons (eVar 3) (aNil))))))))
/-- Counter.__init__: 0 self -/
def b_Counter_init (B : Calls) : SMean := sFldSet 1 0 (eVar 0) (eKeptNew)
/-- Counter.rows: 0 self, 1 talk, 2 many, 3 ended, 4 found, 5 saying -/
def b_Counter_rows (B : Calls) : SMean := sSeq (sIf (eNotInK (eTup (aCons (eVar 1) (aCons (eVar 2) (aCons (eVar 3) (aNil))))) (eFld 1 0 (eVar 0))) (sSeq (sIf (eBin opEq (eVar 2) (eC (.int 0))) (sSet 4 (eU opInt (eOr (eCall B 48 (aCons (eVar 1) (aNil)) []) (eNot (eVar 3))))) (sSet 4 (eU opSum (eComp (sSq (eCall B 44 (aCons (eVar 1) (aNil)) [])) (.n 5) [5] (eC (.bool true)) (eMeth B 1 51 (eVar 0) (aCons (eCall B 46 (aCons (eVar 1) (aCons (eVar 5) (aNil))) []) (aCons (eBin opSub (eVar 2) (eC (.int 1))) (aCons (eVar 3) (aNil))))))))) (sSetK (eFld 1 0 (eVar 0)) (eTup (aCons (eVar 1) (aCons (eVar 2) (aCons (eVar 3) (aNil))))) (eVar 4))) (sSkip)) (sRet (eGetK (eFld 1 0 (eVar 0)) (eTup (aCons (eVar 1) (aCons (eVar 2) (aCons (eVar 3) (aNil)))))))
/-- count: 0 talk, 1 many, 2 ended -/
def b_count (B : Calls) : SMean := sRet (eMeth B 1 51 (eMake B 1 50 (aNil)) (aCons (eVar 0) (aCons (eVar 1) (aCons (eVar 2) (aNil)))))
/-- nth: 0 talk, 1 many, 2 number, 3 ended, 4 counter, 5 row, 6 saying, 7 after, 8 here -/
def l0_nth (B : Calls) : SMean := sSeq (sSet 7 (eCall B 46 (aCons (eVar 0) (aCons (eVar 6) (aNil))) [])) (sSeq (sSet 8 (eMeth B 1 51 (eVar 4) (aCons (eVar 7) (aCons (eBin opSub (eBin opSub (eVar 1) (eU opLen (eVar 5))) (eC (.int 1))) (aCons (eVar 3) (aNil)))))) (sSeq (sIf (eBin opLt (eVar 2) (eVar 8)) (sBrk) (sSkip)) (sAug (fun i j => i - j) 2 (eVar 8))))
def l1_nth (B : Calls) : SMean := sSeq (sFor (sSq (eCall B 44 (aCons (eVar 0) (aNil)) [])) (.n 6) (l0_nth B)) (sSeq (sAugT 5 (eTup (aCons (eVar 6) (aNil)))) (sSet 0 (eVar 7)))
def b_nth (B : Calls) : SMean := sSeq (sSet 4 (eMake B 1 50 (aNil))) (sSeq (sIf (eNot (eChain opLe opLt (eC (.int 0)) (eVar 2) (eMeth B 1 51 (eVar 4) (aCons (eVar 0) (aCons (eVar 1) (aCons (eVar 3) (aNil))))))) (sNever) (sSkip)) (sSeq (sSet 5 (eTup (aNil))) (sSeq (sWhile 1000 (eBin opLt (eU opLen (eVar 5)) (eVar 1)) (l1_nth B)) (sRet (eVar 5)))))
/-- number_of: 0 talk, 1 row, 2 ended, 3 counter, 4 found, 5 k, 6 said, 7 saying -/
def l0_number_of (B : Calls) : SMean := sIf (eBin opLt (eVar 7) (eIx (eVar 1) (eVar 5))) (sAug (fun i j => i + j) 4 (eMeth B 1 51 (eVar 3) (aCons (eCall B 46 (aCons (eVar 0) (aCons (eVar 7) (aNil))) []) (aCons (eBin opSub (eBin opSub (eU opLen (eVar 1)) (eVar 5)) (eC (.int 1))) (aCons (eVar 2) (aNil)))))) (sSkip)
def l1_number_of (B : Calls) : SMean := sSeq (sSet 6 (eCall B 44 (aCons (eVar 0) (aNil)) [])) (sSeq (sIf (eBin opNotIn (eIx (eVar 1) (eVar 5)) (eVar 6)) (sRet (eC .none)) (sSkip)) (sSeq (sFor (sSq (eVar 6)) (.n 7) (l0_number_of B)) (sSet 0 (eCall B 46 (aCons (eVar 0) (aCons (eIx (eVar 1) (eVar 5)) (aNil))) []))))
def b_number_of (B : Calls) : SMean := sSeq (sSet 3 (eMake B 1 50 (aNil))) (sSeq (sSet 4 (eC (.int 0))) (sSeq (sFor (sRg1 (eU opLen (eVar 1))) (.n 5) (l1_number_of B)) (sRet (eIf (eAnd (eVar 2) (eNot (eCall B 48 (aCons (eVar 0) (aNil)) []))) (eC .none) (eVar 4)))))
/-- shortest: 0 talk, 1 found, 2 lengths, 3 at, 4 _, 5 after -/
def l0_shortest (B : Calls) : SMean := sIf (eBin opNotIn (eVar 5) (eVar 1)) (sSeq (sApp 1 (eVar 5)) (sApp 2 (eBin opAdd (eIx (eVar 2) (eVar 3)) (eC (.int 1))))) (sSkip)
def l1_shortest (B : Calls) : SMean := sSeq (sIf (eCall B 48 (aCons (eIx (eVar 1) (eVar 3)) (aNil)) []) (sRet (eIx (eVar 2) (eVar 3))) (sSkip)) (sSeq (sFor (sSq (eCall B 49 (aCons (eIx (eVar 1) (eVar 3)) (aNil)) [])) (.t [4, 5]) (l0_shortest B)) (sAug (fun i j => i + j) 3 (eC (.int 1))))
def b_shortest (B : Calls) : SMean := sSeq (sSet 1 (eLst (aCons (eVar 0) (aNil)))) (sSeq (sSet 2 (eLst (aCons (eC (.int 0)) (aNil)))) (sSeq (sSet 3 (eC (.int 0))) (sSeq (sWhile 1000 (eBin opLt (eVar 3) (eU opLen (eVar 1))) (l1_shortest B)) (sRet (eC .none)))))
def tbl (B : Calls) : Calls := fun f us S => match f with
  | 0 => runFn 3 (b__law_same B) us S
  | 1 => runFn 3 (b__law_pool B) us S
  | 2 => runFn 4 (b__law_spread B) us S
  | 3 => runFn 5 (b__law_draw B) us S
  | 4 => runFn 4 (b__law_shuffled B) us S
  | 5 => runFn 2 (b_size B) us S
  | 6 => runFn 19 (b_law B) us S
  | 7 => runFn 2 (b_Parter_init B) us S
  | 8 => runFn 5 (b_Parter_part B) us S
  | 9 => runFn 10 (b_Parter_of_saying B) us S
  | 10 => runFn 3 (b_size_of B) us S
  | 11 => runFn 4 (b_parted B) us S
  | 12 => runFn 4 (b_parts B) us S
  | 13 => runFn 1 (b_opened_2 B) us S
  | 14 => runFn 3 (b_steps_from B) us S
  | 15 => runFn 7 (b_machine_of B) us S
  | 16 => runFn 2 (b_begin_2 B) us S
  | 17 => runFn 7 (b_on_way B) us S
  | 18 => runFn 6 (b_with_row B) us S
  | 19 => runFn 3 (b_moved B) us S
  | 20 => runFn 14 (b_deeds B) us S
  | 21 => runFn 10 (b_trouble_at B) us S
  | 22 => runFn 6 (b_is_unheard B) us S
  | 23 => runFn 11 (b_search B) us S
  | 24 => runFn 2 (b_trouble B) us S
  | 25 => runFn 3 (b_inner B) us S
  | 26 => runFn 3 (b_roles_in B) us S
  | 27 => runFn 3 (b_inner_2 B) us S
  | 28 => runFn 3 (b_goes_again B) us S
  | 29 => runFn 7 (b_Parter_of_loop B) us S
  | 30 => runFn 4 (b_ways_out B) us S
  | 31 => runFn 5 (b_put_for_2 B) us S
  | 32 => runFn 5 (b_states_in B) us S
  | 33 => runFn 2 (b_Parter_none_at B) us S
  | 34 => runFn 2 (b_reached_2 B) us S
  | 35 => runFn 2 (b_begin B) us S
  | 36 => runFn 8 (b_meets B) us S
  | 37 => runFn 6 (b_with_states B) us S
  | 38 => runFn 5 (b_reached B) us S
  | 39 => runFn 3 (b_is_over_2 B) us S
  | 40 => runFn 2 (b_dead_end B) us S
  | 41 => runFn 4 (b__law_power B) us S
  | 42 => runFn 5 (b_put_for B) us S
  | 43 => runFn 1 (b_opened B) us S
  | 44 => runFn 1 (b_next_said B) us S
  | 45 => runFn 14 (b_said_without B) us S
  | 46 => runFn 8 (b_after_said B) us S
  | 47 => runFn 2 (b_beside B) us S
  | 48 => runFn 1 (b_is_over B) us S
  | 49 => runFn 5 (b_written B) us S
  | 50 => runFn 1 (b_Counter_init B) us S
  | 51 => runFn 6 (b_Counter_rows B) us S
  | 52 => runFn 3 (b_count B) us S
  | 53 => runFn 9 (b_nth B) us S
  | 54 => runFn 8 (b_number_of B) us S
  | 55 => runFn 6 (b_shortest B) us S
  | _ => none
abbrev i__law_same : Nat := 0
abbrev i__law_pool : Nat := 1
abbrev i__law_spread : Nat := 2
abbrev i__law_draw : Nat := 3
abbrev i__law_shuffled : Nat := 4
abbrev i_size : Nat := 5
abbrev i_law : Nat := 6
abbrev i_Parter_init : Nat := 7
abbrev i_Parter_part : Nat := 8
abbrev i_Parter_of_saying : Nat := 9
abbrev i_size_of : Nat := 10
abbrev i_parted : Nat := 11
abbrev i_parts : Nat := 12
abbrev i_opened_2 : Nat := 13
abbrev i_steps_from : Nat := 14
abbrev i_machine_of : Nat := 15
abbrev i_begin_2 : Nat := 16
abbrev i_on_way : Nat := 17
abbrev i_with_row : Nat := 18
abbrev i_moved : Nat := 19
abbrev i_deeds : Nat := 20
abbrev i_trouble_at : Nat := 21
abbrev i_is_unheard : Nat := 22
abbrev i_search : Nat := 23
abbrev i_trouble : Nat := 24
abbrev i_inner : Nat := 25
abbrev i_roles_in : Nat := 26
abbrev i_inner_2 : Nat := 27
abbrev i_goes_again : Nat := 28
abbrev i_Parter_of_loop : Nat := 29
abbrev i_ways_out : Nat := 30
abbrev i_put_for_2 : Nat := 31
abbrev i_states_in : Nat := 32
abbrev i_Parter_none_at : Nat := 33
abbrev i_reached_2 : Nat := 34
abbrev i_begin : Nat := 35
abbrev i_meets : Nat := 36
abbrev i_with_states : Nat := 37
abbrev i_reached : Nat := 38
abbrev i_is_over_2 : Nat := 39
abbrev i_dead_end : Nat := 40
abbrev i__law_power : Nat := 41
abbrev i_put_for : Nat := 42
abbrev i_opened : Nat := 43
abbrev i_next_said : Nat := 44
abbrev i_said_without : Nat := 45
abbrev i_after_said : Nat := 46
abbrev i_beside : Nat := 47
abbrev i_is_over : Nat := 48
abbrev i_written : Nat := 49
abbrev i_Counter_init : Nat := 50
abbrev i_Counter_rows : Nat := 51
abbrev i_count : Nat := 52
abbrev i_nth : Nat := 53
abbrev i_number_of : Nat := 54
abbrev i_shortest : Nat := 55
theorem call__law_same (n : Nat) (us : List Val) (S : Store) : callN tbl (n + 1) 0 us S = runFn 3 (b__law_same (callN tbl n)) us S := rfl
theorem call__law_pool (n : Nat) (us : List Val) (S : Store) : callN tbl (n + 1) 1 us S = runFn 3 (b__law_pool (callN tbl n)) us S := rfl
theorem call__law_spread (n : Nat) (us : List Val) (S : Store) : callN tbl (n + 1) 2 us S = runFn 4 (b__law_spread (callN tbl n)) us S := rfl
theorem call__law_draw (n : Nat) (us : List Val) (S : Store) : callN tbl (n + 1) 3 us S = runFn 5 (b__law_draw (callN tbl n)) us S := rfl
theorem call__law_shuffled (n : Nat) (us : List Val) (S : Store) : callN tbl (n + 1) 4 us S = runFn 4 (b__law_shuffled (callN tbl n)) us S := rfl
theorem call_size (n : Nat) (us : List Val) (S : Store) : callN tbl (n + 1) 5 us S = runFn 2 (b_size (callN tbl n)) us S := rfl
theorem call_law (n : Nat) (us : List Val) (S : Store) : callN tbl (n + 1) 6 us S = runFn 19 (b_law (callN tbl n)) us S := rfl
theorem call_Parter_init (n : Nat) (us : List Val) (S : Store) : callN tbl (n + 1) 7 us S = runFn 2 (b_Parter_init (callN tbl n)) us S := rfl
theorem call_Parter_part (n : Nat) (us : List Val) (S : Store) : callN tbl (n + 1) 8 us S = runFn 5 (b_Parter_part (callN tbl n)) us S := rfl
theorem call_Parter_of_saying (n : Nat) (us : List Val) (S : Store) : callN tbl (n + 1) 9 us S = runFn 10 (b_Parter_of_saying (callN tbl n)) us S := rfl
theorem call_size_of (n : Nat) (us : List Val) (S : Store) : callN tbl (n + 1) 10 us S = runFn 3 (b_size_of (callN tbl n)) us S := rfl
theorem call_parted (n : Nat) (us : List Val) (S : Store) : callN tbl (n + 1) 11 us S = runFn 4 (b_parted (callN tbl n)) us S := rfl
theorem call_parts (n : Nat) (us : List Val) (S : Store) : callN tbl (n + 1) 12 us S = runFn 4 (b_parts (callN tbl n)) us S := rfl
theorem call_opened_2 (n : Nat) (us : List Val) (S : Store) : callN tbl (n + 1) 13 us S = runFn 1 (b_opened_2 (callN tbl n)) us S := rfl
theorem call_steps_from (n : Nat) (us : List Val) (S : Store) : callN tbl (n + 1) 14 us S = runFn 3 (b_steps_from (callN tbl n)) us S := rfl
theorem call_machine_of (n : Nat) (us : List Val) (S : Store) : callN tbl (n + 1) 15 us S = runFn 7 (b_machine_of (callN tbl n)) us S := rfl
theorem call_begin_2 (n : Nat) (us : List Val) (S : Store) : callN tbl (n + 1) 16 us S = runFn 2 (b_begin_2 (callN tbl n)) us S := rfl
theorem call_on_way (n : Nat) (us : List Val) (S : Store) : callN tbl (n + 1) 17 us S = runFn 7 (b_on_way (callN tbl n)) us S := rfl
theorem call_with_row (n : Nat) (us : List Val) (S : Store) : callN tbl (n + 1) 18 us S = runFn 6 (b_with_row (callN tbl n)) us S := rfl
theorem call_moved (n : Nat) (us : List Val) (S : Store) : callN tbl (n + 1) 19 us S = runFn 3 (b_moved (callN tbl n)) us S := rfl
theorem call_deeds (n : Nat) (us : List Val) (S : Store) : callN tbl (n + 1) 20 us S = runFn 14 (b_deeds (callN tbl n)) us S := rfl
theorem call_trouble_at (n : Nat) (us : List Val) (S : Store) : callN tbl (n + 1) 21 us S = runFn 10 (b_trouble_at (callN tbl n)) us S := rfl
theorem call_is_unheard (n : Nat) (us : List Val) (S : Store) : callN tbl (n + 1) 22 us S = runFn 6 (b_is_unheard (callN tbl n)) us S := rfl
theorem call_search (n : Nat) (us : List Val) (S : Store) : callN tbl (n + 1) 23 us S = runFn 11 (b_search (callN tbl n)) us S := rfl
theorem call_trouble (n : Nat) (us : List Val) (S : Store) : callN tbl (n + 1) 24 us S = runFn 2 (b_trouble (callN tbl n)) us S := rfl
theorem call_inner (n : Nat) (us : List Val) (S : Store) : callN tbl (n + 1) 25 us S = runFn 3 (b_inner (callN tbl n)) us S := rfl
theorem call_roles_in (n : Nat) (us : List Val) (S : Store) : callN tbl (n + 1) 26 us S = runFn 3 (b_roles_in (callN tbl n)) us S := rfl
theorem call_inner_2 (n : Nat) (us : List Val) (S : Store) : callN tbl (n + 1) 27 us S = runFn 3 (b_inner_2 (callN tbl n)) us S := rfl
theorem call_goes_again (n : Nat) (us : List Val) (S : Store) : callN tbl (n + 1) 28 us S = runFn 3 (b_goes_again (callN tbl n)) us S := rfl
theorem call_Parter_of_loop (n : Nat) (us : List Val) (S : Store) : callN tbl (n + 1) 29 us S = runFn 7 (b_Parter_of_loop (callN tbl n)) us S := rfl
theorem call_ways_out (n : Nat) (us : List Val) (S : Store) : callN tbl (n + 1) 30 us S = runFn 4 (b_ways_out (callN tbl n)) us S := rfl
theorem call_put_for_2 (n : Nat) (us : List Val) (S : Store) : callN tbl (n + 1) 31 us S = runFn 5 (b_put_for_2 (callN tbl n)) us S := rfl
theorem call_states_in (n : Nat) (us : List Val) (S : Store) : callN tbl (n + 1) 32 us S = runFn 5 (b_states_in (callN tbl n)) us S := rfl
theorem call_Parter_none_at (n : Nat) (us : List Val) (S : Store) : callN tbl (n + 1) 33 us S = runFn 2 (b_Parter_none_at (callN tbl n)) us S := rfl
theorem call_reached_2 (n : Nat) (us : List Val) (S : Store) : callN tbl (n + 1) 34 us S = runFn 2 (b_reached_2 (callN tbl n)) us S := rfl
theorem call_begin (n : Nat) (us : List Val) (S : Store) : callN tbl (n + 1) 35 us S = runFn 2 (b_begin (callN tbl n)) us S := rfl
theorem call_meets (n : Nat) (us : List Val) (S : Store) : callN tbl (n + 1) 36 us S = runFn 8 (b_meets (callN tbl n)) us S := rfl
theorem call_with_states (n : Nat) (us : List Val) (S : Store) : callN tbl (n + 1) 37 us S = runFn 6 (b_with_states (callN tbl n)) us S := rfl
theorem call_reached (n : Nat) (us : List Val) (S : Store) : callN tbl (n + 1) 38 us S = runFn 5 (b_reached (callN tbl n)) us S := rfl
theorem call_is_over_2 (n : Nat) (us : List Val) (S : Store) : callN tbl (n + 1) 39 us S = runFn 3 (b_is_over_2 (callN tbl n)) us S := rfl
theorem call_dead_end (n : Nat) (us : List Val) (S : Store) : callN tbl (n + 1) 40 us S = runFn 2 (b_dead_end (callN tbl n)) us S := rfl
theorem call__law_power (n : Nat) (us : List Val) (S : Store) : callN tbl (n + 1) 41 us S = runFn 4 (b__law_power (callN tbl n)) us S := rfl
theorem call_put_for (n : Nat) (us : List Val) (S : Store) : callN tbl (n + 1) 42 us S = runFn 5 (b_put_for (callN tbl n)) us S := rfl
theorem call_opened (n : Nat) (us : List Val) (S : Store) : callN tbl (n + 1) 43 us S = runFn 1 (b_opened (callN tbl n)) us S := rfl
theorem call_next_said (n : Nat) (us : List Val) (S : Store) : callN tbl (n + 1) 44 us S = runFn 1 (b_next_said (callN tbl n)) us S := rfl
theorem call_said_without (n : Nat) (us : List Val) (S : Store) : callN tbl (n + 1) 45 us S = runFn 14 (b_said_without (callN tbl n)) us S := rfl
theorem call_after_said (n : Nat) (us : List Val) (S : Store) : callN tbl (n + 1) 46 us S = runFn 8 (b_after_said (callN tbl n)) us S := rfl
theorem call_beside (n : Nat) (us : List Val) (S : Store) : callN tbl (n + 1) 47 us S = runFn 2 (b_beside (callN tbl n)) us S := rfl
theorem call_is_over (n : Nat) (us : List Val) (S : Store) : callN tbl (n + 1) 48 us S = runFn 1 (b_is_over (callN tbl n)) us S := rfl
theorem call_written (n : Nat) (us : List Val) (S : Store) : callN tbl (n + 1) 49 us S = runFn 5 (b_written (callN tbl n)) us S := rfl
theorem call_Counter_init (n : Nat) (us : List Val) (S : Store) : callN tbl (n + 1) 50 us S = runFn 1 (b_Counter_init (callN tbl n)) us S := rfl
theorem call_Counter_rows (n : Nat) (us : List Val) (S : Store) : callN tbl (n + 1) 51 us S = runFn 6 (b_Counter_rows (callN tbl n)) us S := rfl
theorem call_count (n : Nat) (us : List Val) (S : Store) : callN tbl (n + 1) 52 us S = runFn 3 (b_count (callN tbl n)) us S := rfl
theorem call_nth (n : Nat) (us : List Val) (S : Store) : callN tbl (n + 1) 53 us S = runFn 9 (b_nth (callN tbl n)) us S := rfl
theorem call_number_of (n : Nat) (us : List Val) (S : Store) : callN tbl (n + 1) 54 us S = runFn 8 (b_number_of (callN tbl n)) us S := rfl
theorem call_shortest (n : Nat) (us : List Val) (S : Store) : callN tbl (n + 1) 55 us S = runFn 6 (b_shortest (callN tbl n)) us S := rfl
end K58
set_option Elab.async false
set_option linter.all false
set_option maxRecDepth 100000
set_option maxHeartbeats 4000000
namespace K58
open PySem L2 MP
abbrev topS (i : Nat) : Stmt := PySem.Challenge.pw_everytalk_k58_whole_loops_beside_each_ot.main.body.getD i (.Pass ⟨0, 0, 0, 0⟩)
def top (i : Nat) : Stmt := topS i
theorem sc__law_same : FnScope ["actual", "due", "k"] ["actual", "due"] (defScope (top 71)) := ⟨rfl, rfl, rfl, by decide +kernel, rfl, by decide +kernel, by decide +kernel⟩
theorem sc__law_pool : FnScope ["script", "salt", "cell"] ["script"] (defScope (top 72)) := ⟨rfl, rfl, rfl, by decide +kernel, rfl, by decide +kernel, by decide +kernel⟩
theorem sc__law_spread : FnScope ["cell", "mixed", "total", "k"] ["cell"] (defScope (top 73)) := ⟨rfl, rfl, rfl, by decide +kernel, rfl, by decide +kernel, by decide +kernel⟩
theorem sc__law_draw : FnScope ["pool", "many", "cell", "mixed", "value"] ["pool", "many"] (defScope (top 74)) := ⟨rfl, rfl, rfl, by decide +kernel, rfl, by decide +kernel, by decide +kernel⟩
theorem sc__law_shuffled : FnScope ["pool", "items", "left", "found"] ["pool", "items"] (defScope (top 75)) := ⟨rfl, rfl, rfl, by decide +kernel, rfl, by decide +kernel, by decide +kernel⟩
theorem sc_size : FnScope ["value", "part"] ["value"] (defScope (top 3)) := ⟨rfl, rfl, rfl, by decide +kernel, rfl, by decide +kernel, by decide +kernel⟩
theorem sc_law : FnScope ["script", "pool", "roles", "sizes", "loops", "k", "talk", "length", "every", "number", "row", "left", "machines", "room", "due", "size_of_v", "part", "letter", "machine"] ["script"] (defScope (top 77)) := ⟨rfl, rfl, rfl, by decide +kernel, rfl, by decide +kernel, by decide +kernel⟩
theorem sc_Parter_init : FnScope ["self", "role"] ["self", "role"] (defScope (inClass (top 33) 0)) := ⟨rfl, rfl, rfl, by decide +kernel, rfl, by decide +kernel, by decide +kernel⟩
theorem sc_Parter_part : FnScope ["self", "value", "number", "one", "two"] ["self", "value", "number"] (defScope (inClass (top 33) 1)) := ⟨rfl, rfl, rfl, by decide +kernel, rfl, by decide +kernel, by decide +kernel⟩
theorem sc_Parter_of_saying : FnScope ["self", "value", "number", "here", "found", "letter", "after", "whole", "_", "part"] ["self", "value", "number"] (defScope (inClass (top 33) 4)) := ⟨rfl, rfl, rfl, by decide +kernel, rfl, by decide +kernel, by decide +kernel⟩
theorem sc_size_of : FnScope ["talk", "_", "after"] ["talk"] (defScope (top 35)) := ⟨rfl, rfl, rfl, by decide +kernel, rfl, by decide +kernel, by decide +kernel⟩
theorem sc_parted : FnScope ["talk", "role", "parter", "found"] ["talk", "role"] (defScope (top 36)) := ⟨rfl, rfl, rfl, by decide +kernel, rfl, by decide +kernel, by decide +kernel⟩
theorem sc_parts : FnScope ["talk", "found", "role", "part"] ["talk"] (defScope (top 37)) := ⟨rfl, rfl, rfl, by decide +kernel, rfl, by decide +kernel, by decide +kernel⟩
theorem sc_opened_2 : FnScope ["value"] ["value"] (defScope (top 40)) := ⟨rfl, rfl, rfl, by decide +kernel, rfl, by decide +kernel, by decide +kernel⟩
theorem sc_steps_from : FnScope ["machine", "state", "step"] ["machine", "state"] (defScope (top 43)) := ⟨rfl, rfl, rfl, by decide +kernel, rfl, by decide +kernel, by decide +kernel⟩
theorem sc_machine_of : FnScope ["part", "found", "steps", "at", "here", "letter", "after"] ["part"] (defScope (top 44)) := ⟨rfl, rfl, rfl, by decide +kernel, rfl, by decide +kernel, by decide +kernel⟩
theorem sc_begin_2 : FnScope ["machines", "_"] ["machines"] (defScope (top 58)) := ⟨rfl, rfl, rfl, by decide +kernel, rfl, by decide +kernel, by decide +kernel⟩
theorem sc_on_way : FnScope ["queues", "speaker", "hearer", "found", "a", "b", "row"] ["queues", "speaker", "hearer"] (defScope (top 60)) := ⟨rfl, rfl, rfl, by decide +kernel, rfl, by decide +kernel, by decide +kernel⟩
theorem sc_with_row : FnScope ["queues", "speaker", "hearer", "row", "rest", "entry"] ["queues", "speaker", "hearer", "row"] (defScope (top 61)) := ⟨rfl, rfl, rfl, by decide +kernel, rfl, by decide +kernel, by decide +kernel⟩
theorem sc_moved : FnScope ["states", "role", "state"] ["states", "role", "state"] (defScope (top 62)) := ⟨rfl, rfl, rfl, by decide +kernel, rfl, by decide +kernel, by decide +kernel⟩
theorem sc_deeds : FnScope ["machines", "here", "room", "states", "queues", "found", "role", "_", "word", "other", "letter", "after", "row", "behind"] ["machines", "here", "room"] (defScope (top 63)) := ⟨rfl, rfl, rfl, by decide +kernel, rfl, by decide +kernel, by decide +kernel⟩
theorem sc_trouble_at : FnScope ["machines", "here", "room", "states", "queues", "role", "steps", "over", "k", "step"] ["machines", "here", "room"] (defScope (top 64)) := ⟨rfl, rfl, rfl, by decide +kernel, rfl, by decide +kernel, by decide +kernel⟩
theorem sc_is_unheard : FnScope ["steps", "queues", "role", "other", "row", "step"] ["steps", "queues", "role"] (defScope (top 65)) := ⟨rfl, rfl, rfl, by decide +kernel, rfl, by decide +kernel, by decide +kernel⟩
theorem sc_search : FnScope ["machines", "room", "found", "ways", "at", "word", "role", "deed", "other", "letter", "after"] ["machines", "room"] (defScope (top 66)) := ⟨rfl, rfl, rfl, by decide +kernel, rfl, by decide +kernel, by decide +kernel⟩
theorem sc_trouble : FnScope ["machines", "room"] ["machines", "room"] (defScope (top 67)) := ⟨rfl, rfl, rfl, by decide +kernel, rfl, by decide +kernel, by decide +kernel⟩
theorem sc_inner : FnScope ["value", "_", "after"] ["value"] (defScope (top 1)) := ⟨rfl, rfl, rfl, by decide +kernel, rfl, by decide +kernel, by decide +kernel⟩
theorem sc_roles_in : FnScope ["value", "found", "part"] ["value"] (defScope (top 4)) := ⟨rfl, rfl, rfl, by decide +kernel, rfl, by decide +kernel, by decide +kernel⟩
theorem sc_inner_2 : FnScope ["value", "_", "after"] ["value"] (defScope (top 29)) := ⟨rfl, rfl, rfl, by decide +kernel, rfl, by decide +kernel, by decide +kernel⟩
theorem sc_goes_again : FnScope ["value", "name", "part"] ["value", "name"] (defScope (top 32)) := ⟨rfl, rfl, rfl, by decide +kernel, rfl, by decide +kernel, by decide +kernel⟩
theorem sc_Parter_of_loop : FnScope ["self", "value", "number", "body", "ways", "out", "name"] ["self", "value", "number"] (defScope (inClass (top 33) 2)) := ⟨rfl, rfl, rfl, by decide +kernel, rfl, by decide +kernel, by decide +kernel⟩
theorem sc_ways_out : FnScope ["talk", "name", "_", "after"] ["talk"] (defScope (top 34)) := ⟨rfl, rfl, rfl, by decide +kernel, rfl, by decide +kernel, by decide +kernel⟩
theorem sc_put_for_2 : FnScope ["value", "name", "other", "letter", "after"] ["value", "name", "other"] (defScope (top 38)) := ⟨rfl, rfl, rfl, by decide +kernel, rfl, by decide +kernel, by decide +kernel⟩
theorem sc_states_in : FnScope ["talk", "found", "at", "_", "after"] ["talk"] (defScope (top 27)) := ⟨rfl, rfl, rfl, by decide +kernel, rfl, by decide +kernel, by decide +kernel⟩
theorem sc_Parter_none_at : FnScope ["self", "number"] ["self", "number"] (defScope (inClass (top 33) 3)) := ⟨rfl, rfl, rfl, by decide +kernel, rfl, by decide +kernel, by decide +kernel⟩
theorem sc_reached_2 : FnScope ["machines", "room"] ["machines", "room"] (defScope (top 68)) := ⟨rfl, rfl, rfl, by decide +kernel, rfl, by decide +kernel, by decide +kernel⟩
theorem sc_begin : FnScope ["machines", "_"] ["machines"] (defScope (top 47)) := ⟨rfl, rfl, rfl, by decide +kernel, rfl, by decide +kernel, by decide +kernel⟩
theorem sc_meets : FnScope ["machines", "states", "found", "speaker", "step", "hearer", "other", "after"] ["machines", "states"] (defScope (top 49)) := ⟨rfl, rfl, rfl, by decide +kernel, rfl, by decide +kernel, by decide +kernel⟩
theorem sc_with_states : FnScope ["states", "one", "first", "two", "second", "found"] ["states", "one", "first", "two", "second"] (defScope (top 50)) := ⟨rfl, rfl, rfl, by decide +kernel, rfl, by decide +kernel, by decide +kernel⟩
theorem sc_reached : FnScope ["machines", "found", "at", "_", "after"] ["machines"] (defScope (top 51)) := ⟨rfl, rfl, rfl, by decide +kernel, rfl, by decide +kernel, by decide +kernel⟩
theorem sc_is_over_2 : FnScope ["machines", "states", "k"] ["machines", "states"] (defScope (top 53)) := ⟨rfl, rfl, rfl, by decide +kernel, rfl, by decide +kernel, by decide +kernel⟩
theorem sc_dead_end : FnScope ["machines", "states"] ["machines"] (defScope (top 55)) := ⟨rfl, rfl, rfl, by decide +kernel, rfl, by decide +kernel, by decide +kernel⟩
theorem sc__law_power : FnScope ["base", "times", "found", "k"] ["base", "times"] (defScope (top 76)) := ⟨rfl, rfl, rfl, by decide +kernel, rfl, by decide +kernel, by decide +kernel⟩
theorem sc_put_for : FnScope ["value", "name", "other", "letter", "after"] ["value", "name", "other"] (defScope (top 5)) := ⟨rfl, rfl, rfl, by decide +kernel, rfl, by decide +kernel, by decide +kernel⟩
theorem sc_opened : FnScope ["value"] ["value"] (defScope (top 7)) := ⟨rfl, rfl, rfl, by decide +kernel, rfl, by decide +kernel, by decide +kernel⟩
theorem sc_next_said : FnScope ["talk"] ["talk"] (defScope (top 14)) := ⟨rfl, rfl, rfl, by decide +kernel, rfl, by decide +kernel, by decide +kernel⟩
theorem sc_said_without : FnScope ["talk", "busy", "seen", "_", "speaker", "hearer", "branches", "found", "more", "ahead", "after", "saying", "letter", "row"] ["talk", "busy", "seen"] (defScope (top 15)) := ⟨rfl, rfl, rfl, by decide +kernel, rfl, by decide +kernel, by decide +kernel⟩
theorem sc_after_said : FnScope ["talk", "saying", "_", "speaker", "hearer", "branches", "letter", "after"] ["talk", "saying"] (defScope (top 16)) := ⟨rfl, rfl, rfl, by decide +kernel, rfl, by decide +kernel, by decide +kernel⟩
theorem sc_beside : FnScope ["one", "two"] ["one", "two"] (defScope (top 17)) := ⟨rfl, rfl, rfl, by decide +kernel, rfl, by decide +kernel, by decide +kernel⟩
theorem sc_is_over : FnScope ["talk"] ["talk"] (defScope (top 18)) := ⟨rfl, rfl, rfl, by decide +kernel, rfl, by decide +kernel, by decide +kernel⟩
theorem sc_written : FnScope ["talk", "first", "letter", "after", "saying"] ["talk"] (defScope (top 20)) := ⟨rfl, rfl, rfl, by decide +kernel, rfl, by decide +kernel, by decide +kernel⟩
theorem sc_Counter_init : FnScope ["self"] ["self"] (defScope (inClass (top 22) 0)) := ⟨rfl, rfl, rfl, by decide +kernel, rfl, by decide +kernel, by decide +kernel⟩
theorem sc_Counter_rows : FnScope ["self", "talk", "many", "ended", "found", "saying"] ["self", "talk", "many", "ended"] (defScope (inClass (top 22) 1)) := ⟨rfl, rfl, rfl, by decide +kernel, rfl, by decide +kernel, by decide +kernel⟩
theorem sc_count : FnScope ["talk", "many", "ended"] ["talk", "many", "ended"] (defScope (top 23)) := ⟨rfl, rfl, rfl, by decide +kernel, rfl, by decide +kernel, by decide +kernel⟩
theorem sc_nth : FnScope ["talk", "many", "number", "ended", "counter", "row", "saying", "after", "here"] ["talk", "many", "number", "ended"] (defScope (top 24)) := ⟨rfl, rfl, rfl, by decide +kernel, rfl, by decide +kernel, by decide +kernel⟩
theorem sc_number_of : FnScope ["talk", "row", "ended", "counter", "found", "k", "said", "saying"] ["talk", "row", "ended"] (defScope (top 25)) := ⟨rfl, rfl, rfl, by decide +kernel, rfl, by decide +kernel, by decide +kernel⟩
theorem sc_shortest : FnScope ["talk", "found", "lengths", "at", "_", "after"] ["talk"] (defScope (top 26)) := ⟨rfl, rfl, rfl, by decide +kernel, rfl, by decide +kernel, by decide +kernel⟩
structure Txt (K : PySem.W.Frag) (mg : Str → Option Value) where
  bl : Bl mg
  d__law_same : DF K "_law_same" "_law_same" (top 71) ["actual", "due"]
  d__law_pool : DF K "_law_pool" "_law_pool" (top 72) ["script"]
  d__law_spread : DF K "_law_spread" "_law_spread" (top 73) ["cell"]
  d__law_draw : DF K "_law_draw" "_law_draw" (top 74) ["pool", "many"]
  d__law_shuffled : DF K "_law_shuffled" "_law_shuffled" (top 75) ["pool", "items"]
  d_size : DF K "size" "size" (top 3) ["value"]
  d_law : DF K "law" "law" (top 77) ["script"]
  d_Parter_init : DF K "__init__" "Parter.__init__" (inClass (top 33) 0) ["self", "role"]
  d_Parter_part : DF K "part" "Parter.part" (inClass (top 33) 1) ["self", "value", "number"]
  d_Parter_of_saying : DF K "of_saying" "Parter.of_saying" (inClass (top 33) 4) ["self", "value", "number"]
  d_size_of : DF K "size_of" "size_of" (top 35) ["talk"]
  d_parted : DF K "parted" "parted" (top 36) ["talk", "role"]
  d_parts : DF K "parts" "parts" (top 37) ["talk"]
  d_opened_2 : DF K "opened" "opened" (top 40) ["value"]
  d_steps_from : DF K "steps_from" "steps_from" (top 43) ["machine", "state"]
  d_machine_of : DF K "machine_of" "machine_of" (top 44) ["part"]
  d_begin_2 : DF K "begin" "begin" (top 58) ["machines"]
  d_on_way : DF K "on_way" "on_way" (top 60) ["queues", "speaker", "hearer"]
  d_with_row : DF K "with_row" "with_row" (top 61) ["queues", "speaker", "hearer", "row"]
  d_moved : DF K "moved" "moved" (top 62) ["states", "role", "state"]
  d_deeds : DF K "deeds" "deeds" (top 63) ["machines", "here", "room"]
  d_trouble_at : DF K "trouble_at" "trouble_at" (top 64) ["machines", "here", "room"]
  d_is_unheard : DF K "is_unheard" "is_unheard" (top 65) ["steps", "queues", "role"]
  d_search : DF K "search" "search" (top 66) ["machines", "room"]
  d_trouble : DF K "trouble" "trouble" (top 67) ["machines", "room"]
  d_inner : DF K "inner" "inner" (top 1) ["value"]
  d_roles_in : DF K "roles_in" "roles_in" (top 4) ["value"]
  d_inner_2 : DF K "inner" "inner" (top 29) ["value"]
  d_goes_again : DF K "goes_again" "goes_again" (top 32) ["value", "name"]
  d_Parter_of_loop : DF K "of_loop" "Parter.of_loop" (inClass (top 33) 2) ["self", "value", "number"]
  d_ways_out : DF K "ways_out" "ways_out" (top 34) ["talk"]
  d_put_for_2 : DF K "put_for" "put_for" (top 38) ["value", "name", "other"]
  d_states_in : DF K "states_in" "states_in" (top 27) ["talk"]
  d_Parter_none_at : DF K "none_at" "Parter.none_at" (inClass (top 33) 3) ["self", "number"]
  d_reached_2 : DF K "reached" "reached" (top 68) ["machines", "room"]
  d_begin : DF K "begin" "begin" (top 47) ["machines"]
  d_meets : DF K "meets" "meets" (top 49) ["machines", "states"]
  d_with_states : DF K "with_states" "with_states" (top 50) ["states", "one", "first", "two", "second"]
  d_reached : DF K "reached" "reached" (top 51) ["machines"]
  d_is_over_2 : DF K "is_over" "is_over" (top 53) ["machines", "states"]
  d_dead_end : DF K "dead_end" "dead_end" (top 55) ["machines"]
  d__law_power : DF K "_law_power" "_law_power" (top 76) ["base", "times"]
  d_put_for : DF K "put_for" "put_for" (top 5) ["value", "name", "other"]
  d_opened : DF K "opened" "opened" (top 7) ["value"]
  d_next_said : DF K "next_said" "next_said" (top 14) ["talk"]
  d_said_without : DF K "said_without" "said_without" (top 15) ["talk", "busy", "seen"]
  d_after_said : DF K "after_said" "after_said" (top 16) ["talk", "saying"]
  d_beside : DF K "beside" "beside" (top 17) ["one", "two"]
  d_is_over : DF K "is_over" "is_over" (top 18) ["talk"]
  d_written : DF K "written" "written" (top 20) ["talk"]
  d_Counter_init : DF K "__init__" "Counter.__init__" (inClass (top 22) 0) ["self"]
  d_Counter_rows : DF K "rows" "Counter.rows" (inClass (top 22) 1) ["self", "talk", "many", "ended"]
  d_count : DFD K "count" "count" (top 23) ["talk", "many", "ended"]
  d_nth : DFD K "nth" "nth" (top 24) ["talk", "many", "number", "ended"]
  d_number_of : DFD K "number_of" "number_of" (top 25) ["talk", "row", "ended"]
  d_shortest : DF K "shortest" "shortest" (top 26) ["talk"]
  g__law_draw : mg "_law_draw" = some (.ref d__law_draw.fa)
  g__law_pool : mg "_law_pool" = some (.ref d__law_pool.fa)
  g__law_power : mg "_law_power" = some (.ref d__law_power.fa)
  g__law_same : mg "_law_same" = some (.ref d__law_same.fa)
  g__law_shuffled : mg "_law_shuffled" = some (.ref d__law_shuffled.fa)
  g__law_spread : mg "_law_spread" = some (.ref d__law_spread.fa)
  g_after_said : mg "after_said" = some (.ref d_after_said.fa)
  g_begin_handshakes : mg "begin_handshakes" = some (.ref d_begin.fa)
  g_begin_letters : mg "begin_letters" = some (.ref d_begin_2.fa)
  g_beside : mg "beside" = some (.ref d_beside.fa)
  g_count : mg "count" = some (.ref d_count.fa)
  g_dead_end : mg "dead_end" = some (.ref d_dead_end.fa)
  g_deeds : mg "deeds" = some (.ref d_deeds.fa)
  g_goes_again : mg "goes_again" = some (.ref d_goes_again.fa)
  g_inner_shares : mg "inner_shares" = some (.ref d_inner_2.fa)
  g_inner_talks : mg "inner_talks" = some (.ref d_inner.fa)
  g_is_over_handshakes : mg "is_over_handshakes" = some (.ref d_is_over_2.fa)
  g_is_over_walks : mg "is_over_walks" = some (.ref d_is_over.fa)
  g_is_unheard : mg "is_unheard" = some (.ref d_is_unheard.fa)
  g_machine_of : mg "machine_of" = some (.ref d_machine_of.fa)
  g_meets : mg "meets" = some (.ref d_meets.fa)
  g_moved : mg "moved" = some (.ref d_moved.fa)
  g_next_said : mg "next_said" = some (.ref d_next_said.fa)
  g_nth : mg "nth" = some (.ref d_nth.fa)
  g_number_of : mg "number_of" = some (.ref d_number_of.fa)
  g_on_way : mg "on_way" = some (.ref d_on_way.fa)
  g_opened_shares : mg "opened_shares" = some (.ref d_opened_2.fa)
  g_opened_talks : mg "opened_talks" = some (.ref d_opened.fa)
  g_parted : mg "parted" = some (.ref d_parted.fa)
  g_parts : mg "parts" = some (.ref d_parts.fa)
  g_put_for_shares : mg "put_for_shares" = some (.ref d_put_for_2.fa)
  g_put_for_talks : mg "put_for_talks" = some (.ref d_put_for.fa)
  g_reached_handshakes : mg "reached_handshakes" = some (.ref d_reached.fa)
  g_reached_letters : mg "reached_letters" = some (.ref d_reached_2.fa)
  g_roles_in : mg "roles_in" = some (.ref d_roles_in.fa)
  g_said_without : mg "said_without" = some (.ref d_said_without.fa)
  g_search : mg "search" = some (.ref d_search.fa)
  g_shortest : mg "shortest" = some (.ref d_shortest.fa)
  g_size : mg "size" = some (.ref d_size.fa)
  g_size_of : mg "size_of" = some (.ref d_size_of.fa)
  g_states_in : mg "states_in" = some (.ref d_states_in.fa)
  g_steps_from : mg "steps_from" = some (.ref d_steps_from.fa)
  g_trouble : mg "trouble" = some (.ref d_trouble.fa)
  g_trouble_at : mg "trouble_at" = some (.ref d_trouble_at.fa)
  g_ways_out : mg "ways_out" = some (.ref d_ways_out.fa)
  g_with_row : mg "with_row" = some (.ref d_with_row.fa)
  g_with_states : mg "with_states" = some (.ref d_with_states.fa)
  g_written : mg "written" = some (.ref d_written.fa)
  tk_MOST_handshakes : Tok
  c_MOST_handshakes : mg "MOST_handshakes" = some (.int 3000 tk_MOST_handshakes)
  tk_MOST_letters : Tok
  c_MOST_letters : mg "MOST_letters" = some (.int 3000 tk_MOST_letters)
  a_END : Addr
  c_END : mg "END" = some (.ref a_END)
  d_END : ∀ F, DR K F (V.ref a_END) (.tuple [.str "end"])
  C_Parter : Addr
  cl_Parter : Cls K C_Parter
  m_Parter : mg "Parter" = some (.ref C_Parter)
  mk_Parter : Mk K C_Parter d_Parter_init.fa
  n_Parter_role : NoAttr K C_Parter "role"
  n_Parter_trouble : NoAttr K C_Parter "trouble"
  meth_Parter_part : Meth K C_Parter "part" d_Parter_part.fa
  meth_Parter_of_loop : Meth K C_Parter "of_loop" d_Parter_of_loop.fa
  meth_Parter_none_at : Meth K C_Parter "none_at" d_Parter_none_at.fa
  meth_Parter_of_saying : Meth K C_Parter "of_saying" d_Parter_of_saying.fa
  C_Counter : Addr
  cl_Counter : Cls K C_Counter
  m_Counter : mg "Counter" = some (.ref C_Counter)
  mk_Counter : Mk K C_Counter d_Counter_init.fa
  n_Counter_kept : NoAttr K C_Counter "kept"
  meth_Counter_rows : Meth K C_Counter "rows" d_Counter_rows.fa
variable {P : Program} {w : World} {K : PySem.W.Frag} {mg : Str → Option Value} {base : Heap}
abbrev Txt.G (w : World) (t : Txt K mg) : Gam := { K := K, w := w, cls := fun n => if n = 0 then t.C_Parter else t.C_Counter, flds := fun n => if n = 0 then ["role", "trouble"] else ["kept"] }
structure Ok (t : Txt K mg) (P : Program) (w : World) (base : Heap) (n : Nat) : Prop where
  f__law_same : FnOk P w K mg base CX0 (lv n) t.d__law_same.fa t.d__law_same.fd ["actual", "due"] (spF (t.G w) (callN tbl n) 0 2)
  f__law_pool : FnOk P w K mg base CX0 (lv n) t.d__law_pool.fa t.d__law_pool.fd ["script"] (spF (t.G w) (callN tbl n) 1 1)
  f__law_spread : FnOk P w K mg base CX0 (lv n) t.d__law_spread.fa t.d__law_spread.fd ["cell"] (spF (t.G w) (callN tbl n) 2 1)
  f__law_draw : FnOk P w K mg base CX0 (lv n) t.d__law_draw.fa t.d__law_draw.fd ["pool", "many"] (spF (t.G w) (callN tbl n) 3 2)
  f__law_shuffled : FnOk P w K mg base CX0 (lv n) t.d__law_shuffled.fa t.d__law_shuffled.fd ["pool", "items"] (spF (t.G w) (callN tbl n) 4 2)
  f_size : FnOk P w K mg base CX0 (lv n) t.d_size.fa t.d_size.fd ["value"] (spF (t.G w) (callN tbl n) 5 1)
  f_law : FnOk P w K mg base CX0 (lv n) t.d_law.fa t.d_law.fd ["script"] (spF (t.G w) (callN tbl n) 6 1)
  f_Parter_init : FnOk P w K mg base CX0 (lv n) t.d_Parter_init.fa t.d_Parter_init.fd ["self", "role"] (spF (t.G w) (callN tbl n) 7 2)
  f_Parter_part : FnOk P w K mg base CX0 (lv n) t.d_Parter_part.fa t.d_Parter_part.fd ["self", "value", "number"] (spF (t.G w) (callN tbl n) 8 3)
  f_Parter_of_saying : FnOk P w K mg base CX0 (lv n) t.d_Parter_of_saying.fa t.d_Parter_of_saying.fd ["self", "value", "number"] (spF (t.G w) (callN tbl n) 9 3)
  f_size_of : FnOk P w K mg base CX0 (lv n) t.d_size_of.fa t.d_size_of.fd ["talk"] (spF (t.G w) (callN tbl n) 10 1)
  f_parted : FnOk P w K mg base CX0 (lv n) t.d_parted.fa t.d_parted.fd ["talk", "role"] (spF (t.G w) (callN tbl n) 11 2)
  f_parts : FnOk P w K mg base CX0 (lv n) t.d_parts.fa t.d_parts.fd ["talk"] (spF (t.G w) (callN tbl n) 12 1)
  f_opened_2 : FnOk P w K mg base CX0 (lv n) t.d_opened_2.fa t.d_opened_2.fd ["value"] (spF (t.G w) (callN tbl n) 13 1)
  f_steps_from : FnOk P w K mg base CX0 (lv n) t.d_steps_from.fa t.d_steps_from.fd ["machine", "state"] (spF (t.G w) (callN tbl n) 14 2)
  f_machine_of : FnOk P w K mg base CX0 (lv n) t.d_machine_of.fa t.d_machine_of.fd ["part"] (spF (t.G w) (callN tbl n) 15 1)
  f_begin_2 : FnOk P w K mg base CX0 (lv n) t.d_begin_2.fa t.d_begin_2.fd ["machines"] (spF (t.G w) (callN tbl n) 16 1)
  f_on_way : FnOk P w K mg base CX0 (lv n) t.d_on_way.fa t.d_on_way.fd ["queues", "speaker", "hearer"] (spF (t.G w) (callN tbl n) 17 3)
  f_with_row : FnOk P w K mg base CX0 (lv n) t.d_with_row.fa t.d_with_row.fd ["queues", "speaker", "hearer", "row"] (spF (t.G w) (callN tbl n) 18 4)
  f_moved : FnOk P w K mg base CX0 (lv n) t.d_moved.fa t.d_moved.fd ["states", "role", "state"] (spF (t.G w) (callN tbl n) 19 3)
  f_deeds : FnOk P w K mg base CX0 (lv n) t.d_deeds.fa t.d_deeds.fd ["machines", "here", "room"] (spF (t.G w) (callN tbl n) 20 3)
  f_trouble_at : FnOk P w K mg base CX0 (lv n) t.d_trouble_at.fa t.d_trouble_at.fd ["machines", "here", "room"] (spF (t.G w) (callN tbl n) 21 3)
  f_is_unheard : FnOk P w K mg base CX0 (lv n) t.d_is_unheard.fa t.d_is_unheard.fd ["steps", "queues", "role"] (spF (t.G w) (callN tbl n) 22 3)
  f_search : FnOk P w K mg base CX0 (lv n) t.d_search.fa t.d_search.fd ["machines", "room"] (spF (t.G w) (callN tbl n) 23 2)
  f_trouble : FnOk P w K mg base CX0 (lv n) t.d_trouble.fa t.d_trouble.fd ["machines", "room"] (spF (t.G w) (callN tbl n) 24 2)
  f_inner : FnOk P w K mg base CX0 (lv n) t.d_inner.fa t.d_inner.fd ["value"] (spF (t.G w) (callN tbl n) 25 1)
  f_roles_in : FnOk P w K mg base CX0 (lv n) t.d_roles_in.fa t.d_roles_in.fd ["value"] (spF (t.G w) (callN tbl n) 26 1)
  f_inner_2 : FnOk P w K mg base CX0 (lv n) t.d_inner_2.fa t.d_inner_2.fd ["value"] (spF (t.G w) (callN tbl n) 27 1)
  f_goes_again : FnOk P w K mg base CX0 (lv n) t.d_goes_again.fa t.d_goes_again.fd ["value", "name"] (spF (t.G w) (callN tbl n) 28 2)
  f_Parter_of_loop : FnOk P w K mg base CX0 (lv n) t.d_Parter_of_loop.fa t.d_Parter_of_loop.fd ["self", "value", "number"] (spF (t.G w) (callN tbl n) 29 3)
  f_ways_out : FnOk P w K mg base CX0 (lv n) t.d_ways_out.fa t.d_ways_out.fd ["talk"] (spF (t.G w) (callN tbl n) 30 1)
  f_put_for_2 : FnOk P w K mg base CX0 (lv n) t.d_put_for_2.fa t.d_put_for_2.fd ["value", "name", "other"] (spF (t.G w) (callN tbl n) 31 3)
  f_states_in : FnOk P w K mg base CX0 (lv n) t.d_states_in.fa t.d_states_in.fd ["talk"] (spF (t.G w) (callN tbl n) 32 1)
  f_Parter_none_at : FnOk P w K mg base CX0 (lv n) t.d_Parter_none_at.fa t.d_Parter_none_at.fd ["self", "number"] (spF (t.G w) (callN tbl n) 33 2)
  f_reached_2 : FnOk P w K mg base CX0 (lv n) t.d_reached_2.fa t.d_reached_2.fd ["machines", "room"] (spF (t.G w) (callN tbl n) 34 2)
  f_begin : FnOk P w K mg base CX0 (lv n) t.d_begin.fa t.d_begin.fd ["machines"] (spF (t.G w) (callN tbl n) 35 1)
  f_meets : FnOk P w K mg base CX0 (lv n) t.d_meets.fa t.d_meets.fd ["machines", "states"] (spF (t.G w) (callN tbl n) 36 2)
  f_with_states : FnOk P w K mg base CX0 (lv n) t.d_with_states.fa t.d_with_states.fd ["states", "one", "first", "two", "second"] (spF (t.G w) (callN tbl n) 37 5)
  f_reached : FnOk P w K mg base CX0 (lv n) t.d_reached.fa t.d_reached.fd ["machines"] (spF (t.G w) (callN tbl n) 38 1)
  f_is_over_2 : FnOk P w K mg base CX0 (lv n) t.d_is_over_2.fa t.d_is_over_2.fd ["machines", "states"] (spF (t.G w) (callN tbl n) 39 2)
  f_dead_end : FnOk P w K mg base CX0 (lv n) t.d_dead_end.fa t.d_dead_end.fd ["machines"] (spF (t.G w) (callN tbl n) 40 1)
  f__law_power : FnOk P w K mg base CX0 (lv n) t.d__law_power.fa t.d__law_power.fd ["base", "times"] (spF (t.G w) (callN tbl n) 41 2)
  f_put_for : FnOk P w K mg base CX0 (lv n) t.d_put_for.fa t.d_put_for.fd ["value", "name", "other"] (spF (t.G w) (callN tbl n) 42 3)
  f_opened : FnOk P w K mg base CX0 (lv n) t.d_opened.fa t.d_opened.fd ["value"] (spF (t.G w) (callN tbl n) 43 1)
  f_next_said : FnOk P w K mg base CX0 (lv n) t.d_next_said.fa t.d_next_said.fd ["talk"] (spF (t.G w) (callN tbl n) 44 1)
  f_said_without : FnOk P w K mg base CX0 (lv n) t.d_said_without.fa t.d_said_without.fd ["talk", "busy", "seen"] (spF (t.G w) (callN tbl n) 45 3)
  f_after_said : FnOk P w K mg base CX0 (lv n) t.d_after_said.fa t.d_after_said.fd ["talk", "saying"] (spF (t.G w) (callN tbl n) 46 2)
  f_beside : FnOk P w K mg base CX0 (lv n) t.d_beside.fa t.d_beside.fd ["one", "two"] (spF (t.G w) (callN tbl n) 47 2)
  f_is_over : FnOk P w K mg base CX0 (lv n) t.d_is_over.fa t.d_is_over.fd ["talk"] (spF (t.G w) (callN tbl n) 48 1)
  f_written : FnOk P w K mg base CX0 (lv n) t.d_written.fa t.d_written.fd ["talk"] (spF (t.G w) (callN tbl n) 49 1)
  f_Counter_init : FnOk P w K mg base CX0 (lv n) t.d_Counter_init.fa t.d_Counter_init.fd ["self"] (spF (t.G w) (callN tbl n) 50 1)
  f_Counter_rows : FnOk P w K mg base CX0 (lv n) t.d_Counter_rows.fa t.d_Counter_rows.fd ["self", "talk", "many", "ended"] (spF (t.G w) (callN tbl n) 51 4)
  f_count : FnOk P w K mg base CX0 (lv n) t.d_count.fa t.d_count.fd ["talk", "many", "ended"] (spF (t.G w) (callN tbl n) 52 3)
  f_nth : FnOk P w K mg base CX0 (lv n) t.d_nth.fa t.d_nth.fd ["talk", "many", "number", "ended"] (spF (t.G w) (callN tbl n) 53 4)
  f_number_of : FnOk P w K mg base CX0 (lv n) t.d_number_of.fa t.d_number_of.fd ["talk", "row", "ended"] (spF (t.G w) (callN tbl n) 54 3)
  f_shortest : FnOk P w K mg base CX0 (lv n) t.d_shortest.fa t.d_shortest.fd ["talk"] (spF (t.G w) (callN tbl n) 55 1)
theorem ok__law_same (t : Txt K mg) {n : Nat} (I : Ok t P w base n) : FnOk P w K mg base CX0 (lv (n + 1)) t.d__law_same.fa t.d__law_same.fd ["actual", "due"] (spF (t.G w) (callN tbl (n + 1)) 0 2) := by
  refine fn_ok (O := []) (k := lv n + 1) (body := b__law_same (callN tbl n)) t.d__law_same.fn sc__law_same t.bl rfl rfl rfl (by decide) (lv_ge n) (fun _ _ => rfl) (fun cdv A outer s H E hr c => ?_)
  unfold b__law_same
  exact mss_cons (ms_if (mt_w (mw_or (mt_val (me_isi c kitT_tuple (by rfl) (by rfl) c.b_tuple (by decide +kernel) (me_var 1 (by decide) (pv 1)))) (mw_or1 (mt_val (me_isi c kitT_list (by rfl) (by rfl) c.b_list (by decide +kernel) (me_var 1 (by decide) (pv 1))))))) (mss_cons (ms_if (mt_w (mw_or (mt_c (c_ne c) (me_isi c kitT_tuple (by rfl) (by rfl) c.b_tuple (by decide +kernel) (me_var 1 (by decide) (pv 1))) (me_isi c kitT_tuple (by rfl) (by rfl) c.b_tuple (by decide +kernel) (me_var 0 (by decide) (pv 0)))) (mw_or (mt_c (c_ne c) (me_isi c kitT_list (by rfl) (by rfl) c.b_list (by decide +kernel) (me_var 1 (by decide) (pv 1))) (me_isi c kitT_list (by rfl) (by rfl) c.b_list (by decide +kernel) (me_var 0 (by decide) (pv 0)))) (mw_or1 (mt_c (c_ne c) (me_len c (by rfl) (me_var 0 (by decide) (pv 0))) (me_len c (by rfl) (me_var 1 (by decide) (pv 1)))))))) (mss_one (ms_ret (me_bl))) (mss_nil))
    (mss_one (ms_ret (me_c (c_eq c) (me_len c (by rfl) (me_comp (mf_comp c (own := ([("k", 2)] : List (Str × Nat))) (toc (mi_rg1 c (by rfl) (me_len c (by rfl) (me_var 1 (by decide) (pv 1))))) (blk_ok (by rfl)) rfl (by decide) (by decide) (fun _ _ _ _ _ => tg1) (fun _ _ _ _ _ cb => mts_one (mt_not (mt_val (me_call0 I.f__law_same (hr.mono (Nat.le_succ _)) t.g__law_same t.d__law_same.fn.kp t.d__law_same.bind (ma_cons (me_ix cb (me_var 0 (by decide) (pv 0)) (me_var 2 (by decide) (pv 2))) (ma_cons (me_ix cb (me_var 1 (by decide) (pv 1)) (me_var 2 (by decide) (pv 2))) (ma_nil))) (al_cons (al_cons (al_nil))))))) (fun _ _ _ _ _ cb => me_var 2 (by decide) (pv 2))) eComp_list)) (me_int))))) (mss_nil))
    (mss_cons (ms_if (mt_c (c_is c) (me_var 1 (by decide) (pv 1)) (me_non)) (mss_one (ms_ret (me_c (c_is c) (me_var 0 (by decide) (pv 0)) (me_non)))) (mss_nil))
    (mss_cons (ms_if (mt_w (mw_or (mt_val (me_isi c kitT_bool (by rfl) (by rfl) c.b_bool (by decide +kernel) (me_var 1 (by decide) (pv 1)))) (mw_or1 (mt_val (me_isi c kitT_bool (by rfl) (by rfl) c.b_bool (by decide +kernel) (me_var 0 (by decide) (pv 0))))))) (mss_one (ms_ret (me_and (me_isi c kitT_bool (by rfl) (by rfl) c.b_bool (by decide +kernel) (me_var 1 (by decide) (pv 1))) (me_and (me_isi c kitT_bool (by rfl) (by rfl) c.b_bool (by decide +kernel) (me_var 0 (by decide) (pv 0))) (me_one (me_c (c_eq c) (me_var 0 (by decide) (pv 0)) (me_var 1 (by decide) (pv 1)))))))) (mss_nil))
    (mss_cons (ms_if (mt_val (me_isi c kitT_int (by rfl) (by rfl) c.b_int (by decide +kernel) (me_var 1 (by decide) (pv 1)))) (mss_one (ms_ret (me_and (me_isi c kitT_int (by rfl) (by rfl) c.b_int (by decide +kernel) (me_var 0 (by decide) (pv 0))) (me_one (me_c (c_eq c) (me_var 0 (by decide) (pv 0)) (me_var 1 (by decide) (pv 1))))))) (mss_nil))
    (mss_one (ms_ret (me_and (me_isi c kitT_str (by rfl) (by rfl) c.b_str (by decide +kernel) (me_var 0 (by decide) (pv 0))) (me_and (me_isi c kitT_str (by rfl) (by rfl) c.b_str (by decide +kernel) (me_var 1 (by decide) (pv 1))) (me_one (me_c (c_eq c) (me_var 0 (by decide) (pv 0)) (me_var 1 (by decide) (pv 1)))))))))))
theorem ok__law_pool (t : Txt K mg) {n : Nat} (I : Ok t P w base n) : FnOk P w K mg base CX0 (lv (n + 1)) t.d__law_pool.fa t.d__law_pool.fd ["script"] (spF (t.G w) (callN tbl (n + 1)) 1 1) := by
  refine fn_ok (O := []) (k := lv n + 1) (body := b__law_pool (callN tbl n)) t.d__law_pool.fn sc__law_pool t.bl rfl rfl rfl (by decide) (lv_ge n) (fun _ _ => rfl) (fun cdv A outer s H E hr c => ?_)
  unfold b__law_pool l0__law_pool
  exact mss_cons (ms_set c (by decide) (me_int))
    (mss_cons (ms_for c (by decide) (mi_sq c (me_sl c (me_var 0 (by decide) (pv 0)) (mo_no) (mo_some (me_int)))) (tg1) (mss_one (ms_set c (by decide) (me_mod (me_int_ c (by rfl) (me_add c (me_mul (me_var 1 (by decide) (pv 1)) (me_int)) (me_var 2 (by decide) (pv 2)))) (me_int)))))
    (mss_one (ms_ret (me_cells (ma_cons (PM.fresh (mf_list c (by rfl) (me_var 0 (by decide) (pv 0))) eList_list) (ma_cons (me_int) (ma_cons (me_int) (ma_cons (me_int) (ma_cons (me_var 1 (by decide) (pv 1)) (ma_nil)))))) (al_cons (al_cons (al_cons (al_cons (al_cons (al_nil))))))))))
theorem ok__law_spread (t : Txt K mg) {n : Nat} (I : Ok t P w base n) : FnOk P w K mg base CX0 (lv (n + 1)) t.d__law_spread.fa t.d__law_spread.fd ["cell"] (spF (t.G w) (callN tbl (n + 1)) 2 1) := by
  refine fn_ok (O := []) (k := lv n + 1) (body := b__law_spread (callN tbl n)) t.d__law_spread.fn sc__law_spread t.bl rfl rfl rfl (by decide) (lv_ge n) (fun _ _ => rfl) (fun cdv A outer s H E hr c => ?_)
  unfold b__law_spread l0__law_spread
  exact mss_cons (ms_set c (by decide) (me_mod (me_int_ c (by rfl) (me_var 0 (by decide) (pv 0))) (me_int)))
    (mss_cons (ms_set c (by decide) (me_int))
    (mss_cons (ms_for c (by decide) (mi_rg1 c (by rfl) (me_int)) (tg1) (mss_cons (ms_set c (by decide) (me_mod (me_int_ c (by rfl) (me_add c (me_add c (me_mul (me_var 1 (by decide) (pv 1)) (me_int)) (me_int)) (me_var 3 (by decide) (pv 3)))) (me_int)))
    (mss_one (ms_set c (by decide) (me_add c (me_mul (me_var 2 (by decide) (pv 2)) (me_int)) (me_var 1 (by decide) (pv 1)))))))
    (mss_one (ms_ret (me_var 2 (by decide) (pv 2))))))
theorem ok__law_draw (t : Txt K mg) {n : Nat} (I : Ok t P w base n) : FnOk P w K mg base CX0 (lv (n + 1)) t.d__law_draw.fa t.d__law_draw.fd ["pool", "many"] (spF (t.G w) (callN tbl (n + 1)) 3 2) := by
  refine fn_ok (O := []) (k := lv n + 1) (body := b__law_draw (callN tbl n)) t.d__law_draw.fn sc__law_draw t.bl rfl rfl rfl (by decide) (lv_ge n) (fun _ _ => rfl) (fun cdv A outer s H E hr c => ?_)
  unfold b__law_draw
  exact mss_cons (ms_if (mt_w (mw_and (mt_c (c_le c) (me_ix c (me_var 0 (by decide) (pv 0)) (me_int)) (me_int)) (mw_and1 (mt_c (c_lt c) (me_ix c (me_var 0 (by decide) (pv 0)) (me_int)) (me_len c (by rfl) (me_ix c (me_var 0 (by decide) (pv 0)) (me_int))))))) (mss_cons (ms_set c (by decide) (me_ix c (me_ix c (me_var 0 (by decide) (pv 0)) (me_int)) (me_ix c (me_var 0 (by decide) (pv 0)) (me_int))))
    (mss_cons (ms_cell (me_add c (me_ix c (me_var 0 (by decide) (pv 0)) (me_int)) (me_int)) (me_var 0 (by decide) (pv 0)) (me_int))
    (mss_cons (ms_cell (me_var 2 (by decide) (pv 2)) (me_var 0 (by decide) (pv 0)) (me_int))
    (mss_one (ms_if (mt_c (c_lt c) (me_var 2 (by decide) (pv 2)) (me_int)) (mss_one (ms_cell (me_call0 I.f__law_spread (hr.mono (Nat.le_succ _)) t.g__law_spread t.d__law_spread.fn.kp t.d__law_spread.bind (ma_cons (me_var 2 (by decide) (pv 2)) (ma_nil)) (al_cons (al_nil))) (me_var 0 (by decide) (pv 0)) (me_int))) (mss_nil)))))) (mss_nil))
    (mss_cons (ms_cell (me_add c (me_ix c (me_var 0 (by decide) (pv 0)) (me_int)) (me_int)) (me_var 0 (by decide) (pv 0)) (me_int))
    (mss_cons (ms_if (mt_c (c_le c) (me_ix c (me_var 0 (by decide) (pv 0)) (me_int)) (me_int)) (mss_cons (ms_set c (by decide) (me_mod (me_int_ c (by rfl) (me_add c (me_add c (me_mul (me_ix c (me_var 0 (by decide) (pv 0)) (me_int)) (me_int)) (me_mul (me_ix c (me_var 0 (by decide) (pv 0)) (me_int)) (me_int))) (me_int))) (me_int)))
    (mss_cons (ms_set c (by decide) (me_mod (me_int_ c (by rfl) (me_add c (me_mul (me_var 3 (by decide) (pv 3)) (me_int)) (me_ix c (me_var 0 (by decide) (pv 0)) (me_int)))) (me_int)))
    (mss_one (ms_ret (me_mod (me_fdiv (me_var 3 (by decide) (pv 3)) (me_int)) (me_var 1 (by decide) (pv 1))))))) (mss_nil))
    (mss_cons (ms_set c (by decide) (me_mod (me_int_ c (by rfl) (me_ix c (me_var 0 (by decide) (pv 0)) (me_int))) (me_var 1 (by decide) (pv 1))))
    (mss_cons (ms_cell (me_fdiv (me_ix c (me_var 0 (by decide) (pv 0)) (me_int)) (me_var 1 (by decide) (pv 1))) (me_var 0 (by decide) (pv 0)) (me_int))
    (mss_one (ms_ret (me_var 4 (by decide) (pv 4))))))))
theorem ok__law_shuffled (t : Txt K mg) {n : Nat} (I : Ok t P w base n) : FnOk P w K mg base CX0 (lv (n + 1)) t.d__law_shuffled.fa t.d__law_shuffled.fd ["pool", "items"] (spF (t.G w) (callN tbl (n + 1)) 4 2) := by
  refine fn_ok (O := [2, 3]) (k := lv n + 1) (body := b__law_shuffled (callN tbl n)) t.d__law_shuffled.fn sc__law_shuffled t.bl rfl rfl rfl (by decide) (lv_ge n) (fun _ _ => rfl) (fun cdv A outer s H E hr c => ?_)
  unfold b__law_shuffled l0__law_shuffled
  exact mss_cons (ms_setF c (by decide) (mf_list c (by rfl) (me_var 1 (by decide) (pv 1))) eList_list)
    (mss_cons (ms_setF c (by decide) (mf_lst (ma_nil) (al_nil)) eLst_list)
    (mss_cons (ms_while 100 c (mt_c (c_ne c) (me_own 2 (pv 2)) (me_lst (ma_nil) (al_nil))) (mss_one (ms_popApp c (by decide) (by decide) (by decide) (pv 3) (pv 2) (me_call0 I.f__law_draw (hr.mono (Nat.le_succ _)) t.g__law_draw t.d__law_draw.fn.kp t.d__law_draw.bind (ma_cons (me_var 0 (by decide) (pv 0)) (ma_cons (me_len c (by rfl) (me_own 2 (pv 2))) (ma_nil))) (al_cons (al_cons (al_nil)))))))
    (mss_one (ms_ret (me_var 3 (by decide) (pv 3))))))
theorem ok_size (t : Txt K mg) {n : Nat} (I : Ok t P w base n) : FnOk P w K mg base CX0 (lv (n + 1)) t.d_size.fa t.d_size.fd ["value"] (spF (t.G w) (callN tbl (n + 1)) 5 1) := by
  refine fn_ok (O := []) (k := lv n + 1) (body := b_size (callN tbl n)) t.d_size.fn sc_size t.bl rfl rfl rfl (by decide) (lv_ge n) (fun _ _ => rfl) (fun cdv A outer s H E hr c => ?_)
  unfold b_size
  exact mss_one (ms_ret (me_add c (me_int) (me_sum c (by rfl) (me_comp (mf_comp c (own := ([("part", 1)] : List (Str × Nat))) (toc (mi_sq c (me_call0 I.f_inner (hr.mono (Nat.le_succ _)) t.g_inner_talks t.d_inner.fn.kp t.d_inner.bind (ma_cons (me_var 0 (by decide) (pv 0)) (ma_nil)) (al_cons (al_nil))))) (blk_ok (by rfl)) rfl (by decide) (by decide) (fun _ _ _ _ _ => tg1) (fun _ _ _ _ _ cb => mts_nil) (fun _ _ _ _ _ cb => me_call0 I.f_size (hr.mono (Nat.le_succ _)) t.g_size t.d_size.fn.kp t.d_size.bind (ma_cons (me_var 1 (by decide) (pv 1)) (ma_nil)) (al_cons (al_nil)))) eComp_list))))
theorem ok_law (t : Txt K mg) {n : Nat} (I : Ok t P w base n) : FnOk P w K mg base CX0 (lv (n + 1)) t.d_law.fa t.d_law.fd ["script"] (spF (t.G w) (callN tbl (n + 1)) 6 1) := by
  refine fn_ok (O := [4]) (k := lv n + 1) (body := b_law (callN tbl n)) t.d_law.fn sc_law t.bl rfl rfl rfl (by decide) (lv_ge n) (fun _ _ => rfl) (fun cdv A outer s H E hr c => ?_)
  unfold b_law l3_law l2_law l1_law l0_law
  exact mss_cons (ms_set c (by decide) (me_call0 I.f__law_pool (hr.mono (Nat.le_succ _)) t.g__law_pool t.d__law_pool.fn.kp t.d__law_pool.bind (ma_cons (me_var 0 (by decide) (pv 0)) (ma_nil)) (al_cons (al_nil))))
    (mss_cons (ms_unp c (by decide) (TgOk.t (gs_cons c (gs_cons c (gs_nil))) rfl rfl) (me_tup (ma_cons (me_call0 I.f__law_shuffled (hr.mono (Nat.le_succ _)) t.g__law_shuffled t.d__law_shuffled.fn.kp t.d__law_shuffled.bind (ma_cons (me_var 1 (by decide) (pv 1)) (ma_cons (me_lst (ma_cons (me_int) (ma_cons (me_int) (ma_cons (me_int) (ma_cons (me_int) (ma_nil))))) (al_cons (al_cons (al_cons (al_cons (al_nil)))))) (ma_nil))) (al_cons (al_cons (al_nil)))) (ma_cons (me_comp (mf_comp c (own := ([("k", 5)] : List (Str × Nat))) (toc (mi_rg1 c (by rfl) (me_int))) (blk_ok (by rfl)) rfl (by decide) (by decide) (fun _ _ _ _ _ => tg1) (fun _ _ _ _ _ cb => mts_nil) (fun _ _ _ _ _ cb => me_add cb (me_int) (me_call0 I.f__law_draw (hr.mono (Nat.le_succ _)) t.g__law_draw t.d__law_draw.fn.kp t.d__law_draw.bind (ma_cons (me_var 1 (by decide) (pv 1)) (ma_cons (me_int) (ma_nil))) (al_cons (al_cons (al_nil)))))) eComp_list) (ma_nil))) (al_cons (al_cons (al_nil)))))
    (mss_cons (ms_setF c (by decide) (mf_lst (ma_nil) (al_nil)) eLst_list)
    (mss_cons (ms_for c (by decide) (mi_rg1 c (by rfl) (me_int)) (tg1) (mss_one (ms_append c (by decide) (pv 4) (me_tup (ma_cons (me_str) (ma_cons (me_var 5 (by decide) (pv 5)) (ma_cons (me_tup (ma_cons (me_str) (ma_cons (me_ix c (me_var 2 (by decide) (pv 2)) (me_mul (me_int) (me_var 5 (by decide) (pv 5)))) (ma_cons (me_ix c (me_var 2 (by decide) (pv 2)) (me_add c (me_mul (me_int) (me_var 5 (by decide) (pv 5))) (me_int))) (ma_cons (me_tuple c (by rfl) (me_comp (mf_comp c (own := ([("letter", 17)] : List (Str × Nat))) (toc (mi_rg1 c (by rfl) (me_ix c (me_var 3 (by decide) (pv 3)) (me_var 5 (by decide) (pv 5))))) (blk_ok (by rfl)) rfl (by decide) (by decide) (fun _ _ _ _ _ => tg1) (fun _ _ _ _ _ cb => mts_nil) (fun _ _ _ _ _ cb => me_tup (ma_cons (me_var 17 (by decide) (pv 17)) (ma_cons (me_tup (ma_cons (me_str) (ma_cons (me_var 5 (by decide) (pv 5)) (ma_nil))) (al_cons (al_cons (al_nil)))) (ma_nil))) (al_cons (al_cons (al_nil))))) eComp_list)) (ma_nil))))) (al_cons (al_cons (al_cons (al_cons (al_nil)))))) (ma_nil)))) (al_cons (al_cons (al_cons (al_nil))))))))
    (mss_cons (ms_set c (by decide) (me_tup (ma_cons (me_str) (ma_cons (me_ix c (me_own 4 (pv 4)) (me_int)) (ma_cons (me_ix c (me_own 4 (pv 4)) (me_int)) (ma_nil)))) (al_cons (al_cons (al_cons (al_nil))))))
    (mss_cons (ms_set c (by decide) (me_call0 I.f__law_draw (hr.mono (Nat.le_succ _)) t.g__law_draw t.d__law_draw.fn.kp t.d__law_draw.bind (ma_cons (me_var 1 (by decide) (pv 1)) (ma_cons (me_int) (ma_nil))) (al_cons (al_cons (al_nil)))))
    (mss_cons (ms_if (mt_not (mt_val (me_call0 I.f__law_same (hr.mono (Nat.le_succ _)) t.g__law_same t.d__law_same.fn.kp t.d__law_same.bind (ma_cons (me_lst (ma_cons (me_callD I.f_count (hr.mono (Nat.le_succ _)) t.g_count t.d_count.fn.kp t.d_count.bindD (ma_cons (me_var 6 (by decide) (pv 6)) (ma_cons (me_var 7 (by decide) (pv 7)) (ma_nil))) (al_cons (al_cons (al_nil)))) (ma_cons (me_call0 I.f_count (hr.mono (Nat.le_succ _)) t.g_count t.d_count.fn.kp t.d_count.bind (ma_cons (me_var 6 (by decide) (pv 6)) (ma_cons (me_var 7 (by decide) (pv 7)) (ma_cons (me_bl) (ma_nil)))) (al_cons (al_cons (al_cons (al_nil))))) (ma_cons (me_call0 I.f_shortest (hr.mono (Nat.le_succ _)) t.g_shortest t.d_shortest.fn.kp t.d_shortest.bind (ma_cons (me_var 6 (by decide) (pv 6)) (ma_nil)) (al_cons (al_nil))) (ma_cons (me_call0 I.f_size (hr.mono (Nat.le_succ _)) t.g_size t.d_size.fn.kp t.d_size.bind (ma_cons (me_var 6 (by decide) (pv 6)) (ma_nil)) (al_cons (al_nil))) (ma_nil))))) (al_cons (al_cons (al_cons (al_cons (al_nil)))))) (ma_cons (me_lst (ma_cons (me_call0 I.f__law_power (hr.mono (Nat.le_succ _)) t.g__law_power t.d__law_power.fn.kp t.d__law_power.bind (ma_cons (me_sum c (by rfl) (me_var 3 (by decide) (pv 3))) (ma_cons (me_var 7 (by decide) (pv 7)) (ma_nil))) (al_cons (al_cons (al_nil)))) (ma_cons (me_int) (ma_cons (me_non) (ma_cons (me_add c (me_int) (me_sum c (by rfl) (me_var 3 (by decide) (pv 3)))) (ma_nil))))) (al_cons (al_cons (al_cons (al_cons (al_nil)))))) (ma_nil))) (al_cons (al_cons (al_nil)))))) (mss_one (ms_ret (me_bl))) (mss_nil))
    (mss_cons (ms_for c (by decide) (mi_rg1 c (by rfl) (me_int)) (tg1) (mss_one (ms_if (mt_not (mt_val (me_call0 I.f__law_same (hr.mono (Nat.le_succ _)) t.g__law_same t.d__law_same.fn.kp t.d__law_same.bind (ma_cons (me_call0 I.f_opened (hr.mono (Nat.le_succ _)) t.g_opened_talks t.d_opened.fn.kp t.d_opened.bind (ma_cons (me_ix c (me_own 4 (pv 4)) (me_var 5 (by decide) (pv 5))) (ma_nil)) (al_cons (al_nil))) (ma_cons (me_tup (ma_cons (me_str) (ma_cons (me_ix c (me_var 2 (by decide) (pv 2)) (me_mul (me_int) (me_var 5 (by decide) (pv 5)))) (ma_cons (me_ix c (me_var 2 (by decide) (pv 2)) (me_add c (me_mul (me_int) (me_var 5 (by decide) (pv 5))) (me_int))) (ma_cons (me_tuple c (by rfl) (me_comp (mf_comp c (own := ([("letter", 17)] : List (Str × Nat))) (toc (mi_rg1 c (by rfl) (me_ix c (me_var 3 (by decide) (pv 3)) (me_var 5 (by decide) (pv 5))))) (blk_ok (by rfl)) rfl (by decide) (by decide) (fun _ _ _ _ _ => tg1) (fun _ _ _ _ _ cb => mts_nil) (fun _ _ _ _ _ cb => me_tup (ma_cons (me_var 17 (by decide) (pv 17)) (ma_cons (me_ix cb (me_own 4 (pv 4)) (me_var 5 (by decide) (pv 5))) (ma_nil))) (al_cons (al_cons (al_nil))))) eComp_list)) (ma_nil))))) (al_cons (al_cons (al_cons (al_cons (al_nil)))))) (ma_nil))) (al_cons (al_cons (al_nil)))))) (mss_one (ms_ret (me_bl))) (mss_nil))))
    (mss_cons (ms_set c (by decide) (me_lst (ma_nil) (al_nil)))
    (mss_cons (ms_for c (by decide) (mi_rg1 c (by rfl) (me_int)) (tg1) (mss_one (ms_set c (by decide) (me_add c (me_var 8 (by decide) (pv 8)) (me_comp (mf_comp c (own := ([("letter", 17)] : List (Str × Nat))) (toc (mi_rg1 c (by rfl) (me_ix c (me_var 3 (by decide) (pv 3)) (me_var 5 (by decide) (pv 5))))) (blk_ok (by rfl)) rfl (by decide) (by decide) (fun _ _ _ _ _ => tg1) (fun _ _ _ _ _ cb => mts_nil) (fun _ _ _ _ _ cb => me_tup (ma_cons (me_ix cb (me_var 2 (by decide) (pv 2)) (me_mul (me_int) (me_var 5 (by decide) (pv 5)))) (ma_cons (me_ix cb (me_var 2 (by decide) (pv 2)) (me_add cb (me_mul (me_int) (me_var 5 (by decide) (pv 5))) (me_int))) (ma_cons (me_var 17 (by decide) (pv 17)) (ma_nil)))) (al_cons (al_cons (al_cons (al_nil)))))) eComp_list)))))
    (mss_cons (ms_set c (by decide) (me_sorted c (by rfl) (me_var 8 (by decide) (pv 8))))
    (mss_cons (ms_set c (by decide) (me_call0 I.f__law_draw (hr.mono (Nat.le_succ _)) t.g__law_draw t.d__law_draw.fn.kp t.d__law_draw.bind (ma_cons (me_var 1 (by decide) (pv 1)) (ma_cons (me_call0 I.f__law_power (hr.mono (Nat.le_succ _)) t.g__law_power t.d__law_power.fn.kp t.d__law_power.bind (ma_cons (me_sum c (by rfl) (me_var 3 (by decide) (pv 3))) (ma_cons (me_var 7 (by decide) (pv 7)) (ma_nil))) (al_cons (al_cons (al_nil)))) (ma_nil))) (al_cons (al_cons (al_nil)))))
    (mss_cons (ms_par c (by decide) (by decide) (ma_cons (me_tup (ma_nil) (al_nil)) (ma_cons (me_var 9 (by decide) (pv 9)) (ma_nil))) (al_cons (al_cons (al_nil))))
    (mss_cons (ms_for c (by decide) (mi_rg1 c (by rfl) (me_var 7 (by decide) (pv 7))) (tg1) (mss_one (ms_par c (by decide) (by decide) (ma_cons (me_add c (me_tup (ma_cons (me_ix c (me_var 8 (by decide) (pv 8)) (me_mod (me_int_ c (by rfl) (me_var 11 (by decide) (pv 11))) (me_sum c (by rfl) (me_var 3 (by decide) (pv 3))))) (ma_nil)) (al_cons (al_nil))) (me_var 10 (by decide) (pv 10))) (ma_cons (me_fdiv (me_var 11 (by decide) (pv 11)) (me_sum c (by rfl) (me_var 3 (by decide) (pv 3)))) (ma_nil))) (al_cons (al_cons (al_nil))))))
    (mss_cons (ms_if (mt_not (mt_val (me_call0 I.f__law_same (hr.mono (Nat.le_succ _)) t.g__law_same t.d__law_same.fn.kp t.d__law_same.bind (ma_cons (me_lst (ma_cons (me_callD I.f_nth (hr.mono (Nat.le_succ _)) t.g_nth t.d_nth.fn.kp t.d_nth.bindD (ma_cons (me_var 6 (by decide) (pv 6)) (ma_cons (me_var 7 (by decide) (pv 7)) (ma_cons (me_var 9 (by decide) (pv 9)) (ma_nil)))) (al_cons (al_cons (al_cons (al_nil))))) (ma_cons (me_callD I.f_number_of (hr.mono (Nat.le_succ _)) t.g_number_of t.d_number_of.fn.kp t.d_number_of.bindD (ma_cons (me_var 6 (by decide) (pv 6)) (ma_cons (me_var 10 (by decide) (pv 10)) (ma_nil))) (al_cons (al_cons (al_nil)))) (ma_nil))) (al_cons (al_cons (al_nil)))) (ma_cons (me_lst (ma_cons (me_var 10 (by decide) (pv 10)) (ma_cons (me_var 9 (by decide) (pv 9)) (ma_nil))) (al_cons (al_cons (al_nil)))) (ma_nil))) (al_cons (al_cons (al_nil)))))) (mss_one (ms_ret (me_bl))) (mss_nil))
    (mss_cons (ms_set c (by decide) (me_tuple c (by rfl) (me_comp (mf_comp c (own := ([("part", 16)] : List (Str × Nat))) (toc (mi_sq c (me_call0 I.f_parts (hr.mono (Nat.le_succ _)) t.g_parts t.d_parts.fn.kp t.d_parts.bind (ma_cons (me_var 6 (by decide) (pv 6)) (ma_nil)) (al_cons (al_nil))))) (blk_ok (by rfl)) rfl (by decide) (by decide) (fun _ _ _ _ _ => tg1) (fun _ _ _ _ _ cb => mts_nil) (fun _ _ _ _ _ cb => me_call0 I.f_machine_of (hr.mono (Nat.le_succ _)) t.g_machine_of t.d_machine_of.fn.kp t.d_machine_of.bind (ma_cons (me_var 16 (by decide) (pv 16)) (ma_nil)) (al_cons (al_nil)))) eComp_list)))
    (mss_cons (ms_set c (by decide) (me_add c (me_int) (me_call0 I.f__law_draw (hr.mono (Nat.le_succ _)) t.g__law_draw t.d__law_draw.fn.kp t.d__law_draw.bind (ma_cons (me_var 1 (by decide) (pv 1)) (ma_cons (me_int) (ma_nil))) (al_cons (al_cons (al_nil))))))
    (mss_cons (ms_setLc c (by decide) (own := ([("size_of_v", 15)] : List (Str × Nat))) (toc (mi_sq c (me_var 3 (by decide) (pv 3)))) (blk_ok (by rfl)) rfl (by decide) (by decide) (fun _ _ _ _ _ => tg1) (fun _ _ _ _ _ cb => mts_nil) (fun _ _ _ _ _ cb => me_sum cb (by rfl) (me_comp (mf_comp cb (own := ([("k", 5)] : List (Str × Nat))) (toc (mi_rg1 cb (by rfl) (me_add cb (me_var 13 (by decide) (pv 13)) (me_int)))) (blk_ok (by rfl)) rfl (by decide) (by decide) (fun _ _ _ _ _ => tg1) (fun _ _ _ _ _ cbb => mts_nil) (fun _ _ _ _ _ cbb => me_call0 I.f__law_power (hr.mono (Nat.le_succ _)) t.g__law_power t.d__law_power.fn.kp t.d__law_power.bind (ma_cons (me_var 15 (by decide) (pv 15)) (ma_cons (me_var 5 (by decide) (pv 5)) (ma_nil))) (al_cons (al_cons (al_nil))))) eComp_list)) (by rfl))
    (mss_cons (ms_if (mt_not (mt_val (me_call0 I.f__law_same (hr.mono (Nat.le_succ _)) t.g__law_same t.d__law_same.fn.kp t.d__law_same.bind (ma_cons (me_lst (ma_cons (me_comp (mf_comp c (own := ([("machine", 18)] : List (Str × Nat))) (toc (mi_sq c (me_var 12 (by decide) (pv 12)))) (blk_ok (by rfl)) rfl (by decide) (by decide) (fun _ _ _ _ _ => tg1) (fun _ _ _ _ _ cb => mts_nil) (fun _ _ _ _ _ cb => me_ix cb (me_var 18 (by decide) (pv 18)) (me_int))) eComp_list) (ma_cons (me_len c (by rfl) (me_call0 I.f_reached (hr.mono (Nat.le_succ _)) t.g_reached_handshakes t.d_reached.fn.kp t.d_reached.bind (ma_cons (me_var 12 (by decide) (pv 12)) (ma_nil)) (al_cons (al_nil)))) (ma_cons (me_len c (by rfl) (me_call0 I.f_reached_2 (hr.mono (Nat.le_succ _)) t.g_reached_letters t.d_reached_2.fn.kp t.d_reached_2.bind (ma_cons (me_var 12 (by decide) (pv 12)) (ma_cons (me_var 13 (by decide) (pv 13)) (ma_nil))) (al_cons (al_cons (al_nil))))) (ma_cons (me_call0 I.f_trouble (hr.mono (Nat.le_succ _)) t.g_trouble t.d_trouble.fn.kp t.d_trouble.bind (ma_cons (me_var 12 (by decide) (pv 12)) (ma_cons (me_var 13 (by decide) (pv 13)) (ma_nil))) (al_cons (al_cons (al_nil)))) (ma_cons (me_call0 I.f_dead_end (hr.mono (Nat.le_succ _)) t.g_dead_end t.d_dead_end.fn.kp t.d_dead_end.bind (ma_cons (me_var 12 (by decide) (pv 12)) (ma_nil)) (al_cons (al_nil))) (ma_nil)))))) (al_cons (al_cons (al_cons (al_cons (al_cons (al_nil))))))) (ma_cons (me_lst (ma_cons (me_lst (ma_cons (me_int) (ma_cons (me_int) (ma_cons (me_int) (ma_cons (me_int) (ma_nil))))) (al_cons (al_cons (al_cons (al_cons (al_nil)))))) (ma_cons (me_int) (ma_cons (me_mul (me_ix c (me_var 14 (by decide) (pv 14)) (me_int)) (me_ix c (me_var 14 (by decide) (pv 14)) (me_int))) (ma_cons (me_non) (ma_cons (me_non) (ma_nil)))))) (al_cons (al_cons (al_cons (al_cons (al_cons (al_nil))))))) (ma_nil))) (al_cons (al_cons (al_nil)))))) (mss_one (ms_ret (me_bl))) (mss_nil))
    (mss_one (ms_ret (me_and (me_c (c_eq c) (me_call0 I.f_states_in (hr.mono (Nat.le_succ _)) t.g_states_in t.d_states_in.fn.kp t.d_states_in.bind (ma_cons (me_var 6 (by decide) (pv 6)) (ma_nil)) (al_cons (al_nil))) (me_int)) (me_one (me_not (me_call0 I.f_is_over_2 (hr.mono (Nat.le_succ _)) t.g_is_over_handshakes t.d_is_over_2.fn.kp t.d_is_over_2.bind (ma_cons (me_var 12 (by decide) (pv 12)) (ma_cons (me_ix c (me_call0 I.f_reached (hr.mono (Nat.le_succ _)) t.g_reached_handshakes t.d_reached.fn.kp t.d_reached.bind (ma_cons (me_var 12 (by decide) (pv 12)) (ma_nil)) (al_cons (al_nil))) (me_int)) (ma_nil))) (al_cons (al_cons (al_nil)))))))))))))))))))))))))))
theorem ok_Parter_init (t : Txt K mg) {n : Nat} (I : Ok t P w base n) : FnOk P w K mg base CX0 (lv (n + 1)) t.d_Parter_init.fa t.d_Parter_init.fd ["self", "role"] (spF (t.G w) (callN tbl (n + 1)) 7 2) := by
  refine fn_ok (O := []) (k := lv n + 1) (body := b_Parter_init (callN tbl n)) t.d_Parter_init.fn sc_Parter_init t.bl rfl rfl rfl (by decide) (lv_ge n) (fun _ _ => rfl) (fun cdv A outer s H E hr c => ?_)
  unfold b_Parter_init
  exact mss_cons (ms_fld t.cl_Parter t.n_Parter_role (by exact (show (["role", "trouble"] : List Str).Nodup by decide +kernel)) (i := 0) rfl (by exact (show (["role", "trouble"] : List Str).length < 1000 by decide +kernel)) (me_var 1 (by decide) (pv 1)) (me_var 0 (by decide) (pv 0)) (by rfl))
    (mss_one (ms_fld t.cl_Parter t.n_Parter_trouble (by exact (show (["role", "trouble"] : List Str).Nodup by decide +kernel)) (i := 1) rfl (by exact (show (["role", "trouble"] : List Str).length < 1000 by decide +kernel)) (me_non) (me_var 0 (by decide) (pv 0)) (by rfl)))
theorem ok_Parter_part (t : Txt K mg) {n : Nat} (I : Ok t P w base n) : FnOk P w K mg base CX0 (lv (n + 1)) t.d_Parter_part.fa t.d_Parter_part.fd ["self", "value", "number"] (spF (t.G w) (callN tbl (n + 1)) 8 3) := by
  refine fn_ok (O := []) (k := lv n + 1) (body := b_Parter_part (callN tbl n)) t.d_Parter_part.fn sc_Parter_part t.bl rfl rfl rfl (by decide) (lv_ge n) (fun _ _ => rfl) (fun cdv A outer s H E hr c => ?_)
  unfold b_Parter_part
  exact mss_cons (ms_if (mt_c (c_in c) (me_ix c (me_var 1 (by decide) (pv 1)) (me_int)) (me_tup (ma_cons (me_str) (ma_cons (me_str) (ma_nil))) (al_cons (al_cons (al_nil))))) (mss_one (ms_ret (me_var 1 (by decide) (pv 1)))) (mss_nil))
    (mss_cons (ms_if (mt_c (c_eq c) (me_ix c (me_var 1 (by decide) (pv 1)) (me_int)) (me_str)) (mss_one (ms_ret (me_meth0 I.f_Parter_of_loop (hr.mono (Nat.le_succ _)) t.cl_Parter t.meth_Parter_of_loop t.d_Parter_of_loop.bind (by exact (show ¬ ("of_loop" : Str) ∈ (["role", "trouble"] : List Str) by decide +kernel)) (me_var 0 (by decide) (pv 0)) (ma_cons (me_var 1 (by decide) (pv 1)) (ma_cons (me_var 2 (by decide) (pv 2)) (ma_nil))) (al_cons (al_cons (al_nil)))))) (mss_nil))
    (mss_cons (ms_if (mt_c (c_eq c) (me_ix c (me_var 1 (by decide) (pv 1)) (me_int)) (me_str)) (mss_cons (ms_set c (by decide) (me_meth0 I.f_Parter_part (hr.mono (Nat.le_succ _)) t.cl_Parter t.meth_Parter_part t.d_Parter_part.bind (by exact (show ¬ ("part" : Str) ∈ (["role", "trouble"] : List Str) by decide +kernel)) (me_var 0 (by decide) (pv 0)) (ma_cons (me_ix c (me_var 1 (by decide) (pv 1)) (me_int)) (ma_cons (me_add c (me_var 2 (by decide) (pv 2)) (me_int)) (ma_nil))) (al_cons (al_cons (al_nil)))))
    (mss_cons (ms_set c (by decide) (me_meth0 I.f_Parter_part (hr.mono (Nat.le_succ _)) t.cl_Parter t.meth_Parter_part t.d_Parter_part.bind (by exact (show ¬ ("part" : Str) ∈ (["role", "trouble"] : List Str) by decide +kernel)) (me_var 0 (by decide) (pv 0)) (ma_cons (me_ix c (me_var 1 (by decide) (pv 1)) (me_int)) (ma_cons (me_add c (me_add c (me_var 2 (by decide) (pv 2)) (me_int)) (me_call0 I.f_size_of (hr.mono (Nat.le_succ _)) t.g_size_of t.d_size_of.fn.kp t.d_size_of.bind (ma_cons (me_ix c (me_var 1 (by decide) (pv 1)) (me_int)) (ma_nil)) (al_cons (al_nil)))) (ma_nil))) (al_cons (al_cons (al_nil)))))
    (mss_one (ms_ret (me_if (mt_c (c_in c) (me_fld c.hK t.cl_Parter t.n_Parter_role (by exact (show (["role", "trouble"] : List Str).Nodup by decide +kernel)) (i := 0) rfl (me_var 0 (by decide) (pv 0))) (me_call0 I.f_roles_in (hr.mono (Nat.le_succ _)) t.g_roles_in t.d_roles_in.fn.kp t.d_roles_in.bind (ma_cons (me_ix c (me_var 1 (by decide) (pv 1)) (me_int)) (ma_nil)) (al_cons (al_nil)))) (me_var 4 (by decide) (pv 4)) (me_var 3 (by decide) (pv 3))))))) (mss_nil))
    (mss_one (ms_ret (me_meth0 I.f_Parter_of_saying (hr.mono (Nat.le_succ _)) t.cl_Parter t.meth_Parter_of_saying t.d_Parter_of_saying.bind (by exact (show ¬ ("of_saying" : Str) ∈ (["role", "trouble"] : List Str) by decide +kernel)) (me_var 0 (by decide) (pv 0)) (ma_cons (me_var 1 (by decide) (pv 1)) (ma_cons (me_var 2 (by decide) (pv 2)) (ma_nil))) (al_cons (al_cons (al_nil))))))))
theorem ok_Parter_of_saying (t : Txt K mg) {n : Nat} (I : Ok t P w base n) : FnOk P w K mg base CX0 (lv (n + 1)) t.d_Parter_of_saying.fa t.d_Parter_of_saying.fd ["self", "value", "number"] (spF (t.G w) (callN tbl (n + 1)) 9 3) := by
  refine fn_ok (O := [4]) (k := lv n + 1) (body := b_Parter_of_saying (callN tbl n)) t.d_Parter_of_saying.fn sc_Parter_of_saying t.bl rfl rfl rfl (by decide) (lv_ge n) (fun _ _ => rfl) (fun cdv A outer s H E hr c => ?_)
  unfold b_Parter_of_saying l1_Parter_of_saying l0_Parter_of_saying
  exact mss_cons (ms_set c (by decide) (me_var 2 (by decide) (pv 2)))
    (mss_cons (ms_setF c (by decide) (mf_lst (ma_nil) (al_nil)) eLst_list)
    (mss_cons (ms_augAdd c (by decide) (me_int))
    (mss_cons (ms_for c (by decide) (mi_sq c (me_ix c (me_var 1 (by decide) (pv 1)) (me_int))) (TgOk.t (gs_cons c (gs_cons c (gs_nil))) rfl rfl) (mss_cons (ms_append c (by decide) (pv 4) (me_tup (ma_cons (me_var 5 (by decide) (pv 5)) (ma_cons (me_meth0 I.f_Parter_part (hr.mono (Nat.le_succ _)) t.cl_Parter t.meth_Parter_part t.d_Parter_part.bind (by exact (show ¬ ("part" : Str) ∈ (["role", "trouble"] : List Str) by decide +kernel)) (me_var 0 (by decide) (pv 0)) (ma_cons (me_var 6 (by decide) (pv 6)) (ma_cons (me_var 2 (by decide) (pv 2)) (ma_nil))) (al_cons (al_cons (al_nil)))) (ma_nil))) (al_cons (al_cons (al_nil)))))
    (mss_one (ms_augAdd c (by decide) (me_call0 I.f_size_of (hr.mono (Nat.le_succ _)) t.g_size_of t.d_size_of.fn.kp t.d_size_of.bind (ma_cons (me_var 6 (by decide) (pv 6)) (ma_nil)) (al_cons (al_nil)))))))
    (mss_cons (ms_if (mt_val (me_any c (by rfl) (me_comp (mf_comp c (own := ([("_", 8), ("part", 9)] : List (Str × Nat))) (mi_own c (me_own 4 (pv 4))) (blk_ok (by rfl)) rfl (by decide) (by decide) (fun s_ H_ C_ l_ f_ => TgOk.t (gs_cons (c.blk s_ H_ _ _ f_) (gs_cons (c.blk s_ H_ _ _ f_) (gs_nil))) rfl rfl) (fun _ _ _ _ _ cb => mts_nil) (fun _ _ _ _ _ cb => me_c (c_is cb) (me_var 9 (by decide) (pv 9)) (me_non))) eComp_list))) (mss_one (ms_ret (me_non))) (mss_nil))
    (mss_cons (ms_if (mt_c (c_eq c) (me_fld c.hK t.cl_Parter t.n_Parter_role (by exact (show (["role", "trouble"] : List Str).Nodup by decide +kernel)) (i := 0) rfl (me_var 0 (by decide) (pv 0))) (me_ix c (me_var 1 (by decide) (pv 1)) (me_int))) (mss_one (ms_ret (me_tup (ma_cons (me_str) (ma_cons (me_ix c (me_var 1 (by decide) (pv 1)) (me_int)) (ma_cons (me_tuple c (by rfl) (me_var 4 (by decide) (pv 4))) (ma_nil)))) (al_cons (al_cons (al_cons (al_nil))))))) (mss_nil))
    (mss_cons (ms_if (mt_c (c_eq c) (me_fld c.hK t.cl_Parter t.n_Parter_role (by exact (show (["role", "trouble"] : List Str).Nodup by decide +kernel)) (i := 0) rfl (me_var 0 (by decide) (pv 0))) (me_ix c (me_var 1 (by decide) (pv 1)) (me_int))) (mss_one (ms_ret (me_tup (ma_cons (me_str) (ma_cons (me_ix c (me_var 1 (by decide) (pv 1)) (me_int)) (ma_cons (me_tuple c (by rfl) (me_var 4 (by decide) (pv 4))) (ma_nil)))) (al_cons (al_cons (al_cons (al_nil))))))) (mss_nil))
    (mss_cons (ms_set c (by decide) (me_ix c (me_ix c (me_own 4 (pv 4)) (me_int)) (me_int)))
    (mss_cons (ms_for c (by decide) (mi_sq c (me_sl c (me_own 4 (pv 4)) (mo_some (me_int)) (mo_no))) (TgOk.t (gs_cons c (gs_cons c (gs_nil))) rfl rfl) (mss_one (ms_set c (by decide) (me_if (mt_c (c_isNot c) (me_var 7 (by decide) (pv 7)) (me_non)) (me_never) (me_non)))))
    (mss_one (ms_ret (me_if (mt_c (c_is c) (me_var 7 (by decide) (pv 7)) (me_non)) (me_meth0 I.f_Parter_none_at (hr.mono (Nat.le_succ _)) t.cl_Parter t.meth_Parter_none_at t.d_Parter_none_at.bind (by exact (show ¬ ("none_at" : Str) ∈ (["role", "trouble"] : List Str) by decide +kernel)) (me_var 0 (by decide) (pv 0)) (ma_cons (me_var 3 (by decide) (pv 3)) (ma_nil)) (al_cons (al_nil))) (me_var 7 (by decide) (pv 7)))))))))))))
theorem ok_size_of (t : Txt K mg) {n : Nat} (I : Ok t P w base n) : FnOk P w K mg base CX0 (lv (n + 1)) t.d_size_of.fa t.d_size_of.fd ["talk"] (spF (t.G w) (callN tbl (n + 1)) 10 1) := by
  refine fn_ok (O := []) (k := lv n + 1) (body := b_size_of (callN tbl n)) t.d_size_of.fn sc_size_of t.bl rfl rfl rfl (by decide) (lv_ge n) (fun _ _ => rfl) (fun cdv A outer s H E hr c => ?_)
  unfold b_size_of
  exact mss_cons (ms_if (mt_c (c_eq c) (me_ix c (me_var 0 (by decide) (pv 0)) (me_int)) (me_str)) (mss_one (ms_ret (me_add c (me_int) (me_sum c (by rfl) (me_comp (mf_comp c (own := ([("_", 1), ("after", 2)] : List (Str × Nat))) (toc (mi_sq c (me_ix c (me_var 0 (by decide) (pv 0)) (me_int)))) (blk_ok (by rfl)) rfl (by decide) (by decide) (fun s_ H_ C_ l_ f_ => TgOk.t (gs_cons (c.blk s_ H_ _ _ f_) (gs_cons (c.blk s_ H_ _ _ f_) (gs_nil))) rfl rfl) (fun _ _ _ _ _ cb => mts_nil) (fun _ _ _ _ _ cb => me_call0 I.f_size_of (hr.mono (Nat.le_succ _)) t.g_size_of t.d_size_of.fn.kp t.d_size_of.bind (ma_cons (me_var 2 (by decide) (pv 2)) (ma_nil)) (al_cons (al_nil)))) eComp_list))))) (mss_nil))
    (mss_cons (ms_if (mt_c (c_eq c) (me_ix c (me_var 0 (by decide) (pv 0)) (me_int)) (me_str)) (mss_one (ms_ret (me_add c (me_add c (me_int) (me_call0 I.f_size_of (hr.mono (Nat.le_succ _)) t.g_size_of t.d_size_of.fn.kp t.d_size_of.bind (ma_cons (me_ix c (me_var 0 (by decide) (pv 0)) (me_int)) (ma_nil)) (al_cons (al_nil)))) (me_call0 I.f_size_of (hr.mono (Nat.le_succ _)) t.g_size_of t.d_size_of.fn.kp t.d_size_of.bind (ma_cons (me_ix c (me_var 0 (by decide) (pv 0)) (me_int)) (ma_nil)) (al_cons (al_nil)))))) (mss_nil))
    (mss_one (ms_ret (me_if (mt_c (c_eq c) (me_ix c (me_var 0 (by decide) (pv 0)) (me_int)) (me_str)) (me_add c (me_int) (me_call0 I.f_size_of (hr.mono (Nat.le_succ _)) t.g_size_of t.d_size_of.fn.kp t.d_size_of.bind (ma_cons (me_ix c (me_var 0 (by decide) (pv 0)) (me_int)) (ma_nil)) (al_cons (al_nil)))) (me_int)))))
theorem ok_parted (t : Txt K mg) {n : Nat} (I : Ok t P w base n) : FnOk P w K mg base CX0 (lv (n + 1)) t.d_parted.fa t.d_parted.fd ["talk", "role"] (spF (t.G w) (callN tbl (n + 1)) 11 2) := by
  refine fn_ok (O := []) (k := lv n + 1) (body := b_parted (callN tbl n)) t.d_parted.fn sc_parted t.bl rfl rfl rfl (by decide) (lv_ge n) (fun _ _ => rfl) (fun cdv A outer s H E hr c => ?_)
  unfold b_parted
  exact mss_cons (ms_set c (by decide) (me_make0_ I.f_Parter_init (hr.mono (Nat.le_refl _)) t.mk_Parter t.m_Parter t.d_Parter_init.bind (ma_cons (me_var 1 (by decide) (pv 1)) (ma_nil)) (al_cons (al_nil))))
    (mss_cons (ms_set c (by decide) (me_meth0 I.f_Parter_part (hr.mono (Nat.le_succ _)) t.cl_Parter t.meth_Parter_part t.d_Parter_part.bind (by exact (show ¬ ("part" : Str) ∈ (["role", "trouble"] : List Str) by decide +kernel)) (me_var 2 (by decide) (pv 2)) (ma_cons (me_var 0 (by decide) (pv 0)) (ma_cons (me_int) (ma_nil))) (al_cons (al_cons (al_nil)))))
    (mss_one (ms_ret (me_if (mt_c (c_is c) (me_fld c.hK t.cl_Parter t.n_Parter_trouble (by exact (show (["role", "trouble"] : List Str).Nodup by decide +kernel)) (i := 1) rfl (me_var 2 (by decide) (pv 2))) (me_non)) (me_tup (ma_cons (me_var 3 (by decide) (pv 3)) (ma_cons (me_non) (ma_nil))) (al_cons (al_cons (al_nil)))) (me_tup (ma_cons (me_non) (ma_cons (me_fld c.hK t.cl_Parter t.n_Parter_trouble (by exact (show (["role", "trouble"] : List Str).Nodup by decide +kernel)) (i := 1) rfl (me_var 2 (by decide) (pv 2))) (ma_nil))) (al_cons (al_cons (al_nil))))))))
theorem ok_parts (t : Txt K mg) {n : Nat} (I : Ok t P w base n) : FnOk P w K mg base CX0 (lv (n + 1)) t.d_parts.fa t.d_parts.fd ["talk"] (spF (t.G w) (callN tbl (n + 1)) 12 1) := by
  refine fn_ok (O := []) (k := lv n + 1) (body := b_parts (callN tbl n)) t.d_parts.fn sc_parts t.bl rfl rfl rfl (by decide) (lv_ge n) (fun _ _ => rfl) (fun cdv A outer s H E hr c => ?_)
  unfold b_parts
  exact mss_cons (ms_setLc c (by decide) (own := ([("role", 2)] : List (Str × Nat))) (toc (mi_rg1 c (by rfl) (me_int))) (blk_ok (by rfl)) rfl (by decide) (by decide) (fun _ _ _ _ _ => tg1) (fun _ _ _ _ _ cb => mts_nil) (fun _ _ _ _ _ cb => me_ix cb (me_call0 I.f_parted (hr.mono (Nat.le_succ _)) t.g_parted t.d_parted.fn.kp t.d_parted.bind (ma_cons (me_var 0 (by decide) (pv 0)) (ma_cons (me_var 2 (by decide) (pv 2)) (ma_nil))) (al_cons (al_cons (al_nil)))) (me_int)) (by rfl))
    (mss_one (ms_ret (me_if (mt_val (me_any c (by rfl) (me_comp (mf_comp c (own := ([("part", 3)] : List (Str × Nat))) (toc (mi_sq c (me_var 1 (by decide) (pv 1)))) (blk_ok (by rfl)) rfl (by decide) (by decide) (fun _ _ _ _ _ => tg1) (fun _ _ _ _ _ cb => mts_nil) (fun _ _ _ _ _ cb => me_c (c_is cb) (me_var 3 (by decide) (pv 3)) (me_non))) eComp_list))) (me_non) (me_var 1 (by decide) (pv 1)))))
theorem ok_opened_2 (t : Txt K mg) {n : Nat} (I : Ok t P w base n) : FnOk P w K mg base CX0 (lv (n + 1)) t.d_opened_2.fa t.d_opened_2.fd ["value"] (spF (t.G w) (callN tbl (n + 1)) 13 1) := by
  refine fn_ok (O := []) (k := lv n + 1) (body := b_opened_2 (callN tbl n)) t.d_opened_2.fn sc_opened_2 t.bl rfl rfl rfl (by decide) (lv_ge n) (fun _ _ => rfl) (fun cdv A outer s H E hr c => ?_)
  unfold b_opened_2 l0_opened_2
  exact mss_cons (ms_while 10 c (mt_c (c_eq c) (me_ix c (me_var 0 (by decide) (pv 0)) (me_int)) (me_str)) (mss_one (ms_set c (by decide) (me_call0 I.f_put_for_2 (hr.mono (Nat.le_succ _)) t.g_put_for_shares t.d_put_for_2.fn.kp t.d_put_for_2.bind (ma_cons (me_ix c (me_var 0 (by decide) (pv 0)) (me_int)) (ma_cons (me_ix c (me_var 0 (by decide) (pv 0)) (me_int)) (ma_cons (me_var 0 (by decide) (pv 0)) (ma_nil)))) (al_cons (al_cons (al_cons (al_nil))))))))
    (mss_one (ms_ret (me_var 0 (by decide) (pv 0))))
theorem ok_steps_from (t : Txt K mg) {n : Nat} (I : Ok t P w base n) : FnOk P w K mg base CX0 (lv (n + 1)) t.d_steps_from.fa t.d_steps_from.fd ["machine", "state"] (spF (t.G w) (callN tbl (n + 1)) 14 2) := by
  refine fn_ok (O := []) (k := lv n + 1) (body := b_steps_from (callN tbl n)) t.d_steps_from.fn sc_steps_from t.bl rfl rfl rfl (by decide) (lv_ge n) (fun _ _ => rfl) (fun cdv A outer s H E hr c => ?_)
  unfold b_steps_from
  exact mss_one (ms_ret (me_comp (mf_comp c (own := ([("step", 2)] : List (Str × Nat))) (toc (mi_sq c (me_ix c (me_var 0 (by decide) (pv 0)) (me_int)))) (blk_ok (by rfl)) rfl (by decide) (by decide) (fun _ _ _ _ _ => tg1) (fun _ _ _ _ _ cb => mts_one (mt_c (c_eq cb) (me_ix cb (me_var 2 (by decide) (pv 2)) (me_int)) (me_var 1 (by decide) (pv 1)))) (fun _ _ _ _ _ cb => me_var 2 (by decide) (pv 2))) eComp_list))
theorem ok_machine_of (t : Txt K mg) {n : Nat} (I : Ok t P w base n) : FnOk P w K mg base CX0 (lv (n + 1)) t.d_machine_of.fa t.d_machine_of.fd ["part"] (spF (t.G w) (callN tbl (n + 1)) 15 1) := by
  refine fn_ok (O := [1, 2]) (k := lv n + 1) (body := b_machine_of (callN tbl n)) t.d_machine_of.fn sc_machine_of t.bl rfl rfl rfl (by decide) (lv_ge n) (fun _ _ => rfl) (fun cdv A outer s H E hr c => ?_)
  unfold b_machine_of l1_machine_of l0_machine_of
  exact mss_cons (ms_setF c (by decide) (mf_lst (ma_cons (me_call0 I.f_opened_2 (hr.mono (Nat.le_succ _)) t.g_opened_shares t.d_opened_2.fn.kp t.d_opened_2.bind (ma_cons (me_var 0 (by decide) (pv 0)) (ma_nil)) (al_cons (al_nil))) (ma_nil)) (al_cons (al_nil))) eLst_list)
    (mss_cons (ms_setF c (by decide) (mf_lst (ma_nil) (al_nil)) eLst_list)
    (mss_cons (ms_set c (by decide) (me_int))
    (mss_cons (ms_while 1000 c (mt_c (c_lt c) (me_var 3 (by decide) (pv 3)) (me_len c (by rfl) (me_own 1 (pv 1)))) (mss_cons (ms_set c (by decide) (me_ix c (me_own 1 (pv 1)) (me_var 3 (by decide) (pv 3))))
    (mss_cons (ms_for c (by decide) (mi_sq c (me_if (mt_c (c_ne c) (me_ix c (me_var 4 (by decide) (pv 4)) (me_int)) (me_str)) (me_ix c (me_var 4 (by decide) (pv 4)) (me_int)) (me_tup (ma_nil) (al_nil)))) (TgOk.t (gs_cons c (gs_cons c (gs_nil))) rfl rfl) (mss_cons (ms_set c (by decide) (me_call0 I.f_opened_2 (hr.mono (Nat.le_succ _)) t.g_opened_shares t.d_opened_2.fn.kp t.d_opened_2.bind (ma_cons (me_var 6 (by decide) (pv 6)) (ma_nil)) (al_cons (al_nil))))
    (mss_cons (ms_if (mt_c (c_notIn c) (me_var 6 (by decide) (pv 6)) (me_own 1 (pv 1))) (mss_one (ms_append c (by decide) (pv 1) (me_var 6 (by decide) (pv 6)))) (mss_nil))
    (mss_one (ms_append c (by decide) (pv 2) (me_tup (ma_cons (me_var 3 (by decide) (pv 3)) (ma_cons (me_ix c (me_var 4 (by decide) (pv 4)) (me_int)) (ma_cons (me_ix c (me_var 4 (by decide) (pv 4)) (me_int)) (ma_cons (me_var 5 (by decide) (pv 5)) (ma_cons (me_index c (me_own 1 (pv 1)) (me_var 6 (by decide) (pv 6))) (ma_nil)))))) (al_cons (al_cons (al_cons (al_cons (al_cons (al_nil))))))))))))
    (mss_one (ms_augAdd c (by decide) (me_int))))))
    (mss_one (ms_ret (me_tup (ma_cons (me_len c (by rfl) (me_var 1 (by decide) (pv 1))) (ma_cons (me_tuple c (by rfl) (me_sorted c (by rfl) (me_var 2 (by decide) (pv 2)))) (ma_nil))) (al_cons (al_cons (al_nil)))))))))
theorem ok_begin_2 (t : Txt K mg) {n : Nat} (I : Ok t P w base n) : FnOk P w K mg base CX0 (lv (n + 1)) t.d_begin_2.fa t.d_begin_2.fd ["machines"] (spF (t.G w) (callN tbl (n + 1)) 16 1) := by
  refine fn_ok (O := []) (k := lv n + 1) (body := b_begin_2 (callN tbl n)) t.d_begin_2.fn sc_begin_2 t.bl rfl rfl rfl (by decide) (lv_ge n) (fun _ _ => rfl) (fun cdv A outer s H E hr c => ?_)
  unfold b_begin_2
  exact mss_one (ms_ret (me_tup (ma_cons (me_tuple c (by rfl) (me_comp (mf_comp c (own := ([("_", 1)] : List (Str × Nat))) (toc (mi_sq c (me_var 0 (by decide) (pv 0)))) (blk_ok (by rfl)) rfl (by decide) (by decide) (fun _ _ _ _ _ => tg1) (fun _ _ _ _ _ cb => mts_nil) (fun _ _ _ _ _ cb => me_int)) eComp_list)) (ma_cons (me_tup (ma_nil) (al_nil)) (ma_nil))) (al_cons (al_cons (al_nil)))))
theorem ok_on_way (t : Txt K mg) {n : Nat} (I : Ok t P w base n) : FnOk P w K mg base CX0 (lv (n + 1)) t.d_on_way.fa t.d_on_way.fd ["queues", "speaker", "hearer"] (spF (t.G w) (callN tbl (n + 1)) 17 3) := by
  refine fn_ok (O := []) (k := lv n + 1) (body := b_on_way (callN tbl n)) t.d_on_way.fn sc_on_way t.bl rfl rfl rfl (by decide) (lv_ge n) (fun _ _ => rfl) (fun cdv A outer s H E hr c => ?_)
  unfold b_on_way
  exact mss_cons (ms_setLc c (by decide) (own := ([("a", 4), ("b", 5), ("row", 6)] : List (Str × Nat))) (toc (mi_sq c (me_var 0 (by decide) (pv 0)))) (blk_ok (by rfl)) rfl (by decide) (by decide) (fun s_ H_ C_ l_ f_ => TgOk.t (gs_cons (c.blk s_ H_ _ _ f_) (gs_cons (c.blk s_ H_ _ _ f_) (gs_cons (c.blk s_ H_ _ _ f_) (gs_nil)))) rfl rfl) (fun _ _ _ _ _ cb => mts_one (mt_c (c_eq cb) (me_tup (ma_cons (me_var 4 (by decide) (pv 4)) (ma_cons (me_var 5 (by decide) (pv 5)) (ma_nil))) (al_cons (al_cons (al_nil)))) (me_tup (ma_cons (me_var 1 (by decide) (pv 1)) (ma_cons (me_var 2 (by decide) (pv 2)) (ma_nil))) (al_cons (al_cons (al_nil)))))) (fun _ _ _ _ _ cb => me_var 6 (by decide) (pv 6)) (by rfl))
    (mss_one (ms_ret (me_if (mt_c (c_gt c) (me_len c (by rfl) (me_var 3 (by decide) (pv 3))) (me_int)) (me_ix c (me_var 3 (by decide) (pv 3)) (me_int)) (me_tup (ma_nil) (al_nil)))))
theorem ok_with_row (t : Txt K mg) {n : Nat} (I : Ok t P w base n) : FnOk P w K mg base CX0 (lv (n + 1)) t.d_with_row.fa t.d_with_row.fd ["queues", "speaker", "hearer", "row"] (spF (t.G w) (callN tbl (n + 1)) 18 4) := by
  refine fn_ok (O := []) (k := lv n + 1) (body := b_with_row (callN tbl n)) t.d_with_row.fn sc_with_row t.bl rfl rfl rfl (by decide) (lv_ge n) (fun _ _ => rfl) (fun cdv A outer s H E hr c => ?_)
  unfold b_with_row
  exact mss_cons (ms_setLc c (by decide) (own := ([("entry", 5)] : List (Str × Nat))) (toc (mi_sq c (me_var 0 (by decide) (pv 0)))) (blk_ok (by rfl)) rfl (by decide) (by decide) (fun _ _ _ _ _ => tg1) (fun _ _ _ _ _ cb => mts_one (mt_c (c_ne cb) (me_sl cb (me_var 5 (by decide) (pv 5)) (mo_no) (mo_some (me_int))) (me_tup (ma_cons (me_var 1 (by decide) (pv 1)) (ma_cons (me_var 2 (by decide) (pv 2)) (ma_nil))) (al_cons (al_cons (al_nil)))))) (fun _ _ _ _ _ cb => me_var 5 (by decide) (pv 5)) (by rfl))
    (mss_one (ms_ret (me_tuple c (by rfl) (me_sorted c (by rfl) (me_add c (me_var 4 (by decide) (pv 4)) (me_if (mt_c (c_gt c) (me_len c (by rfl) (me_var 3 (by decide) (pv 3))) (me_int)) (me_lst (ma_cons (me_tup (ma_cons (me_var 1 (by decide) (pv 1)) (ma_cons (me_var 2 (by decide) (pv 2)) (ma_cons (me_var 3 (by decide) (pv 3)) (ma_nil)))) (al_cons (al_cons (al_cons (al_nil))))) (ma_nil)) (al_cons (al_nil))) (me_lst (ma_nil) (al_nil))))))))
theorem ok_moved (t : Txt K mg) {n : Nat} (I : Ok t P w base n) : FnOk P w K mg base CX0 (lv (n + 1)) t.d_moved.fa t.d_moved.fd ["states", "role", "state"] (spF (t.G w) (callN tbl (n + 1)) 19 3) := by
  refine fn_ok (O := []) (k := lv n + 1) (body := b_moved (callN tbl n)) t.d_moved.fn sc_moved t.bl rfl rfl rfl (by decide) (lv_ge n) (fun _ _ => rfl) (fun cdv A outer s H E hr c => ?_)
  unfold b_moved
  exact mss_one (ms_ret (me_add c (me_add c (me_sl c (me_var 0 (by decide) (pv 0)) (mo_no) (mo_some (me_var 1 (by decide) (pv 1)))) (me_tup (ma_cons (me_var 2 (by decide) (pv 2)) (ma_nil)) (al_cons (al_nil)))) (me_sl c (me_var 0 (by decide) (pv 0)) (mo_some (me_add c (me_var 1 (by decide) (pv 1)) (me_int))) (mo_no))))
theorem ok_deeds (t : Txt K mg) {n : Nat} (I : Ok t P w base n) : FnOk P w K mg base CX0 (lv (n + 1)) t.d_deeds.fa t.d_deeds.fd ["machines", "here", "room"] (spF (t.G w) (callN tbl (n + 1)) 20 3) := by
  refine fn_ok (O := [5]) (k := lv n + 1) (body := b_deeds (callN tbl n)) t.d_deeds.fn sc_deeds t.bl rfl rfl rfl (by decide) (lv_ge n) (fun _ _ => rfl) (fun cdv A outer s H E hr c => ?_)
  unfold b_deeds l1_deeds l0_deeds
  exact mss_cons (ms_unp c (by decide) (TgOk.t (gs_cons c (gs_cons c (gs_nil))) rfl rfl) (me_var 1 (by decide) (pv 1)))
    (mss_cons (ms_setF c (by decide) (mf_lst (ma_nil) (al_nil)) eLst_list)
    (mss_cons (ms_for c (by decide) (mi_rg1 c (by rfl) (me_len c (by rfl) (me_var 0 (by decide) (pv 0)))) (tg1) (mss_one (ms_for c (by decide) (mi_sq c (me_call0 I.f_steps_from (hr.mono (Nat.le_succ _)) t.g_steps_from t.d_steps_from.fn.kp t.d_steps_from.bind (ma_cons (me_ix c (me_var 0 (by decide) (pv 0)) (me_var 6 (by decide) (pv 6))) (ma_cons (me_ix c (me_var 3 (by decide) (pv 3)) (me_var 6 (by decide) (pv 6))) (ma_nil))) (al_cons (al_cons (al_nil))))) (TgOk.t (gs_cons c (gs_cons c (gs_cons c (gs_cons c (gs_cons c (gs_nil)))))) rfl rfl) (mss_cons (ms_set c (by decide) (me_if (mt_c (c_eq c) (me_var 8 (by decide) (pv 8)) (me_str)) (me_call0 I.f_on_way (hr.mono (Nat.le_succ _)) t.g_on_way t.d_on_way.fn.kp t.d_on_way.bind (ma_cons (me_var 4 (by decide) (pv 4)) (ma_cons (me_var 6 (by decide) (pv 6)) (ma_cons (me_var 9 (by decide) (pv 9)) (ma_nil)))) (al_cons (al_cons (al_cons (al_nil))))) (me_call0 I.f_on_way (hr.mono (Nat.le_succ _)) t.g_on_way t.d_on_way.fn.kp t.d_on_way.bind (ma_cons (me_var 4 (by decide) (pv 4)) (ma_cons (me_var 9 (by decide) (pv 9)) (ma_cons (me_var 6 (by decide) (pv 6)) (ma_nil)))) (al_cons (al_cons (al_cons (al_nil)))))))
    (mss_cons (ms_if (mt_w (mw_and (mt_c (c_eq c) (me_var 8 (by decide) (pv 8)) (me_str)) (mw_and (mt_c (c_lt c) (me_var 9 (by decide) (pv 9)) (me_len c (by rfl) (me_var 0 (by decide) (pv 0)))) (mw_and (mt_c (c_ne c) (me_var 9 (by decide) (pv 9)) (me_var 6 (by decide) (pv 6))) (mw_and1 (mt_c (c_lt c) (me_len c (by rfl) (me_var 12 (by decide) (pv 12))) (me_var 2 (by decide) (pv 2)))))))) (mss_cons (ms_set c (by decide) (me_tup (ma_cons (me_call0 I.f_moved (hr.mono (Nat.le_succ _)) t.g_moved t.d_moved.fn.kp t.d_moved.bind (ma_cons (me_var 3 (by decide) (pv 3)) (ma_cons (me_var 6 (by decide) (pv 6)) (ma_cons (me_var 11 (by decide) (pv 11)) (ma_nil)))) (al_cons (al_cons (al_cons (al_nil))))) (ma_cons (me_call0 I.f_with_row (hr.mono (Nat.le_succ _)) t.g_with_row t.d_with_row.fn.kp t.d_with_row.bind (ma_cons (me_var 4 (by decide) (pv 4)) (ma_cons (me_var 6 (by decide) (pv 6)) (ma_cons (me_var 9 (by decide) (pv 9)) (ma_cons (me_add c (me_var 12 (by decide) (pv 12)) (me_tup (ma_cons (me_var 10 (by decide) (pv 10)) (ma_nil)) (al_cons (al_nil)))) (ma_nil))))) (al_cons (al_cons (al_cons (al_cons (al_nil)))))) (ma_nil))) (al_cons (al_cons (al_nil)))))
    (mss_one (ms_append c (by decide) (pv 5) (me_tup (ma_cons (me_var 6 (by decide) (pv 6)) (ma_cons (me_var 8 (by decide) (pv 8)) (ma_cons (me_var 9 (by decide) (pv 9)) (ma_cons (me_var 10 (by decide) (pv 10)) (ma_cons (me_var 13 (by decide) (pv 13)) (ma_nil)))))) (al_cons (al_cons (al_cons (al_cons (al_cons (al_nil)))))))))) (mss_nil))
    (mss_one (ms_if (mt_w (mw_and (mt_c (c_eq c) (me_var 8 (by decide) (pv 8)) (me_str)) (mw_and1 (mt_c (c_eq c) (me_sl c (me_var 12 (by decide) (pv 12)) (mo_no) (mo_some (me_int))) (me_tup (ma_cons (me_var 10 (by decide) (pv 10)) (ma_nil)) (al_cons (al_nil))))))) (mss_cons (ms_set c (by decide) (me_tup (ma_cons (me_call0 I.f_moved (hr.mono (Nat.le_succ _)) t.g_moved t.d_moved.fn.kp t.d_moved.bind (ma_cons (me_var 3 (by decide) (pv 3)) (ma_cons (me_var 6 (by decide) (pv 6)) (ma_cons (me_var 11 (by decide) (pv 11)) (ma_nil)))) (al_cons (al_cons (al_cons (al_nil))))) (ma_cons (me_call0 I.f_with_row (hr.mono (Nat.le_succ _)) t.g_with_row t.d_with_row.fn.kp t.d_with_row.bind (ma_cons (me_var 4 (by decide) (pv 4)) (ma_cons (me_var 9 (by decide) (pv 9)) (ma_cons (me_var 6 (by decide) (pv 6)) (ma_cons (me_sl c (me_var 12 (by decide) (pv 12)) (mo_some (me_int)) (mo_no)) (ma_nil))))) (al_cons (al_cons (al_cons (al_cons (al_nil)))))) (ma_nil))) (al_cons (al_cons (al_nil)))))
    (mss_one (ms_append c (by decide) (pv 5) (me_tup (ma_cons (me_var 6 (by decide) (pv 6)) (ma_cons (me_var 8 (by decide) (pv 8)) (ma_cons (me_var 9 (by decide) (pv 9)) (ma_cons (me_var 10 (by decide) (pv 10)) (ma_cons (me_var 13 (by decide) (pv 13)) (ma_nil)))))) (al_cons (al_cons (al_cons (al_cons (al_cons (al_nil)))))))))) (mss_nil))))))))
    (mss_one (ms_ret (me_sorted c (by rfl) (me_var 5 (by decide) (pv 5)))))))
theorem ok_trouble_at (t : Txt K mg) {n : Nat} (I : Ok t P w base n) : FnOk P w K mg base CX0 (lv (n + 1)) t.d_trouble_at.fa t.d_trouble_at.fd ["machines", "here", "room"] (spF (t.G w) (callN tbl (n + 1)) 21 3) := by
  refine fn_ok (O := []) (k := lv n + 1) (body := b_trouble_at (callN tbl n)) t.d_trouble_at.fn sc_trouble_at t.bl rfl rfl rfl (by decide) (lv_ge n) (fun _ _ => rfl) (fun cdv A outer s H E hr c => ?_)
  unfold b_trouble_at l0_trouble_at
  exact mss_cons (ms_unp c (by decide) (TgOk.t (gs_cons c (gs_cons c (gs_nil))) rfl rfl) (me_var 1 (by decide) (pv 1)))
    (mss_cons (ms_for c (by decide) (mi_rg1 c (by rfl) (me_len c (by rfl) (me_var 0 (by decide) (pv 0)))) (tg1) (mss_cons (ms_set c (by decide) (me_call0 I.f_steps_from (hr.mono (Nat.le_succ _)) t.g_steps_from t.d_steps_from.fn.kp t.d_steps_from.bind (ma_cons (me_ix c (me_var 0 (by decide) (pv 0)) (me_var 5 (by decide) (pv 5))) (ma_cons (me_ix c (me_var 3 (by decide) (pv 3)) (me_var 5 (by decide) (pv 5))) (ma_nil))) (al_cons (al_cons (al_nil)))))
    (mss_one (ms_if (mt_w (mw_and (mt_c (c_gt c) (me_len c (by rfl) (me_var 6 (by decide) (pv 6))) (me_int)) (mw_and1 (mt_val (me_all c (by rfl) (me_comp (mf_comp c (own := ([("step", 9)] : List (Str × Nat))) (toc (mi_sq c (me_var 6 (by decide) (pv 6)))) (blk_ok (by rfl)) rfl (by decide) (by decide) (fun _ _ _ _ _ => tg1) (fun _ _ _ _ _ cb => mts_nil) (fun _ _ _ _ _ cb => me_c (c_eq cb) (me_ix cb (me_var 9 (by decide) (pv 9)) (me_int)) (me_str))) eComp_list)))))) (mss_one (ms_if (mt_val (me_call0 I.f_is_unheard (hr.mono (Nat.le_succ _)) t.g_is_unheard t.d_is_unheard.fn.kp t.d_is_unheard.bind (ma_cons (me_var 6 (by decide) (pv 6)) (ma_cons (me_var 4 (by decide) (pv 4)) (ma_cons (me_var 5 (by decide) (pv 5)) (ma_nil)))) (al_cons (al_cons (al_cons (al_nil)))))) (mss_one (ms_ret (me_str))) (mss_nil))) (mss_nil)))))
    (mss_cons (ms_if (mt_c (c_gt c) (me_len c (by rfl) (me_call0 I.f_deeds (hr.mono (Nat.le_succ _)) t.g_deeds t.d_deeds.fn.kp t.d_deeds.bind (ma_cons (me_var 0 (by decide) (pv 0)) (ma_cons (me_var 1 (by decide) (pv 1)) (ma_cons (me_var 2 (by decide) (pv 2)) (ma_nil)))) (al_cons (al_cons (al_cons (al_nil)))))) (me_int)) (mss_one (ms_ret (me_non))) (mss_nil))
    (mss_cons (ms_set c (by decide) (me_all c (by rfl) (me_comp (mf_comp c (own := ([("k", 8)] : List (Str × Nat))) (toc (mi_rg1 c (by rfl) (me_len c (by rfl) (me_var 0 (by decide) (pv 0))))) (blk_ok (by rfl)) rfl (by decide) (by decide) (fun _ _ _ _ _ => tg1) (fun _ _ _ _ _ cb => mts_nil) (fun _ _ _ _ _ cb => me_c (c_eq cb) (me_len cb (by rfl) (me_call0 I.f_steps_from (hr.mono (Nat.le_succ _)) t.g_steps_from t.d_steps_from.fn.kp t.d_steps_from.bind (ma_cons (me_ix cb (me_var 0 (by decide) (pv 0)) (me_var 8 (by decide) (pv 8))) (ma_cons (me_ix cb (me_var 3 (by decide) (pv 3)) (me_var 8 (by decide) (pv 8))) (ma_nil))) (al_cons (al_cons (al_nil))))) (me_int))) eComp_list)))
    (mss_cons (ms_if (mt_val (me_var 7 (by decide) (pv 7))) (mss_one (ms_ret (me_if (mt_c (c_gt c) (me_len c (by rfl) (me_var 4 (by decide) (pv 4))) (me_int)) (me_str) (me_non)))) (mss_nil))
    (mss_one (ms_ret (me_str)))))))
theorem ok_is_unheard (t : Txt K mg) {n : Nat} (I : Ok t P w base n) : FnOk P w K mg base CX0 (lv (n + 1)) t.d_is_unheard.fa t.d_is_unheard.fd ["steps", "queues", "role"] (spF (t.G w) (callN tbl (n + 1)) 22 3) := by
  refine fn_ok (O := []) (k := lv n + 1) (body := b_is_unheard (callN tbl n)) t.d_is_unheard.fn sc_is_unheard t.bl rfl rfl rfl (by decide) (lv_ge n) (fun _ _ => rfl) (fun cdv A outer s H E hr c => ?_)
  unfold b_is_unheard l0_is_unheard
  exact mss_cons (ms_for c (by decide) (mi_sq c (me_sortSet c (by rfl) (by rfl) (me_comp (mf_comp c (own := ([("step", 5)] : List (Str × Nat))) (toc (mi_sq c (me_var 0 (by decide) (pv 0)))) (blk_ok (by rfl)) rfl (by decide) (by decide) (fun _ _ _ _ _ => tg1) (fun _ _ _ _ _ cb => mts_nil) (fun _ _ _ _ _ cb => me_ix cb (me_var 5 (by decide) (pv 5)) (me_int))) eComp_list))) (tg1) (mss_cons (ms_set c (by decide) (me_call0 I.f_on_way (hr.mono (Nat.le_succ _)) t.g_on_way t.d_on_way.fn.kp t.d_on_way.bind (ma_cons (me_var 1 (by decide) (pv 1)) (ma_cons (me_var 3 (by decide) (pv 3)) (ma_cons (me_var 2 (by decide) (pv 2)) (ma_nil)))) (al_cons (al_cons (al_cons (al_nil))))))
    (mss_one (ms_if (mt_w (mw_and (mt_c (c_gt c) (me_len c (by rfl) (me_var 4 (by decide) (pv 4))) (me_int)) (mw_and1 (mt_c (c_notIn c) (me_ix c (me_var 4 (by decide) (pv 4)) (me_int)) (me_comp (mf_comp c (own := ([("step", 5)] : List (Str × Nat))) (toc (mi_sq c (me_var 0 (by decide) (pv 0)))) (blk_ok (by rfl)) rfl (by decide) (by decide) (fun _ _ _ _ _ => tg1) (fun _ _ _ _ _ cb => mts_one (mt_c (c_eq cb) (me_ix cb (me_var 5 (by decide) (pv 5)) (me_int)) (me_var 3 (by decide) (pv 3)))) (fun _ _ _ _ _ cb => me_ix cb (me_var 5 (by decide) (pv 5)) (me_int))) eComp_list))))) (mss_one (ms_ret (me_bl))) (mss_nil)))))
    (mss_one (ms_ret (me_bl)))
theorem ok_search (t : Txt K mg) {n : Nat} (I : Ok t P w base n) : FnOk P w K mg base CX0 (lv (n + 1)) t.d_search.fa t.d_search.fd ["machines", "room"] (spF (t.G w) (callN tbl (n + 1)) 23 2) := by
  refine fn_ok (O := [2, 3]) (k := lv n + 1) (body := b_search (callN tbl n)) t.d_search.fn sc_search t.bl rfl rfl rfl (by decide) (lv_ge n) (fun _ _ => rfl) (fun cdv A outer s H E hr c => ?_)
  unfold b_search l1_search l0_search
  exact mss_cons (ms_setF c (by decide) (mf_lst (ma_cons (me_call0 I.f_begin_2 (hr.mono (Nat.le_succ _)) t.g_begin_letters t.d_begin_2.fn.kp t.d_begin_2.bind (ma_cons (me_var 0 (by decide) (pv 0)) (ma_nil)) (al_cons (al_nil))) (ma_nil)) (al_cons (al_nil))) eLst_list)
    (mss_cons (ms_setF c (by decide) (mf_lst (ma_cons (me_tup (ma_nil) (al_nil)) (ma_nil)) (al_cons (al_nil))) eLst_list)
    (mss_cons (ms_set c (by decide) (me_int))
    (mss_cons (ms_while 4000 c (mt_c (c_lt c) (me_var 4 (by decide) (pv 4)) (me_len c (by rfl) (me_own 2 (pv 2)))) (mss_cons (ms_set c (by decide) (me_call0 I.f_trouble_at (hr.mono (Nat.le_succ _)) t.g_trouble_at t.d_trouble_at.fn.kp t.d_trouble_at.bind (ma_cons (me_var 0 (by decide) (pv 0)) (ma_cons (me_ix c (me_own 2 (pv 2)) (me_var 4 (by decide) (pv 4))) (ma_cons (me_var 1 (by decide) (pv 1)) (ma_nil)))) (al_cons (al_cons (al_cons (al_nil))))))
    (mss_cons (ms_if (mt_c (c_isNot c) (me_var 5 (by decide) (pv 5)) (me_non)) (mss_one (ms_ret (me_tup (ma_cons (me_tup (ma_cons (me_var 5 (by decide) (pv 5)) (ma_cons (me_ix c (me_var 3 (by decide) (pv 3)) (me_var 4 (by decide) (pv 4))) (ma_nil))) (al_cons (al_cons (al_nil)))) (ma_cons (me_var 2 (by decide) (pv 2)) (ma_nil))) (al_cons (al_cons (al_nil)))))) (mss_nil))
    (mss_cons (ms_for c (by decide) (mi_sq c (me_call0 I.f_deeds (hr.mono (Nat.le_succ _)) t.g_deeds t.d_deeds.fn.kp t.d_deeds.bind (ma_cons (me_var 0 (by decide) (pv 0)) (ma_cons (me_ix c (me_own 2 (pv 2)) (me_var 4 (by decide) (pv 4))) (ma_cons (me_var 1 (by decide) (pv 1)) (ma_nil)))) (al_cons (al_cons (al_cons (al_nil)))))) (TgOk.t (gs_cons c (gs_cons c (gs_cons c (gs_cons c (gs_cons c (gs_nil)))))) rfl rfl) (mss_one (ms_if (mt_w (mw_and (mt_c (c_notIn c) (me_var 10 (by decide) (pv 10)) (me_own 2 (pv 2))) (mw_and1 (mt_c (c_lt c) (me_len c (by rfl) (me_own 2 (pv 2))) (me_gint (by rfl) t.c_MOST_letters))))) (mss_cons (ms_append c (by decide) (pv 2) (me_var 10 (by decide) (pv 10)))
    (mss_one (ms_append c (by decide) (pv 3) (me_add c (me_ix c (me_own 3 (pv 3)) (me_var 4 (by decide) (pv 4))) (me_tup (ma_cons (me_tup (ma_cons (me_var 6 (by decide) (pv 6)) (ma_cons (me_var 7 (by decide) (pv 7)) (ma_cons (me_var 8 (by decide) (pv 8)) (ma_cons (me_var 9 (by decide) (pv 9)) (ma_nil))))) (al_cons (al_cons (al_cons (al_cons (al_nil)))))) (ma_nil)) (al_cons (al_nil))))))) (mss_nil))))
    (mss_one (ms_augAdd c (by decide) (me_int)))))))
    (mss_one (ms_ret (me_tup (ma_cons (me_non) (ma_cons (me_var 2 (by decide) (pv 2)) (ma_nil))) (al_cons (al_cons (al_nil)))))))))
theorem ok_trouble (t : Txt K mg) {n : Nat} (I : Ok t P w base n) : FnOk P w K mg base CX0 (lv (n + 1)) t.d_trouble.fa t.d_trouble.fd ["machines", "room"] (spF (t.G w) (callN tbl (n + 1)) 24 2) := by
  refine fn_ok (O := []) (k := lv n + 1) (body := b_trouble (callN tbl n)) t.d_trouble.fn sc_trouble t.bl rfl rfl rfl (by decide) (lv_ge n) (fun _ _ => rfl) (fun cdv A outer s H E hr c => ?_)
  unfold b_trouble
  exact mss_one (ms_ret (me_ix c (me_call0 I.f_search (hr.mono (Nat.le_succ _)) t.g_search t.d_search.fn.kp t.d_search.bind (ma_cons (me_var 0 (by decide) (pv 0)) (ma_cons (me_var 1 (by decide) (pv 1)) (ma_nil))) (al_cons (al_cons (al_nil)))) (me_int)))
theorem ok_inner (t : Txt K mg) {n : Nat} (I : Ok t P w base n) : FnOk P w K mg base CX0 (lv (n + 1)) t.d_inner.fa t.d_inner.fd ["value"] (spF (t.G w) (callN tbl (n + 1)) 25 1) := by
  refine fn_ok (O := []) (k := lv n + 1) (body := b_inner (callN tbl n)) t.d_inner.fn sc_inner t.bl rfl rfl rfl (by decide) (lv_ge n) (fun _ _ => rfl) (fun cdv A outer s H E hr c => ?_)
  unfold b_inner
  exact mss_cons (ms_if (mt_c (c_eq c) (me_ix c (me_var 0 (by decide) (pv 0)) (me_int)) (me_str)) (mss_one (ms_ret (me_comp (mf_comp c (own := ([("_", 1), ("after", 2)] : List (Str × Nat))) (toc (mi_sq c (me_ix c (me_var 0 (by decide) (pv 0)) (me_int)))) (blk_ok (by rfl)) rfl (by decide) (by decide) (fun s_ H_ C_ l_ f_ => TgOk.t (gs_cons (c.blk s_ H_ _ _ f_) (gs_cons (c.blk s_ H_ _ _ f_) (gs_nil))) rfl rfl) (fun _ _ _ _ _ cb => mts_nil) (fun _ _ _ _ _ cb => me_var 2 (by decide) (pv 2))) eComp_list))) (mss_nil))
    (mss_cons (ms_if (mt_c (c_eq c) (me_ix c (me_var 0 (by decide) (pv 0)) (me_int)) (me_str)) (mss_one (ms_ret (me_lst (ma_cons (me_ix c (me_var 0 (by decide) (pv 0)) (me_int)) (ma_cons (me_ix c (me_var 0 (by decide) (pv 0)) (me_int)) (ma_nil))) (al_cons (al_cons (al_nil)))))) (mss_nil))
    (mss_one (ms_ret (me_if (mt_c (c_eq c) (me_ix c (me_var 0 (by decide) (pv 0)) (me_int)) (me_str)) (me_lst (ma_cons (me_ix c (me_var 0 (by decide) (pv 0)) (me_int)) (ma_nil)) (al_cons (al_nil))) (me_lst (ma_nil) (al_nil))))))
theorem ok_roles_in (t : Txt K mg) {n : Nat} (I : Ok t P w base n) : FnOk P w K mg base CX0 (lv (n + 1)) t.d_roles_in.fa t.d_roles_in.fd ["value"] (spF (t.G w) (callN tbl (n + 1)) 26 1) := by
  refine fn_ok (O := [1]) (k := lv n + 1) (body := b_roles_in (callN tbl n)) t.d_roles_in.fn sc_roles_in t.bl rfl rfl rfl (by decide) (lv_ge n) (fun _ _ => rfl) (fun cdv A outer s H E hr c => ?_)
  unfold b_roles_in l0_roles_in
  exact mss_cons (ms_setF c (by decide) (mf_if (mt_c (c_eq c) (me_ix c (me_var 0 (by decide) (pv 0)) (me_int)) (me_str)) (mf_lst (ma_cons (me_ix c (me_var 0 (by decide) (pv 0)) (me_int)) (ma_cons (me_ix c (me_var 0 (by decide) (pv 0)) (me_int)) (ma_nil))) (al_cons (al_cons (al_nil)))) (mf_lst (ma_nil) (al_nil))) (eIf_list eLst_list eLst_list))
    (mss_cons (ms_for c (by decide) (mi_sq c (me_call0 I.f_inner (hr.mono (Nat.le_succ _)) t.g_inner_talks t.d_inner.fn.kp t.d_inner.bind (ma_cons (me_var 0 (by decide) (pv 0)) (ma_nil)) (al_cons (al_nil)))) (tg1) (mss_one (ms_extend c (by decide) (pv 1) (me_call0 I.f_roles_in (hr.mono (Nat.le_succ _)) t.g_roles_in t.d_roles_in.fn.kp t.d_roles_in.bind (ma_cons (me_var 2 (by decide) (pv 2)) (ma_nil)) (al_cons (al_nil))))))
    (mss_one (ms_ret (me_sortSet c (by rfl) (by rfl) (me_var 1 (by decide) (pv 1))))))
theorem ok_inner_2 (t : Txt K mg) {n : Nat} (I : Ok t P w base n) : FnOk P w K mg base CX0 (lv (n + 1)) t.d_inner_2.fa t.d_inner_2.fd ["value"] (spF (t.G w) (callN tbl (n + 1)) 27 1) := by
  refine fn_ok (O := []) (k := lv n + 1) (body := b_inner_2 (callN tbl n)) t.d_inner_2.fn sc_inner_2 t.bl rfl rfl rfl (by decide) (lv_ge n) (fun _ _ => rfl) (fun cdv A outer s H E hr c => ?_)
  unfold b_inner_2
  exact mss_cons (ms_if (mt_c (c_in c) (me_ix c (me_var 0 (by decide) (pv 0)) (me_int)) (me_tup (ma_cons (me_str) (ma_cons (me_str) (ma_nil))) (al_cons (al_cons (al_nil))))) (mss_one (ms_ret (me_comp (mf_comp c (own := ([("_", 1), ("after", 2)] : List (Str × Nat))) (toc (mi_sq c (me_ix c (me_var 0 (by decide) (pv 0)) (me_int)))) (blk_ok (by rfl)) rfl (by decide) (by decide) (fun s_ H_ C_ l_ f_ => TgOk.t (gs_cons (c.blk s_ H_ _ _ f_) (gs_cons (c.blk s_ H_ _ _ f_) (gs_nil))) rfl rfl) (fun _ _ _ _ _ cb => mts_nil) (fun _ _ _ _ _ cb => me_var 2 (by decide) (pv 2))) eComp_list))) (mss_nil))
    (mss_one (ms_ret (me_if (mt_c (c_eq c) (me_ix c (me_var 0 (by decide) (pv 0)) (me_int)) (me_str)) (me_lst (ma_cons (me_ix c (me_var 0 (by decide) (pv 0)) (me_int)) (ma_nil)) (al_cons (al_nil))) (me_lst (ma_nil) (al_nil)))))
theorem ok_goes_again (t : Txt K mg) {n : Nat} (I : Ok t P w base n) : FnOk P w K mg base CX0 (lv (n + 1)) t.d_goes_again.fa t.d_goes_again.fd ["value", "name"] (spF (t.G w) (callN tbl (n + 1)) 28 2) := by
  refine fn_ok (O := []) (k := lv n + 1) (body := b_goes_again (callN tbl n)) t.d_goes_again.fn sc_goes_again t.bl rfl rfl rfl (by decide) (lv_ge n) (fun _ _ => rfl) (fun cdv A outer s H E hr c => ?_)
  unfold b_goes_again
  exact mss_cons (ms_if (mt_c (c_eq c) (me_ix c (me_var 0 (by decide) (pv 0)) (me_int)) (me_str)) (mss_one (ms_ret (me_c (c_eq c) (me_ix c (me_var 0 (by decide) (pv 0)) (me_int)) (me_var 1 (by decide) (pv 1))))) (mss_nil))
    (mss_cons (ms_if (mt_w (mw_and (mt_c (c_eq c) (me_ix c (me_var 0 (by decide) (pv 0)) (me_int)) (me_str)) (mw_and1 (mt_c (c_eq c) (me_ix c (me_var 0 (by decide) (pv 0)) (me_int)) (me_var 1 (by decide) (pv 1)))))) (mss_one (ms_ret (me_bl))) (mss_nil))
    (mss_one (ms_ret (me_any c (by rfl) (me_comp (mf_comp c (own := ([("part", 2)] : List (Str × Nat))) (toc (mi_sq c (me_call0 I.f_inner_2 (hr.mono (Nat.le_succ _)) t.g_inner_shares t.d_inner_2.fn.kp t.d_inner_2.bind (ma_cons (me_var 0 (by decide) (pv 0)) (ma_nil)) (al_cons (al_nil))))) (blk_ok (by rfl)) rfl (by decide) (by decide) (fun _ _ _ _ _ => tg1) (fun _ _ _ _ _ cb => mts_nil) (fun _ _ _ _ _ cb => me_call0 I.f_goes_again (hr.mono (Nat.le_succ _)) t.g_goes_again t.d_goes_again.fn.kp t.d_goes_again.bind (ma_cons (me_var 2 (by decide) (pv 2)) (ma_cons (me_var 1 (by decide) (pv 1)) (ma_nil))) (al_cons (al_cons (al_nil))))) eComp_list)))))
theorem ok_Parter_of_loop (t : Txt K mg) {n : Nat} (I : Ok t P w base n) : FnOk P w K mg base CX0 (lv (n + 1)) t.d_Parter_of_loop.fa t.d_Parter_of_loop.fd ["self", "value", "number"] (spF (t.G w) (callN tbl (n + 1)) 29 3) := by
  refine fn_ok (O := []) (k := lv n + 1) (body := b_Parter_of_loop (callN tbl n)) t.d_Parter_of_loop.fn sc_Parter_of_loop t.bl rfl rfl rfl (by decide) (lv_ge n) (fun _ _ => rfl) (fun cdv A outer s H E hr c => ?_)
  unfold b_Parter_of_loop
  exact mss_cons (ms_if (mt_c (c_in c) (me_fld c.hK t.cl_Parter t.n_Parter_role (by exact (show (["role", "trouble"] : List Str).Nodup by decide +kernel)) (i := 0) rfl (me_var 0 (by decide) (pv 0))) (me_call0 I.f_roles_in (hr.mono (Nat.le_succ _)) t.g_roles_in t.d_roles_in.fn.kp t.d_roles_in.bind (ma_cons (me_var 1 (by decide) (pv 1)) (ma_nil)) (al_cons (al_nil)))) (mss_cons (ms_set c (by decide) (me_meth0 I.f_Parter_part (hr.mono (Nat.le_succ _)) t.cl_Parter t.meth_Parter_part t.d_Parter_part.bind (by exact (show ¬ ("part" : Str) ∈ (["role", "trouble"] : List Str) by decide +kernel)) (me_var 0 (by decide) (pv 0)) (ma_cons (me_ix c (me_var 1 (by decide) (pv 1)) (me_int)) (ma_cons (me_add c (me_var 2 (by decide) (pv 2)) (me_int)) (ma_nil))) (al_cons (al_cons (al_nil)))))
    (mss_one (ms_ret (me_if (mt_w (mw_and (mt_c (c_isNot c) (me_var 3 (by decide) (pv 3)) (me_non)) (mw_and1 (mt_val (me_call0 I.f_goes_again (hr.mono (Nat.le_succ _)) t.g_goes_again t.d_goes_again.fn.kp t.d_goes_again.bind (ma_cons (me_var 3 (by decide) (pv 3)) (ma_cons (me_ix c (me_var 1 (by decide) (pv 1)) (me_int)) (ma_nil))) (al_cons (al_cons (al_nil)))))))) (me_tup (ma_cons (me_str) (ma_cons (me_ix c (me_var 1 (by decide) (pv 1)) (me_int)) (ma_cons (me_var 3 (by decide) (pv 3)) (ma_nil)))) (al_cons (al_cons (al_cons (al_nil))))) (me_var 3 (by decide) (pv 3)))))) (mss_nil))
    (mss_cons (ms_set c (by decide) (me_call0 I.f_ways_out (hr.mono (Nat.le_succ _)) t.g_ways_out t.d_ways_out.fn.kp t.d_ways_out.bind (ma_cons (me_ix c (me_var 1 (by decide) (pv 1)) (me_int)) (ma_nil)) (al_cons (al_nil))))
    (mss_cons (ms_setLc c (by decide) (own := ([("name", 6)] : List (Str × Nat))) (toc (mi_sq c (me_var 4 (by decide) (pv 4)))) (blk_ok (by rfl)) rfl (by decide) (by decide) (fun _ _ _ _ _ => tg1) (fun _ _ _ _ _ cb => mts_one (mt_c (c_notIn cb) (me_var 6 (by decide) (pv 6)) (me_tup (ma_cons (me_neg (me_int)) (ma_cons (me_ix cb (me_var 1 (by decide) (pv 1)) (me_int)) (ma_nil))) (al_cons (al_cons (al_nil)))))) (fun _ _ _ _ _ cb => me_var 6 (by decide) (pv 6)) (by rfl))
    (mss_cons (ms_if (mt_c (c_eq c) (me_len c (by rfl) (me_var 5 (by decide) (pv 5))) (me_int)) (mss_one (ms_ret (me_tup (ma_cons (me_str) (ma_nil)) (al_cons (al_nil))))) (mss_nil))
    (mss_one (ms_ret (me_if (mt_c (c_eq c) (me_var 4 (by decide) (pv 4)) (me_sl c (me_var 5 (by decide) (pv 5)) (mo_no) (mo_some (me_int)))) (me_tup (ma_cons (me_str) (ma_cons (me_ix c (me_var 5 (by decide) (pv 5)) (me_int)) (ma_nil))) (al_cons (al_cons (al_nil)))) (me_meth0 I.f_Parter_none_at (hr.mono (Nat.le_succ _)) t.cl_Parter t.meth_Parter_none_at t.d_Parter_none_at.bind (by exact (show ¬ ("none_at" : Str) ∈ (["role", "trouble"] : List Str) by decide +kernel)) (me_var 0 (by decide) (pv 0)) (ma_cons (me_var 2 (by decide) (pv 2)) (ma_nil)) (al_cons (al_nil)))))))))
theorem ok_ways_out (t : Txt K mg) {n : Nat} (I : Ok t P w base n) : FnOk P w K mg base CX0 (lv (n + 1)) t.d_ways_out.fa t.d_ways_out.fd ["talk"] (spF (t.G w) (callN tbl (n + 1)) 30 1) := by
  refine fn_ok (O := []) (k := lv n + 1) (body := b_ways_out (callN tbl n)) t.d_ways_out.fn sc_ways_out t.bl rfl rfl rfl (by decide) (lv_ge n) (fun _ _ => rfl) (fun cdv A outer s H E hr c => ?_)
  unfold b_ways_out
  exact mss_cons (ms_if (mt_c (c_eq c) (me_ix c (me_var 0 (by decide) (pv 0)) (me_int)) (me_str)) (mss_one (ms_ret (me_lst (ma_cons (me_ix c (me_var 0 (by decide) (pv 0)) (me_int)) (ma_nil)) (al_cons (al_nil))))) (mss_nil))
    (mss_cons (ms_if (mt_c (c_eq c) (me_ix c (me_var 0 (by decide) (pv 0)) (me_int)) (me_str)) (mss_one (ms_ret (me_comp (mf_comp c (own := ([("name", 1)] : List (Str × Nat))) (toc (mi_sq c (me_call0 I.f_ways_out (hr.mono (Nat.le_succ _)) t.g_ways_out t.d_ways_out.fn.kp t.d_ways_out.bind (ma_cons (me_ix c (me_var 0 (by decide) (pv 0)) (me_int)) (ma_nil)) (al_cons (al_nil))))) (blk_ok (by rfl)) rfl (by decide) (by decide) (fun _ _ _ _ _ => tg1) (fun _ _ _ _ _ cb => mts_one (mt_c (c_ne cb) (me_var 1 (by decide) (pv 1)) (me_ix cb (me_var 0 (by decide) (pv 0)) (me_int)))) (fun _ _ _ _ _ cb => me_var 1 (by decide) (pv 1))) eComp_list))) (mss_nil))
    (mss_cons (ms_if (mt_c (c_eq c) (me_ix c (me_var 0 (by decide) (pv 0)) (me_int)) (me_str)) (mss_one (ms_ret (me_sortSet c (by rfl) (by rfl) (me_comp (mf_comp2 c (own := ([("_", 2), ("after", 3), ("name", 1)] : List (Str × Nat))) (toc (mi_sq c (me_ix c (me_var 0 (by decide) (pv 0)) (me_int)))) (blk_ok (by rfl)) rfl (by decide) (by decide) (by decide) (by decide) (by decide) (fun s_ H_ C_ l_ f_ => TgOk.t (gs_cons (c.blk s_ H_ _ _ f_) (gs_cons (c.blk s_ H_ _ _ f_) (gs_nil))) rfl rfl) (fun _ _ _ _ _ cb => mts_nil) (fun _ _ _ _ _ cb => mi_sq cb (me_call0 I.f_ways_out (hr.mono (Nat.le_succ _)) t.g_ways_out t.d_ways_out.fn.kp t.d_ways_out.bind (ma_cons (me_var 3 (by decide) (pv 3)) (ma_nil)) (al_cons (al_nil)))) (fun _ _ _ _ _ => tg1) (fun _ _ _ _ _ cb => mts_nil) (fun _ _ _ _ _ cb => me_var 1 (by decide) (pv 1))) eComp2_list)))) (mss_nil))
    (mss_one (ms_ret (me_lst (ma_cons (me_neg (me_int)) (ma_nil)) (al_cons (al_nil)))))))
theorem ok_put_for_2 (t : Txt K mg) {n : Nat} (I : Ok t P w base n) : FnOk P w K mg base CX0 (lv (n + 1)) t.d_put_for_2.fa t.d_put_for_2.fd ["value", "name", "other"] (spF (t.G w) (callN tbl (n + 1)) 31 3) := by
  refine fn_ok (O := []) (k := lv n + 1) (body := b_put_for_2 (callN tbl n)) t.d_put_for_2.fn sc_put_for_2 t.bl rfl rfl rfl (by decide) (lv_ge n) (fun _ _ => rfl) (fun cdv A outer s H E hr c => ?_)
  unfold b_put_for_2
  exact mss_cons (ms_if (mt_c (c_eq c) (me_ix c (me_var 0 (by decide) (pv 0)) (me_int)) (me_str)) (mss_one (ms_ret (me_if (mt_c (c_eq c) (me_ix c (me_var 0 (by decide) (pv 0)) (me_int)) (me_var 1 (by decide) (pv 1))) (me_var 2 (by decide) (pv 2)) (me_var 0 (by decide) (pv 0))))) (mss_nil))
    (mss_cons (ms_if (mt_c (c_eq c) (me_ix c (me_var 0 (by decide) (pv 0)) (me_int)) (me_str)) (mss_one (ms_ret (me_if (mt_c (c_eq c) (me_ix c (me_var 0 (by decide) (pv 0)) (me_int)) (me_var 1 (by decide) (pv 1))) (me_var 0 (by decide) (pv 0)) (me_tup (ma_cons (me_str) (ma_cons (me_ix c (me_var 0 (by decide) (pv 0)) (me_int)) (ma_cons (me_call0 I.f_put_for_2 (hr.mono (Nat.le_succ _)) t.g_put_for_shares t.d_put_for_2.fn.kp t.d_put_for_2.bind (ma_cons (me_ix c (me_var 0 (by decide) (pv 0)) (me_int)) (ma_cons (me_var 1 (by decide) (pv 1)) (ma_cons (me_var 2 (by decide) (pv 2)) (ma_nil)))) (al_cons (al_cons (al_cons (al_nil))))) (ma_nil)))) (al_cons (al_cons (al_cons (al_nil)))))))) (mss_nil))
    (mss_cons (ms_if (mt_c (c_eq c) (me_ix c (me_var 0 (by decide) (pv 0)) (me_int)) (me_str)) (mss_one (ms_ret (me_var 0 (by decide) (pv 0)))) (mss_nil))
    (mss_one (ms_ret (me_add c (me_sl c (me_var 0 (by decide) (pv 0)) (mo_no) (mo_some (me_int))) (me_tup (ma_cons (me_tuple c (by rfl) (me_comp (mf_comp c (own := ([("letter", 3), ("after", 4)] : List (Str × Nat))) (toc (mi_sq c (me_ix c (me_var 0 (by decide) (pv 0)) (me_int)))) (blk_ok (by rfl)) rfl (by decide) (by decide) (fun s_ H_ C_ l_ f_ => TgOk.t (gs_cons (c.blk s_ H_ _ _ f_) (gs_cons (c.blk s_ H_ _ _ f_) (gs_nil))) rfl rfl) (fun _ _ _ _ _ cb => mts_nil) (fun _ _ _ _ _ cb => me_tup (ma_cons (me_var 3 (by decide) (pv 3)) (ma_cons (me_call0 I.f_put_for_2 (hr.mono (Nat.le_succ _)) t.g_put_for_shares t.d_put_for_2.fn.kp t.d_put_for_2.bind (ma_cons (me_var 4 (by decide) (pv 4)) (ma_cons (me_var 1 (by decide) (pv 1)) (ma_cons (me_var 2 (by decide) (pv 2)) (ma_nil)))) (al_cons (al_cons (al_cons (al_nil))))) (ma_nil))) (al_cons (al_cons (al_nil))))) eComp_list)) (ma_nil)) (al_cons (al_nil))))))))
theorem ok_states_in (t : Txt K mg) {n : Nat} (I : Ok t P w base n) : FnOk P w K mg base CX0 (lv (n + 1)) t.d_states_in.fa t.d_states_in.fd ["talk"] (spF (t.G w) (callN tbl (n + 1)) 32 1) := by
  refine fn_ok (O := [1]) (k := lv n + 1) (body := b_states_in (callN tbl n)) t.d_states_in.fn sc_states_in t.bl rfl rfl rfl (by decide) (lv_ge n) (fun _ _ => rfl) (fun cdv A outer s H E hr c => ?_)
  unfold b_states_in l1_states_in l0_states_in
  exact mss_cons (ms_setF c (by decide) (mf_lst (ma_cons (me_var 0 (by decide) (pv 0)) (ma_nil)) (al_cons (al_nil))) eLst_list)
    (mss_cons (ms_set c (by decide) (me_int))
    (mss_cons (ms_while 1000 c (mt_c (c_lt c) (me_var 2 (by decide) (pv 2)) (me_len c (by rfl) (me_own 1 (pv 1)))) (mss_cons (ms_for c (by decide) (mi_sq c (me_call0 I.f_written (hr.mono (Nat.le_succ _)) t.g_written t.d_written.fn.kp t.d_written.bind (ma_cons (me_ix c (me_own 1 (pv 1)) (me_var 2 (by decide) (pv 2))) (ma_nil)) (al_cons (al_nil)))) (TgOk.t (gs_cons c (gs_cons c (gs_nil))) rfl rfl) (mss_one (ms_if (mt_c (c_notIn c) (me_var 4 (by decide) (pv 4)) (me_own 1 (pv 1))) (mss_one (ms_append c (by decide) (pv 1) (me_var 4 (by decide) (pv 4)))) (mss_nil))))
    (mss_one (ms_augAdd c (by decide) (me_int)))))
    (mss_one (ms_ret (me_len c (by rfl) (me_var 1 (by decide) (pv 1)))))))
theorem ok_Parter_none_at (t : Txt K mg) {n : Nat} (I : Ok t P w base n) : FnOk P w K mg base CX0 (lv (n + 1)) t.d_Parter_none_at.fa t.d_Parter_none_at.fd ["self", "number"] (spF (t.G w) (callN tbl (n + 1)) 33 2) := by
  refine fn_ok (O := []) (k := lv n + 1) (body := b_Parter_none_at (callN tbl n)) t.d_Parter_none_at.fn sc_Parter_none_at t.bl rfl rfl rfl (by decide) (lv_ge n) (fun _ _ => rfl) (fun cdv A outer s H E hr c => ?_)
  unfold b_Parter_none_at
  exact mss_cons (ms_if (mt_w (mw_or (mt_c (c_is c) (me_fld c.hK t.cl_Parter t.n_Parter_trouble (by exact (show (["role", "trouble"] : List Str).Nodup by decide +kernel)) (i := 1) rfl (me_var 0 (by decide) (pv 0))) (me_non)) (mw_or1 (mt_c (c_lt c) (me_var 1 (by decide) (pv 1)) (me_fld c.hK t.cl_Parter t.n_Parter_trouble (by exact (show (["role", "trouble"] : List Str).Nodup by decide +kernel)) (i := 1) rfl (me_var 0 (by decide) (pv 0))))))) (mss_one (ms_fld t.cl_Parter t.n_Parter_trouble (by exact (show (["role", "trouble"] : List Str).Nodup by decide +kernel)) (i := 1) rfl (by exact (show (["role", "trouble"] : List Str).length < 1000 by decide +kernel)) (me_var 1 (by decide) (pv 1)) (me_var 0 (by decide) (pv 0)) (by rfl))) (mss_nil))
    (mss_one (ms_ret (me_non)))
theorem ok_reached_2 (t : Txt K mg) {n : Nat} (I : Ok t P w base n) : FnOk P w K mg base CX0 (lv (n + 1)) t.d_reached_2.fa t.d_reached_2.fd ["machines", "room"] (spF (t.G w) (callN tbl (n + 1)) 34 2) := by
  refine fn_ok (O := []) (k := lv n + 1) (body := b_reached_2 (callN tbl n)) t.d_reached_2.fn sc_reached_2 t.bl rfl rfl rfl (by decide) (lv_ge n) (fun _ _ => rfl) (fun cdv A outer s H E hr c => ?_)
  unfold b_reached_2
  exact mss_one (ms_ret (me_ix c (me_call0 I.f_search (hr.mono (Nat.le_succ _)) t.g_search t.d_search.fn.kp t.d_search.bind (ma_cons (me_var 0 (by decide) (pv 0)) (ma_cons (me_var 1 (by decide) (pv 1)) (ma_nil))) (al_cons (al_cons (al_nil)))) (me_int)))
theorem ok_begin (t : Txt K mg) {n : Nat} (I : Ok t P w base n) : FnOk P w K mg base CX0 (lv (n + 1)) t.d_begin.fa t.d_begin.fd ["machines"] (spF (t.G w) (callN tbl (n + 1)) 35 1) := by
  refine fn_ok (O := []) (k := lv n + 1) (body := b_begin (callN tbl n)) t.d_begin.fn sc_begin t.bl rfl rfl rfl (by decide) (lv_ge n) (fun _ _ => rfl) (fun cdv A outer s H E hr c => ?_)
  unfold b_begin
  exact mss_one (ms_ret (me_tuple c (by rfl) (me_comp (mf_comp c (own := ([("_", 1)] : List (Str × Nat))) (toc (mi_sq c (me_var 0 (by decide) (pv 0)))) (blk_ok (by rfl)) rfl (by decide) (by decide) (fun _ _ _ _ _ => tg1) (fun _ _ _ _ _ cb => mts_nil) (fun _ _ _ _ _ cb => me_int)) eComp_list)))
theorem ok_meets (t : Txt K mg) {n : Nat} (I : Ok t P w base n) : FnOk P w K mg base CX0 (lv (n + 1)) t.d_meets.fa t.d_meets.fd ["machines", "states"] (spF (t.G w) (callN tbl (n + 1)) 36 2) := by
  refine fn_ok (O := [2]) (k := lv n + 1) (body := b_meets (callN tbl n)) t.d_meets.fn sc_meets t.bl rfl rfl rfl (by decide) (lv_ge n) (fun _ _ => rfl) (fun cdv A outer s H E hr c => ?_)
  unfold b_meets l2_meets l1_meets l0_meets
  exact mss_cons (ms_setF c (by decide) (mf_lst (ma_nil) (al_nil)) eLst_list)
    (mss_cons (ms_for c (by decide) (mi_rg1 c (by rfl) (me_len c (by rfl) (me_var 0 (by decide) (pv 0)))) (tg1) (mss_one (ms_for c (by decide) (mi_sq c (me_call0 I.f_steps_from (hr.mono (Nat.le_succ _)) t.g_steps_from t.d_steps_from.fn.kp t.d_steps_from.bind (ma_cons (me_ix c (me_var 0 (by decide) (pv 0)) (me_var 3 (by decide) (pv 3))) (ma_cons (me_ix c (me_var 1 (by decide) (pv 1)) (me_var 3 (by decide) (pv 3))) (ma_nil))) (al_cons (al_cons (al_nil))))) (tg1) (mss_cons (ms_set c (by decide) (me_ix c (me_var 4 (by decide) (pv 4)) (me_int)))
    (mss_one (ms_if (mt_w (mw_and (mt_c (c_eq c) (me_ix c (me_var 4 (by decide) (pv 4)) (me_int)) (me_str)) (mw_and (mt_c (c_lt c) (me_var 5 (by decide) (pv 5)) (me_len c (by rfl) (me_var 0 (by decide) (pv 0)))) (mw_and1 (mt_c (c_ne c) (me_var 5 (by decide) (pv 5)) (me_var 3 (by decide) (pv 3))))))) (mss_one (ms_for c (by decide) (mi_sq c (me_call0 I.f_steps_from (hr.mono (Nat.le_succ _)) t.g_steps_from t.d_steps_from.fn.kp t.d_steps_from.bind (ma_cons (me_ix c (me_var 0 (by decide) (pv 0)) (me_var 5 (by decide) (pv 5))) (ma_cons (me_ix c (me_var 1 (by decide) (pv 1)) (me_var 5 (by decide) (pv 5))) (ma_nil))) (al_cons (al_cons (al_nil))))) (tg1) (mss_one (ms_if (mt_c (c_eq c) (me_sl c (me_var 6 (by decide) (pv 6)) (mo_some (me_int)) (mo_some (me_int))) (me_tup (ma_cons (me_str) (ma_cons (me_var 3 (by decide) (pv 3)) (ma_cons (me_ix c (me_var 4 (by decide) (pv 4)) (me_int)) (ma_nil)))) (al_cons (al_cons (al_cons (al_nil)))))) (mss_cons (ms_set c (by decide) (me_call0 I.f_with_states (hr.mono (Nat.le_succ _)) t.g_with_states t.d_with_states.fn.kp t.d_with_states.bind (ma_cons (me_var 1 (by decide) (pv 1)) (ma_cons (me_var 3 (by decide) (pv 3)) (ma_cons (me_ix c (me_var 4 (by decide) (pv 4)) (me_int)) (ma_cons (me_var 5 (by decide) (pv 5)) (ma_cons (me_ix c (me_var 6 (by decide) (pv 6)) (me_int)) (ma_nil)))))) (al_cons (al_cons (al_cons (al_cons (al_cons (al_nil))))))))
    (mss_one (ms_append c (by decide) (pv 2) (me_tup (ma_cons (me_var 3 (by decide) (pv 3)) (ma_cons (me_var 5 (by decide) (pv 5)) (ma_cons (me_ix c (me_var 4 (by decide) (pv 4)) (me_int)) (ma_cons (me_var 7 (by decide) (pv 7)) (ma_nil))))) (al_cons (al_cons (al_cons (al_cons (al_nil))))))))) (mss_nil))))) (mss_nil)))))))
    (mss_one (ms_ret (me_sorted c (by rfl) (me_var 2 (by decide) (pv 2))))))
theorem ok_with_states (t : Txt K mg) {n : Nat} (I : Ok t P w base n) : FnOk P w K mg base CX0 (lv (n + 1)) t.d_with_states.fa t.d_with_states.fd ["states", "one", "first", "two", "second"] (spF (t.G w) (callN tbl (n + 1)) 37 5) := by
  refine fn_ok (O := [5]) (k := lv n + 1) (body := b_with_states (callN tbl n)) t.d_with_states.fn sc_with_states t.bl rfl rfl rfl (by decide) (lv_ge n) (fun _ _ => rfl) (fun cdv A outer s H E hr c => ?_)
  unfold b_with_states
  exact mss_cons (ms_setF c (by decide) (mf_list c (by rfl) (me_var 0 (by decide) (pv 0))) eList_list)
    (mss_cons (ms_ownSet (by decide) (me_var 2 (by decide) (pv 2)) (pv 5) (me_var 1 (by decide) (pv 1)))
    (mss_cons (ms_ownSet (by decide) (me_var 4 (by decide) (pv 4)) (pv 5) (me_var 3 (by decide) (pv 3)))
    (mss_one (ms_ret (me_tuple c (by rfl) (me_var 5 (by decide) (pv 5)))))))
theorem ok_reached (t : Txt K mg) {n : Nat} (I : Ok t P w base n) : FnOk P w K mg base CX0 (lv (n + 1)) t.d_reached.fa t.d_reached.fd ["machines"] (spF (t.G w) (callN tbl (n + 1)) 38 1) := by
  refine fn_ok (O := [1]) (k := lv n + 1) (body := b_reached (callN tbl n)) t.d_reached.fn sc_reached t.bl rfl rfl rfl (by decide) (lv_ge n) (fun _ _ => rfl) (fun cdv A outer s H E hr c => ?_)
  unfold b_reached l1_reached l0_reached
  exact mss_cons (ms_setF c (by decide) (mf_lst (ma_cons (me_call0 I.f_begin (hr.mono (Nat.le_succ _)) t.g_begin_handshakes t.d_begin.fn.kp t.d_begin.bind (ma_cons (me_var 0 (by decide) (pv 0)) (ma_nil)) (al_cons (al_nil))) (ma_nil)) (al_cons (al_nil))) eLst_list)
    (mss_cons (ms_set c (by decide) (me_int))
    (mss_cons (ms_while 4000 c (mt_w (mw_and (mt_c (c_lt c) (me_var 2 (by decide) (pv 2)) (me_len c (by rfl) (me_own 1 (pv 1)))) (mw_and1 (mt_c (c_lt c) (me_len c (by rfl) (me_own 1 (pv 1))) (me_gint (by rfl) t.c_MOST_handshakes))))) (mss_cons (ms_for c (by decide) (mi_sq c (me_call0 I.f_meets (hr.mono (Nat.le_succ _)) t.g_meets t.d_meets.fn.kp t.d_meets.bind (ma_cons (me_var 0 (by decide) (pv 0)) (ma_cons (me_ix c (me_own 1 (pv 1)) (me_var 2 (by decide) (pv 2))) (ma_nil))) (al_cons (al_cons (al_nil))))) (TgOk.t (gs_cons c (gs_cons c (gs_cons c (gs_cons c (gs_nil))))) rfl rfl) (mss_one (ms_if (mt_c (c_notIn c) (me_var 4 (by decide) (pv 4)) (me_own 1 (pv 1))) (mss_one (ms_append c (by decide) (pv 1) (me_var 4 (by decide) (pv 4)))) (mss_nil))))
    (mss_one (ms_augAdd c (by decide) (me_int)))))
    (mss_one (ms_ret (me_var 1 (by decide) (pv 1))))))
theorem ok_is_over_2 (t : Txt K mg) {n : Nat} (I : Ok t P w base n) : FnOk P w K mg base CX0 (lv (n + 1)) t.d_is_over_2.fa t.d_is_over_2.fd ["machines", "states"] (spF (t.G w) (callN tbl (n + 1)) 39 2) := by
  refine fn_ok (O := []) (k := lv n + 1) (body := b_is_over_2 (callN tbl n)) t.d_is_over_2.fn sc_is_over_2 t.bl rfl rfl rfl (by decide) (lv_ge n) (fun _ _ => rfl) (fun cdv A outer s H E hr c => ?_)
  unfold b_is_over_2
  exact mss_one (ms_ret (me_all c (by rfl) (me_comp (mf_comp c (own := ([("k", 2)] : List (Str × Nat))) (toc (mi_rg1 c (by rfl) (me_len c (by rfl) (me_var 0 (by decide) (pv 0))))) (blk_ok (by rfl)) rfl (by decide) (by decide) (fun _ _ _ _ _ => tg1) (fun _ _ _ _ _ cb => mts_nil) (fun _ _ _ _ _ cb => me_c (c_eq cb) (me_len cb (by rfl) (me_call0 I.f_steps_from (hr.mono (Nat.le_succ _)) t.g_steps_from t.d_steps_from.fn.kp t.d_steps_from.bind (ma_cons (me_ix cb (me_var 0 (by decide) (pv 0)) (me_var 2 (by decide) (pv 2))) (ma_cons (me_ix cb (me_var 1 (by decide) (pv 1)) (me_var 2 (by decide) (pv 2))) (ma_nil))) (al_cons (al_cons (al_nil))))) (me_int))) eComp_list)))
theorem ok_dead_end (t : Txt K mg) {n : Nat} (I : Ok t P w base n) : FnOk P w K mg base CX0 (lv (n + 1)) t.d_dead_end.fa t.d_dead_end.fd ["machines"] (spF (t.G w) (callN tbl (n + 1)) 40 1) := by
  refine fn_ok (O := []) (k := lv n + 1) (body := b_dead_end (callN tbl n)) t.d_dead_end.fn sc_dead_end t.bl rfl rfl rfl (by decide) (lv_ge n) (fun _ _ => rfl) (fun cdv A outer s H E hr c => ?_)
  unfold b_dead_end l0_dead_end
  exact mss_cons (ms_for c (by decide) (mi_sq c (me_call0 I.f_reached (hr.mono (Nat.le_succ _)) t.g_reached_handshakes t.d_reached.fn.kp t.d_reached.bind (ma_cons (me_var 0 (by decide) (pv 0)) (ma_nil)) (al_cons (al_nil)))) (tg1) (mss_one (ms_if (mt_w (mw_and (mt_c (c_eq c) (me_len c (by rfl) (me_call0 I.f_meets (hr.mono (Nat.le_succ _)) t.g_meets t.d_meets.fn.kp t.d_meets.bind (ma_cons (me_var 0 (by decide) (pv 0)) (ma_cons (me_var 1 (by decide) (pv 1)) (ma_nil))) (al_cons (al_cons (al_nil))))) (me_int)) (mw_and1 (mt_not (mt_val (me_call0 I.f_is_over_2 (hr.mono (Nat.le_succ _)) t.g_is_over_handshakes t.d_is_over_2.fn.kp t.d_is_over_2.bind (ma_cons (me_var 0 (by decide) (pv 0)) (ma_cons (me_var 1 (by decide) (pv 1)) (ma_nil))) (al_cons (al_cons (al_nil))))))))) (mss_one (ms_ret (me_var 1 (by decide) (pv 1)))) (mss_nil))))
    (mss_one (ms_ret (me_non)))
theorem ok__law_power (t : Txt K mg) {n : Nat} (I : Ok t P w base n) : FnOk P w K mg base CX0 (lv (n + 1)) t.d__law_power.fa t.d__law_power.fd ["base", "times"] (spF (t.G w) (callN tbl (n + 1)) 41 2) := by
  refine fn_ok (O := []) (k := lv n + 1) (body := b__law_power (callN tbl n)) t.d__law_power.fn sc__law_power t.bl rfl rfl rfl (by decide) (lv_ge n) (fun _ _ => rfl) (fun cdv A outer s H E hr c => ?_)
  unfold b__law_power l0__law_power
  exact mss_cons (ms_set c (by decide) (me_int))
    (mss_cons (ms_for c (by decide) (mi_rg1 c (by rfl) (me_var 1 (by decide) (pv 1))) (tg1) (mss_one (ms_set c (by decide) (me_mul (me_var 2 (by decide) (pv 2)) (me_var 0 (by decide) (pv 0))))))
    (mss_one (ms_ret (me_var 2 (by decide) (pv 2)))))
theorem ok_put_for (t : Txt K mg) {n : Nat} (I : Ok t P w base n) : FnOk P w K mg base CX0 (lv (n + 1)) t.d_put_for.fa t.d_put_for.fd ["value", "name", "other"] (spF (t.G w) (callN tbl (n + 1)) 42 3) := by
  refine fn_ok (O := []) (k := lv n + 1) (body := b_put_for (callN tbl n)) t.d_put_for.fn sc_put_for t.bl rfl rfl rfl (by decide) (lv_ge n) (fun _ _ => rfl) (fun cdv A outer s H E hr c => ?_)
  unfold b_put_for
  exact mss_cons (ms_if (mt_c (c_eq c) (me_ix c (me_var 0 (by decide) (pv 0)) (me_int)) (me_str)) (mss_one (ms_ret (me_if (mt_c (c_eq c) (me_ix c (me_var 0 (by decide) (pv 0)) (me_int)) (me_var 1 (by decide) (pv 1))) (me_var 2 (by decide) (pv 2)) (me_var 0 (by decide) (pv 0))))) (mss_nil))
    (mss_cons (ms_if (mt_c (c_eq c) (me_ix c (me_var 0 (by decide) (pv 0)) (me_int)) (me_str)) (mss_one (ms_ret (me_if (mt_c (c_eq c) (me_ix c (me_var 0 (by decide) (pv 0)) (me_int)) (me_var 1 (by decide) (pv 1))) (me_var 0 (by decide) (pv 0)) (me_tup (ma_cons (me_str) (ma_cons (me_ix c (me_var 0 (by decide) (pv 0)) (me_int)) (ma_cons (me_call0 I.f_put_for (hr.mono (Nat.le_succ _)) t.g_put_for_talks t.d_put_for.fn.kp t.d_put_for.bind (ma_cons (me_ix c (me_var 0 (by decide) (pv 0)) (me_int)) (ma_cons (me_var 1 (by decide) (pv 1)) (ma_cons (me_var 2 (by decide) (pv 2)) (ma_nil)))) (al_cons (al_cons (al_cons (al_nil))))) (ma_nil)))) (al_cons (al_cons (al_cons (al_nil)))))))) (mss_nil))
    (mss_cons (ms_if (mt_c (c_eq c) (me_ix c (me_var 0 (by decide) (pv 0)) (me_int)) (me_str)) (mss_one (ms_ret (me_add c (me_sl c (me_var 0 (by decide) (pv 0)) (mo_no) (mo_some (me_int))) (me_tup (ma_cons (me_tuple c (by rfl) (me_comp (mf_comp c (own := ([("letter", 3), ("after", 4)] : List (Str × Nat))) (toc (mi_sq c (me_ix c (me_var 0 (by decide) (pv 0)) (me_int)))) (blk_ok (by rfl)) rfl (by decide) (by decide) (fun s_ H_ C_ l_ f_ => TgOk.t (gs_cons (c.blk s_ H_ _ _ f_) (gs_cons (c.blk s_ H_ _ _ f_) (gs_nil))) rfl rfl) (fun _ _ _ _ _ cb => mts_nil) (fun _ _ _ _ _ cb => me_tup (ma_cons (me_var 3 (by decide) (pv 3)) (ma_cons (me_call0 I.f_put_for (hr.mono (Nat.le_succ _)) t.g_put_for_talks t.d_put_for.fn.kp t.d_put_for.bind (ma_cons (me_var 4 (by decide) (pv 4)) (ma_cons (me_var 1 (by decide) (pv 1)) (ma_cons (me_var 2 (by decide) (pv 2)) (ma_nil)))) (al_cons (al_cons (al_cons (al_nil))))) (ma_nil))) (al_cons (al_cons (al_nil))))) eComp_list)) (ma_nil)) (al_cons (al_nil)))))) (mss_nil))
    (mss_one (ms_ret (me_var 0 (by decide) (pv 0))))))
theorem ok_opened (t : Txt K mg) {n : Nat} (I : Ok t P w base n) : FnOk P w K mg base CX0 (lv (n + 1)) t.d_opened.fa t.d_opened.fd ["value"] (spF (t.G w) (callN tbl (n + 1)) 43 1) := by
  refine fn_ok (O := []) (k := lv n + 1) (body := b_opened (callN tbl n)) t.d_opened.fn sc_opened t.bl rfl rfl rfl (by decide) (lv_ge n) (fun _ _ => rfl) (fun cdv A outer s H E hr c => ?_)
  unfold b_opened l0_opened
  exact mss_cons (ms_while 10 c (mt_c (c_eq c) (me_ix c (me_var 0 (by decide) (pv 0)) (me_int)) (me_str)) (mss_one (ms_set c (by decide) (me_call0 I.f_put_for (hr.mono (Nat.le_succ _)) t.g_put_for_talks t.d_put_for.fn.kp t.d_put_for.bind (ma_cons (me_ix c (me_var 0 (by decide) (pv 0)) (me_int)) (ma_cons (me_ix c (me_var 0 (by decide) (pv 0)) (me_int)) (ma_cons (me_var 0 (by decide) (pv 0)) (ma_nil)))) (al_cons (al_cons (al_cons (al_nil))))))))
    (mss_one (ms_ret (me_var 0 (by decide) (pv 0))))
theorem ok_next_said (t : Txt K mg) {n : Nat} (I : Ok t P w base n) : FnOk P w K mg base CX0 (lv (n + 1)) t.d_next_said.fa t.d_next_said.fd ["talk"] (spF (t.G w) (callN tbl (n + 1)) 44 1) := by
  refine fn_ok (O := []) (k := lv n + 1) (body := b_next_said (callN tbl n)) t.d_next_said.fn sc_next_said t.bl rfl rfl rfl (by decide) (lv_ge n) (fun _ _ => rfl) (fun cdv A outer s H E hr c => ?_)
  unfold b_next_said
  exact mss_one (ms_ret (me_sortSetT c (by rfl) (by rfl) (me_call0 I.f_said_without (hr.mono (Nat.le_succ _)) t.g_said_without t.d_said_without.fn.kp t.d_said_without.bind (ma_cons (me_var 0 (by decide) (pv 0)) (ma_cons (me_lst (ma_nil) (al_nil)) (ma_cons (me_lst (ma_nil) (al_nil)) (ma_nil)))) (al_cons (al_cons (al_cons (al_nil)))))))
theorem ok_said_without (t : Txt K mg) {n : Nat} (I : Ok t P w base n) : FnOk P w K mg base CX0 (lv (n + 1)) t.d_said_without.fa t.d_said_without.fd ["talk", "busy", "seen"] (spF (t.G w) (callN tbl (n + 1)) 45 3) := by
  refine fn_ok (O := []) (k := lv n + 1) (body := b_said_without (callN tbl n)) t.d_said_without.fn sc_said_without t.bl rfl rfl rfl (by decide) (lv_ge n) (fun _ _ => rfl) (fun cdv A outer s H E hr c => ?_)
  unfold b_said_without
  exact mss_cons (ms_set c (by decide) (me_call0 I.f_opened (hr.mono (Nat.le_succ _)) t.g_opened_talks t.d_opened.fn.kp t.d_opened.bind (ma_cons (me_var 0 (by decide) (pv 0)) (ma_nil)) (al_cons (al_nil))))
    (mss_cons (ms_if (mt_w (mw_or (mt_c (c_eq c) (me_ix c (me_var 0 (by decide) (pv 0)) (me_int)) (me_str)) (mw_or1 (mt_c (c_in c) (me_var 0 (by decide) (pv 0)) (me_var 2 (by decide) (pv 2)))))) (mss_one (ms_ret (me_lst (ma_nil) (al_nil)))) (mss_nil))
    (mss_cons (ms_if (mt_c (c_eq c) (me_ix c (me_var 0 (by decide) (pv 0)) (me_int)) (me_str)) (mss_one (ms_ret (me_add c (me_call0 I.f_said_without (hr.mono (Nat.le_succ _)) t.g_said_without t.d_said_without.fn.kp t.d_said_without.bind (ma_cons (me_ix c (me_var 0 (by decide) (pv 0)) (me_int)) (ma_cons (me_var 1 (by decide) (pv 1)) (ma_cons (me_var 2 (by decide) (pv 2)) (ma_nil)))) (al_cons (al_cons (al_cons (al_nil))))) (me_call0 I.f_said_without (hr.mono (Nat.le_succ _)) t.g_said_without t.d_said_without.fn.kp t.d_said_without.bind (ma_cons (me_ix c (me_var 0 (by decide) (pv 0)) (me_int)) (ma_cons (me_var 1 (by decide) (pv 1)) (ma_cons (me_var 2 (by decide) (pv 2)) (ma_nil)))) (al_cons (al_cons (al_cons (al_nil)))))))) (mss_nil))
    (mss_cons (ms_unp c (by decide) (TgOk.t (gs_cons c (gs_cons c (gs_cons c (gs_cons c (gs_nil))))) rfl rfl) (me_var 0 (by decide) (pv 0)))
    (mss_cons (ms_set c (by decide) (me_lst (ma_nil) (al_nil)))
    (mss_cons (ms_if (mt_w (mw_and (mt_c (c_notIn c) (me_var 4 (by decide) (pv 4)) (me_var 1 (by decide) (pv 1))) (mw_and1 (mt_c (c_notIn c) (me_var 5 (by decide) (pv 5)) (me_var 1 (by decide) (pv 1)))))) (mss_one (ms_setLc c (by decide) (own := ([("letter", 12), ("_", 3)] : List (Str × Nat))) (toc (mi_sq c (me_var 6 (by decide) (pv 6)))) (blk_ok (by rfl)) rfl (by decide) (by decide) (fun s_ H_ C_ l_ f_ => TgOk.t (gs_cons (c.blk s_ H_ _ _ f_) (gs_cons (c.blk s_ H_ _ _ f_) (gs_nil))) rfl rfl) (fun _ _ _ _ _ cb => mts_nil) (fun _ _ _ _ _ cb => me_tup (ma_cons (me_var 4 (by decide) (pv 4)) (ma_cons (me_var 5 (by decide) (pv 5)) (ma_cons (me_var 12 (by decide) (pv 12)) (ma_nil)))) (al_cons (al_cons (al_cons (al_nil))))) (by rfl))) (mss_nil))
    (mss_cons (ms_set c (by decide) (me_comp (mf_comp c (own := ([("_", 3), ("after", 10)] : List (Str × Nat))) (toc (mi_sq c (me_var 6 (by decide) (pv 6)))) (blk_ok (by rfl)) rfl (by decide) (by decide) (fun s_ H_ C_ l_ f_ => TgOk.t (gs_cons (c.blk s_ H_ _ _ f_) (gs_cons (c.blk s_ H_ _ _ f_) (gs_nil))) rfl rfl) (fun _ _ _ _ _ cb => mts_nil) (fun _ _ _ _ _ cb => me_call0 I.f_said_without (hr.mono (Nat.le_succ _)) t.g_said_without t.d_said_without.fn.kp t.d_said_without.bind (ma_cons (me_var 10 (by decide) (pv 10)) (ma_cons (me_add cb (me_var 1 (by decide) (pv 1)) (me_lst (ma_cons (me_var 4 (by decide) (pv 4)) (ma_cons (me_var 5 (by decide) (pv 5)) (ma_nil))) (al_cons (al_cons (al_nil))))) (ma_cons (me_add cb (me_var 2 (by decide) (pv 2)) (me_lst (ma_cons (me_var 0 (by decide) (pv 0)) (ma_nil)) (al_cons (al_nil)))) (ma_nil)))) (al_cons (al_cons (al_cons (al_nil)))))) eComp_list))
    (mss_cons (ms_setLc c (by decide) (own := ([("saying", 11)] : List (Str × Nat))) (toc (mi_sq c (me_ix c (me_var 8 (by decide) (pv 8)) (me_int)))) (blk_ok (by rfl)) rfl (by decide) (by decide) (fun _ _ _ _ _ => tg1) (fun _ _ _ _ _ cb => mts_one (mt_val (me_all cb (by rfl) (me_comp (mf_comp cb (own := ([("row", 13)] : List (Str × Nat))) (toc (mi_sq cb (me_var 8 (by decide) (pv 8)))) (blk_ok (by rfl)) rfl (by decide) (by decide) (fun _ _ _ _ _ => tg1) (fun _ _ _ _ _ cbb => mts_nil) (fun _ _ _ _ _ cbb => me_c (c_in cbb) (me_var 11 (by decide) (pv 11)) (me_var 13 (by decide) (pv 13)))) eComp_list)))) (fun _ _ _ _ _ cb => me_var 11 (by decide) (pv 11)) (by rfl))
    (mss_one (ms_ret (me_add c (me_var 7 (by decide) (pv 7)) (me_var 9 (by decide) (pv 9))))))))))))
theorem ok_after_said (t : Txt K mg) {n : Nat} (I : Ok t P w base n) : FnOk P w K mg base CX0 (lv (n + 1)) t.d_after_said.fa t.d_after_said.fd ["talk", "saying"] (spF (t.G w) (callN tbl (n + 1)) 46 2) := by
  refine fn_ok (O := []) (k := lv n + 1) (body := b_after_said (callN tbl n)) t.d_after_said.fn sc_after_said t.bl rfl rfl rfl (by decide) (lv_ge n) (fun _ _ => rfl) (fun cdv A outer s H E hr c => ?_)
  unfold b_after_said
  exact mss_cons (ms_set c (by decide) (me_call0 I.f_opened (hr.mono (Nat.le_succ _)) t.g_opened_talks t.d_opened.fn.kp t.d_opened.bind (ma_cons (me_var 0 (by decide) (pv 0)) (ma_nil)) (al_cons (al_nil))))
    (mss_cons (ms_if (mt_c (c_eq c) (me_ix c (me_var 0 (by decide) (pv 0)) (me_int)) (me_str)) (mss_cons (ms_if (mt_c (c_in c) (me_var 1 (by decide) (pv 1)) (me_call0 I.f_next_said (hr.mono (Nat.le_succ _)) t.g_next_said t.d_next_said.fn.kp t.d_next_said.bind (ma_cons (me_ix c (me_var 0 (by decide) (pv 0)) (me_int)) (ma_nil)) (al_cons (al_nil)))) (mss_one (ms_ret (me_call0 I.f_beside (hr.mono (Nat.le_succ _)) t.g_beside t.d_beside.fn.kp t.d_beside.bind (ma_cons (me_call0 I.f_after_said (hr.mono (Nat.le_succ _)) t.g_after_said t.d_after_said.fn.kp t.d_after_said.bind (ma_cons (me_ix c (me_var 0 (by decide) (pv 0)) (me_int)) (ma_cons (me_var 1 (by decide) (pv 1)) (ma_nil))) (al_cons (al_cons (al_nil)))) (ma_cons (me_ix c (me_var 0 (by decide) (pv 0)) (me_int)) (ma_nil))) (al_cons (al_cons (al_nil)))))) (mss_nil))
    (mss_one (ms_ret (me_call0 I.f_beside (hr.mono (Nat.le_succ _)) t.g_beside t.d_beside.fn.kp t.d_beside.bind (ma_cons (me_ix c (me_var 0 (by decide) (pv 0)) (me_int)) (ma_cons (me_call0 I.f_after_said (hr.mono (Nat.le_succ _)) t.g_after_said t.d_after_said.fn.kp t.d_after_said.bind (ma_cons (me_ix c (me_var 0 (by decide) (pv 0)) (me_int)) (ma_cons (me_var 1 (by decide) (pv 1)) (ma_nil))) (al_cons (al_cons (al_nil)))) (ma_nil))) (al_cons (al_cons (al_nil))))))) (mss_nil))
    (mss_cons (ms_unp c (by decide) (TgOk.t (gs_cons c (gs_cons c (gs_cons c (gs_cons c (gs_nil))))) rfl rfl) (me_var 0 (by decide) (pv 0)))
    (mss_cons (ms_if (mt_c (c_eq c) (me_sl c (me_var 1 (by decide) (pv 1)) (mo_no) (mo_some (me_int))) (me_tup (ma_cons (me_var 3 (by decide) (pv 3)) (ma_cons (me_var 4 (by decide) (pv 4)) (ma_nil))) (al_cons (al_cons (al_nil))))) (mss_one (ms_ret (me_dictIx c (by rfl) (me_var 5 (by decide) (pv 5)) (me_ix c (me_var 1 (by decide) (pv 1)) (me_int))))) (mss_nil))
    (mss_one (ms_ret (me_add c (me_sl c (me_var 0 (by decide) (pv 0)) (mo_no) (mo_some (me_int))) (me_tup (ma_cons (me_tuple c (by rfl) (me_comp (mf_comp c (own := ([("letter", 6), ("after", 7)] : List (Str × Nat))) (toc (mi_sq c (me_var 5 (by decide) (pv 5)))) (blk_ok (by rfl)) rfl (by decide) (by decide) (fun s_ H_ C_ l_ f_ => TgOk.t (gs_cons (c.blk s_ H_ _ _ f_) (gs_cons (c.blk s_ H_ _ _ f_) (gs_nil))) rfl rfl) (fun _ _ _ _ _ cb => mts_nil) (fun _ _ _ _ _ cb => me_tup (ma_cons (me_var 6 (by decide) (pv 6)) (ma_cons (me_call0 I.f_after_said (hr.mono (Nat.le_succ _)) t.g_after_said t.d_after_said.fn.kp t.d_after_said.bind (ma_cons (me_var 7 (by decide) (pv 7)) (ma_cons (me_var 1 (by decide) (pv 1)) (ma_nil))) (al_cons (al_cons (al_nil)))) (ma_nil))) (al_cons (al_cons (al_nil))))) eComp_list)) (ma_nil)) (al_cons (al_nil)))))))))
theorem ok_beside (t : Txt K mg) {n : Nat} (I : Ok t P w base n) : FnOk P w K mg base CX0 (lv (n + 1)) t.d_beside.fa t.d_beside.fd ["one", "two"] (spF (t.G w) (callN tbl (n + 1)) 47 2) := by
  refine fn_ok (O := []) (k := lv n + 1) (body := b_beside (callN tbl n)) t.d_beside.fn sc_beside t.bl rfl rfl rfl (by decide) (lv_ge n) (fun _ _ => rfl) (fun cdv A outer s H E hr c => ?_)
  unfold b_beside
  exact mss_cons (ms_if (mt_c (c_eq c) (me_call0 I.f_opened (hr.mono (Nat.le_succ _)) t.g_opened_talks t.d_opened.fn.kp t.d_opened.bind (ma_cons (me_var 0 (by decide) (pv 0)) (ma_nil)) (al_cons (al_nil))) (me_glob (by rfl) t.c_END (v := V.ref t.a_END) rfl t.d_END)) (mss_one (ms_ret (me_var 1 (by decide) (pv 1)))) (mss_nil))
    (mss_one (ms_ret (me_if (mt_c (c_eq c) (me_call0 I.f_opened (hr.mono (Nat.le_succ _)) t.g_opened_talks t.d_opened.fn.kp t.d_opened.bind (ma_cons (me_var 1 (by decide) (pv 1)) (ma_nil)) (al_cons (al_nil))) (me_glob (by rfl) t.c_END (v := V.ref t.a_END) rfl t.d_END)) (me_var 0 (by decide) (pv 0)) (me_tup (ma_cons (me_str) (ma_cons (me_var 0 (by decide) (pv 0)) (ma_cons (me_var 1 (by decide) (pv 1)) (ma_nil)))) (al_cons (al_cons (al_cons (al_nil))))))))
theorem ok_is_over (t : Txt K mg) {n : Nat} (I : Ok t P w base n) : FnOk P w K mg base CX0 (lv (n + 1)) t.d_is_over.fa t.d_is_over.fd ["talk"] (spF (t.G w) (callN tbl (n + 1)) 48 1) := by
  refine fn_ok (O := []) (k := lv n + 1) (body := b_is_over (callN tbl n)) t.d_is_over.fn sc_is_over t.bl rfl rfl rfl (by decide) (lv_ge n) (fun _ _ => rfl) (fun cdv A outer s H E hr c => ?_)
  unfold b_is_over
  exact mss_cons (ms_set c (by decide) (me_call0 I.f_opened (hr.mono (Nat.le_succ _)) t.g_opened_talks t.d_opened.fn.kp t.d_opened.bind (ma_cons (me_var 0 (by decide) (pv 0)) (ma_nil)) (al_cons (al_nil))))
    (mss_cons (ms_if (mt_c (c_eq c) (me_ix c (me_var 0 (by decide) (pv 0)) (me_int)) (me_str)) (mss_one (ms_ret (me_and (me_call0 I.f_is_over (hr.mono (Nat.le_succ _)) t.g_is_over_walks t.d_is_over.fn.kp t.d_is_over.bind (ma_cons (me_ix c (me_var 0 (by decide) (pv 0)) (me_int)) (ma_nil)) (al_cons (al_nil))) (me_one (me_call0 I.f_is_over (hr.mono (Nat.le_succ _)) t.g_is_over_walks t.d_is_over.fn.kp t.d_is_over.bind (ma_cons (me_ix c (me_var 0 (by decide) (pv 0)) (me_int)) (ma_nil)) (al_cons (al_nil))))))) (mss_nil))
    (mss_one (ms_ret (me_c (c_eq c) (me_var 0 (by decide) (pv 0)) (me_glob (by rfl) t.c_END (v := V.ref t.a_END) rfl t.d_END)))))
theorem ok_written (t : Txt K mg) {n : Nat} (I : Ok t P w base n) : FnOk P w K mg base CX0 (lv (n + 1)) t.d_written.fa t.d_written.fd ["talk"] (spF (t.G w) (callN tbl (n + 1)) 49 1) := by
  refine fn_ok (O := []) (k := lv n + 1) (body := b_written (callN tbl n)) t.d_written.fn sc_written t.bl rfl rfl rfl (by decide) (lv_ge n) (fun _ _ => rfl) (fun cdv A outer s H E hr c => ?_)
  unfold b_written
  exact mss_cons (ms_set c (by decide) (me_call0 I.f_opened (hr.mono (Nat.le_succ _)) t.g_opened_talks t.d_opened.fn.kp t.d_opened.bind (ma_cons (me_var 0 (by decide) (pv 0)) (ma_nil)) (al_cons (al_nil))))
    (mss_cons (ms_if (mt_c (c_eq c) (me_ix c (me_var 0 (by decide) (pv 0)) (me_int)) (me_str)) (mss_one (ms_ret (me_lst (ma_nil) (al_nil)))) (mss_nil))
    (mss_cons (ms_if (mt_c (c_eq c) (me_ix c (me_var 0 (by decide) (pv 0)) (me_int)) (me_str)) (mss_cons (ms_setLc c (by decide) (own := ([("saying", 4), ("after", 3)] : List (Str × Nat))) (toc (mi_sq c (me_call0 I.f_written (hr.mono (Nat.le_succ _)) t.g_written t.d_written.fn.kp t.d_written.bind (ma_cons (me_ix c (me_var 0 (by decide) (pv 0)) (me_int)) (ma_nil)) (al_cons (al_nil))))) (blk_ok (by rfl)) rfl (by decide) (by decide) (fun s_ H_ C_ l_ f_ => TgOk.t (gs_cons (c.blk s_ H_ _ _ f_) (gs_cons (c.blk s_ H_ _ _ f_) (gs_nil))) rfl rfl) (fun _ _ _ _ _ cb => mts_nil) (fun _ _ _ _ _ cb => me_tup (ma_cons (me_var 4 (by decide) (pv 4)) (ma_cons (me_call0 I.f_beside (hr.mono (Nat.le_succ _)) t.g_beside t.d_beside.fn.kp t.d_beside.bind (ma_cons (me_var 3 (by decide) (pv 3)) (ma_cons (me_ix cb (me_var 0 (by decide) (pv 0)) (me_int)) (ma_nil))) (al_cons (al_cons (al_nil)))) (ma_nil))) (al_cons (al_cons (al_nil)))) (by rfl))
    (mss_one (ms_ret (me_add c (me_var 1 (by decide) (pv 1)) (me_comp (mf_comp c (own := ([("saying", 4), ("after", 3)] : List (Str × Nat))) (toc (mi_sq c (me_call0 I.f_written (hr.mono (Nat.le_succ _)) t.g_written t.d_written.fn.kp t.d_written.bind (ma_cons (me_ix c (me_var 0 (by decide) (pv 0)) (me_int)) (ma_nil)) (al_cons (al_nil))))) (blk_ok (by rfl)) rfl (by decide) (by decide) (fun s_ H_ C_ l_ f_ => TgOk.t (gs_cons (c.blk s_ H_ _ _ f_) (gs_cons (c.blk s_ H_ _ _ f_) (gs_nil))) rfl rfl) (fun _ _ _ _ _ cb => mts_nil) (fun _ _ _ _ _ cb => me_tup (ma_cons (me_var 4 (by decide) (pv 4)) (ma_cons (me_call0 I.f_beside (hr.mono (Nat.le_succ _)) t.g_beside t.d_beside.fn.kp t.d_beside.bind (ma_cons (me_ix cb (me_var 0 (by decide) (pv 0)) (me_int)) (ma_cons (me_var 3 (by decide) (pv 3)) (ma_nil))) (al_cons (al_cons (al_nil)))) (ma_nil))) (al_cons (al_cons (al_nil))))) eComp_list))))) (mss_nil))
    (mss_one (ms_ret (me_comp (mf_comp c (own := ([("letter", 2), ("after", 3)] : List (Str × Nat))) (toc (mi_sq c (me_ix c (me_var 0 (by decide) (pv 0)) (me_int)))) (blk_ok (by rfl)) rfl (by decide) (by decide) (fun s_ H_ C_ l_ f_ => TgOk.t (gs_cons (c.blk s_ H_ _ _ f_) (gs_cons (c.blk s_ H_ _ _ f_) (gs_nil))) rfl rfl) (fun _ _ _ _ _ cb => mts_nil) (fun _ _ _ _ _ cb => me_tup (ma_cons (me_tup (ma_cons (me_ix cb (me_var 0 (by decide) (pv 0)) (me_int)) (ma_cons (me_ix cb (me_var 0 (by decide) (pv 0)) (me_int)) (ma_cons (me_var 2 (by decide) (pv 2)) (ma_nil)))) (al_cons (al_cons (al_cons (al_nil))))) (ma_cons (me_var 3 (by decide) (pv 3)) (ma_nil))) (al_cons (al_cons (al_nil))))) eComp_list)))))
theorem ok_Counter_init (t : Txt K mg) {n : Nat} (I : Ok t P w base n) : FnOk P w K mg base CX0 (lv (n + 1)) t.d_Counter_init.fa t.d_Counter_init.fd ["self"] (spF (t.G w) (callN tbl (n + 1)) 50 1) := by
  refine fn_ok (O := []) (k := lv n + 1) (body := b_Counter_init (callN tbl n)) t.d_Counter_init.fn sc_Counter_init t.bl rfl rfl rfl (by decide) (lv_ge n) (fun _ _ => rfl) (fun cdv A outer s H E hr c => ?_)
  unfold b_Counter_init
  exact mss_one (ms_fld t.cl_Counter t.n_Counter_kept (by exact (show (["kept"] : List Str).Nodup by decide +kernel)) (i := 0) rfl (by exact (show (["kept"] : List Str).length < 1000 by decide +kernel)) (me_keptNew c) (me_var 0 (by decide) (pv 0)) (by rfl))
theorem ok_Counter_rows (t : Txt K mg) {n : Nat} (I : Ok t P w base n) : FnOk P w K mg base CX0 (lv (n + 1)) t.d_Counter_rows.fa t.d_Counter_rows.fd ["self", "talk", "many", "ended"] (spF (t.G w) (callN tbl (n + 1)) 51 4) := by
  refine fn_ok (O := []) (k := lv n + 1) (body := b_Counter_rows (callN tbl n)) t.d_Counter_rows.fn sc_Counter_rows t.bl rfl rfl rfl (by decide) (lv_ge n) (fun _ _ => rfl) (fun cdv A outer s H E hr c => ?_)
  unfold b_Counter_rows
  exact mss_cons (ms_if (mt_notInK c (me_tup (ma_cons (me_var 1 (by decide) (pv 1)) (ma_cons (me_var 2 (by decide) (pv 2)) (ma_cons (me_var 3 (by decide) (pv 3)) (ma_nil)))) (al_cons (al_cons (al_cons (al_nil))))) (me_fld c.hK t.cl_Counter t.n_Counter_kept (by exact (show (["kept"] : List Str).Nodup by decide +kernel)) (i := 0) rfl (me_var 0 (by decide) (pv 0)))) (mss_cons (ms_if (mt_c (c_eq c) (me_var 2 (by decide) (pv 2)) (me_int)) (mss_one (ms_set c (by decide) (me_int_ c (by rfl) (me_or (me_call0 I.f_is_over (hr.mono (Nat.le_succ _)) t.g_is_over_walks t.d_is_over.fn.kp t.d_is_over.bind (ma_cons (me_var 1 (by decide) (pv 1)) (ma_nil)) (al_cons (al_nil))) (me_one (me_not (me_var 3 (by decide) (pv 3)))))))) (mss_one (ms_set c (by decide) (me_sum c (by rfl) (me_comp (mf_comp c (own := ([("saying", 5)] : List (Str × Nat))) (toc (mi_sq c (me_call0 I.f_next_said (hr.mono (Nat.le_succ _)) t.g_next_said t.d_next_said.fn.kp t.d_next_said.bind (ma_cons (me_var 1 (by decide) (pv 1)) (ma_nil)) (al_cons (al_nil))))) (blk_ok (by rfl)) rfl (by decide) (by decide) (fun _ _ _ _ _ => tg1) (fun _ _ _ _ _ cb => mts_nil) (fun _ _ _ _ _ cb => me_meth0 I.f_Counter_rows (hr.mono (Nat.le_succ _)) t.cl_Counter t.meth_Counter_rows t.d_Counter_rows.bind (by exact (show ¬ ("rows" : Str) ∈ (["kept"] : List Str) by decide +kernel)) (me_var 0 (by decide) (pv 0)) (ma_cons (me_call0 I.f_after_said (hr.mono (Nat.le_succ _)) t.g_after_said t.d_after_said.fn.kp t.d_after_said.bind (ma_cons (me_var 1 (by decide) (pv 1)) (ma_cons (me_var 5 (by decide) (pv 5)) (ma_nil))) (al_cons (al_cons (al_nil)))) (ma_cons (me_sub (me_var 2 (by decide) (pv 2)) (me_int)) (ma_cons (me_var 3 (by decide) (pv 3)) (ma_nil)))) (al_cons (al_cons (al_cons (al_nil)))))) eComp_list)))))
    (mss_one (ms_setK c (me_var 4 (by decide) (pv 4)) (me_fld c.hK t.cl_Counter t.n_Counter_kept (by exact (show (["kept"] : List Str).Nodup by decide +kernel)) (i := 0) rfl (me_var 0 (by decide) (pv 0))) (me_tup (ma_cons (me_var 1 (by decide) (pv 1)) (ma_cons (me_var 2 (by decide) (pv 2)) (ma_cons (me_var 3 (by decide) (pv 3)) (ma_nil)))) (al_cons (al_cons (al_cons (al_nil)))))))) (mss_nil))
    (mss_one (ms_ret (me_getK c (me_fld c.hK t.cl_Counter t.n_Counter_kept (by exact (show (["kept"] : List Str).Nodup by decide +kernel)) (i := 0) rfl (me_var 0 (by decide) (pv 0))) (me_tup (ma_cons (me_var 1 (by decide) (pv 1)) (ma_cons (me_var 2 (by decide) (pv 2)) (ma_cons (me_var 3 (by decide) (pv 3)) (ma_nil)))) (al_cons (al_cons (al_cons (al_nil))))) (by exact fun _ _ => rfl))))
theorem ok_count (t : Txt K mg) {n : Nat} (I : Ok t P w base n) : FnOk P w K mg base CX0 (lv (n + 1)) t.d_count.fa t.d_count.fd ["talk", "many", "ended"] (spF (t.G w) (callN tbl (n + 1)) 52 3) := by
  refine fn_okD (O := []) (k := lv n + 1) (body := b_count (callN tbl n)) t.d_count.fn sc_count t.bl rfl rfl rfl (by decide) (lv_ge n) (fun _ _ => rfl) (fun cdv A outer s H E hr c => ?_)
  unfold b_count
  exact mss_one (ms_ret (me_meth0 I.f_Counter_rows (hr.mono (Nat.le_succ _)) t.cl_Counter t.meth_Counter_rows t.d_Counter_rows.bind (by exact (show ¬ ("rows" : Str) ∈ (["kept"] : List Str) by decide +kernel)) (me_make00 I.f_Counter_init (hr.mono (Nat.le_refl _)) t.mk_Counter t.m_Counter t.d_Counter_init.bind) (ma_cons (me_var 0 (by decide) (pv 0)) (ma_cons (me_var 1 (by decide) (pv 1)) (ma_cons (me_var 2 (by decide) (pv 2)) (ma_nil)))) (al_cons (al_cons (al_cons (al_nil))))))
theorem ok_nth (t : Txt K mg) {n : Nat} (I : Ok t P w base n) : FnOk P w K mg base CX0 (lv (n + 1)) t.d_nth.fa t.d_nth.fd ["talk", "many", "number", "ended"] (spF (t.G w) (callN tbl (n + 1)) 53 4) := by
  refine fn_okD (O := []) (k := lv n + 1) (body := b_nth (callN tbl n)) t.d_nth.fn sc_nth t.bl rfl rfl rfl (by decide) (lv_ge n) (fun _ _ => rfl) (fun cdv A outer s H E hr c => ?_)
  unfold b_nth l1_nth l0_nth
  exact mss_cons (ms_set c (by decide) (me_make00 I.f_Counter_init (hr.mono (Nat.le_refl _)) t.mk_Counter t.m_Counter t.d_Counter_init.bind))
    (mss_cons (ms_if (mt_not (mt_chain (c_le c) (c_lt c) (me_int) (me_var 2 (by decide) (pv 2)) (me_meth0 I.f_Counter_rows (hr.mono (Nat.le_succ _)) t.cl_Counter t.meth_Counter_rows t.d_Counter_rows.bind (by exact (show ¬ ("rows" : Str) ∈ (["kept"] : List Str) by decide +kernel)) (me_var 4 (by decide) (pv 4)) (ma_cons (me_var 0 (by decide) (pv 0)) (ma_cons (me_var 1 (by decide) (pv 1)) (ma_cons (me_var 3 (by decide) (pv 3)) (ma_nil)))) (al_cons (al_cons (al_cons (al_nil))))))) (mss_never) (mss_nil))
    (mss_cons (ms_set c (by decide) (me_tup (ma_nil) (al_nil)))
    (mss_cons (ms_while 1000 c (mt_c (c_lt c) (me_len c (by rfl) (me_var 5 (by decide) (pv 5))) (me_var 1 (by decide) (pv 1))) (mss_cons (ms_for c (by decide) (mi_sq c (me_call0 I.f_next_said (hr.mono (Nat.le_succ _)) t.g_next_said t.d_next_said.fn.kp t.d_next_said.bind (ma_cons (me_var 0 (by decide) (pv 0)) (ma_nil)) (al_cons (al_nil)))) (tg1) (mss_cons (ms_set c (by decide) (me_call0 I.f_after_said (hr.mono (Nat.le_succ _)) t.g_after_said t.d_after_said.fn.kp t.d_after_said.bind (ma_cons (me_var 0 (by decide) (pv 0)) (ma_cons (me_var 6 (by decide) (pv 6)) (ma_nil))) (al_cons (al_cons (al_nil)))))
    (mss_cons (ms_set c (by decide) (me_meth0 I.f_Counter_rows (hr.mono (Nat.le_succ _)) t.cl_Counter t.meth_Counter_rows t.d_Counter_rows.bind (by exact (show ¬ ("rows" : Str) ∈ (["kept"] : List Str) by decide +kernel)) (me_var 4 (by decide) (pv 4)) (ma_cons (me_var 7 (by decide) (pv 7)) (ma_cons (me_sub (me_sub (me_var 1 (by decide) (pv 1)) (me_len c (by rfl) (me_var 5 (by decide) (pv 5)))) (me_int)) (ma_cons (me_var 3 (by decide) (pv 3)) (ma_nil)))) (al_cons (al_cons (al_cons (al_nil))))))
    (mss_cons (ms_if (mt_c (c_lt c) (me_var 2 (by decide) (pv 2)) (me_var 8 (by decide) (pv 8))) (mss_one (ms_break)) (mss_nil))
    (mss_one (ms_augSub c (by decide) (me_var 8 (by decide) (pv 8))))))))
    (mss_cons (ms_augT c (by decide) (me_tup (ma_cons (me_var 6 (by decide) (pv 6)) (ma_nil)) (al_cons (al_nil))))
    (mss_one (ms_set c (by decide) (me_var 7 (by decide) (pv 7)))))))
    (mss_one (ms_ret (me_var 5 (by decide) (pv 5)))))))
theorem ok_number_of (t : Txt K mg) {n : Nat} (I : Ok t P w base n) : FnOk P w K mg base CX0 (lv (n + 1)) t.d_number_of.fa t.d_number_of.fd ["talk", "row", "ended"] (spF (t.G w) (callN tbl (n + 1)) 54 3) := by
  refine fn_okD (O := []) (k := lv n + 1) (body := b_number_of (callN tbl n)) t.d_number_of.fn sc_number_of t.bl rfl rfl rfl (by decide) (lv_ge n) (fun _ _ => rfl) (fun cdv A outer s H E hr c => ?_)
  unfold b_number_of l1_number_of l0_number_of
  exact mss_cons (ms_set c (by decide) (me_make00 I.f_Counter_init (hr.mono (Nat.le_refl _)) t.mk_Counter t.m_Counter t.d_Counter_init.bind))
    (mss_cons (ms_set c (by decide) (me_int))
    (mss_cons (ms_for c (by decide) (mi_rg1 c (by rfl) (me_len c (by rfl) (me_var 1 (by decide) (pv 1)))) (tg1) (mss_cons (ms_set c (by decide) (me_call0 I.f_next_said (hr.mono (Nat.le_succ _)) t.g_next_said t.d_next_said.fn.kp t.d_next_said.bind (ma_cons (me_var 0 (by decide) (pv 0)) (ma_nil)) (al_cons (al_nil))))
    (mss_cons (ms_if (mt_c (c_notIn c) (me_ix c (me_var 1 (by decide) (pv 1)) (me_var 5 (by decide) (pv 5))) (me_var 6 (by decide) (pv 6))) (mss_one (ms_ret (me_non))) (mss_nil))
    (mss_cons (ms_for c (by decide) (mi_sq c (me_var 6 (by decide) (pv 6))) (tg1) (mss_one (ms_if (mt_c (c_lt c) (me_var 7 (by decide) (pv 7)) (me_ix c (me_var 1 (by decide) (pv 1)) (me_var 5 (by decide) (pv 5)))) (mss_one (ms_augAdd c (by decide) (me_meth0 I.f_Counter_rows (hr.mono (Nat.le_succ _)) t.cl_Counter t.meth_Counter_rows t.d_Counter_rows.bind (by exact (show ¬ ("rows" : Str) ∈ (["kept"] : List Str) by decide +kernel)) (me_var 3 (by decide) (pv 3)) (ma_cons (me_call0 I.f_after_said (hr.mono (Nat.le_succ _)) t.g_after_said t.d_after_said.fn.kp t.d_after_said.bind (ma_cons (me_var 0 (by decide) (pv 0)) (ma_cons (me_var 7 (by decide) (pv 7)) (ma_nil))) (al_cons (al_cons (al_nil)))) (ma_cons (me_sub (me_sub (me_len c (by rfl) (me_var 1 (by decide) (pv 1))) (me_var 5 (by decide) (pv 5))) (me_int)) (ma_cons (me_var 2 (by decide) (pv 2)) (ma_nil)))) (al_cons (al_cons (al_cons (al_nil))))))) (mss_nil))))
    (mss_one (ms_set c (by decide) (me_call0 I.f_after_said (hr.mono (Nat.le_succ _)) t.g_after_said t.d_after_said.fn.kp t.d_after_said.bind (ma_cons (me_var 0 (by decide) (pv 0)) (ma_cons (me_ix c (me_var 1 (by decide) (pv 1)) (me_var 5 (by decide) (pv 5))) (ma_nil))) (al_cons (al_cons (al_nil))))))))))
    (mss_one (ms_ret (me_if (mt_w (mw_and (mt_val (me_var 2 (by decide) (pv 2))) (mw_and1 (mt_not (mt_val (me_call0 I.f_is_over (hr.mono (Nat.le_succ _)) t.g_is_over_walks t.d_is_over.fn.kp t.d_is_over.bind (ma_cons (me_var 0 (by decide) (pv 0)) (ma_nil)) (al_cons (al_nil)))))))) (me_non) (me_var 4 (by decide) (pv 4)))))))
theorem ok_shortest (t : Txt K mg) {n : Nat} (I : Ok t P w base n) : FnOk P w K mg base CX0 (lv (n + 1)) t.d_shortest.fa t.d_shortest.fd ["talk"] (spF (t.G w) (callN tbl (n + 1)) 55 1) := by
  refine fn_ok (O := [1, 2]) (k := lv n + 1) (body := b_shortest (callN tbl n)) t.d_shortest.fn sc_shortest t.bl rfl rfl rfl (by decide) (lv_ge n) (fun _ _ => rfl) (fun cdv A outer s H E hr c => ?_)
  unfold b_shortest l1_shortest l0_shortest
  exact mss_cons (ms_setF c (by decide) (mf_lst (ma_cons (me_var 0 (by decide) (pv 0)) (ma_nil)) (al_cons (al_nil))) eLst_list)
    (mss_cons (ms_setF c (by decide) (mf_lst (ma_cons (me_int) (ma_nil)) (al_cons (al_nil))) eLst_list)
    (mss_cons (ms_set c (by decide) (me_int))
    (mss_cons (ms_while 1000 c (mt_c (c_lt c) (me_var 3 (by decide) (pv 3)) (me_len c (by rfl) (me_own 1 (pv 1)))) (mss_cons (ms_if (mt_val (me_call0 I.f_is_over (hr.mono (Nat.le_succ _)) t.g_is_over_walks t.d_is_over.fn.kp t.d_is_over.bind (ma_cons (me_ix c (me_own 1 (pv 1)) (me_var 3 (by decide) (pv 3))) (ma_nil)) (al_cons (al_nil)))) (mss_one (ms_ret (me_ix c (me_var 2 (by decide) (pv 2)) (me_var 3 (by decide) (pv 3))))) (mss_nil))
    (mss_cons (ms_for c (by decide) (mi_sq c (me_call0 I.f_written (hr.mono (Nat.le_succ _)) t.g_written t.d_written.fn.kp t.d_written.bind (ma_cons (me_ix c (me_own 1 (pv 1)) (me_var 3 (by decide) (pv 3))) (ma_nil)) (al_cons (al_nil)))) (TgOk.t (gs_cons c (gs_cons c (gs_nil))) rfl rfl) (mss_one (ms_if (mt_c (c_notIn c) (me_var 5 (by decide) (pv 5)) (me_own 1 (pv 1))) (mss_cons (ms_append c (by decide) (pv 1) (me_var 5 (by decide) (pv 5)))
    (mss_one (ms_append c (by decide) (pv 2) (me_add c (me_ix c (me_own 2 (pv 2)) (me_var 3 (by decide) (pv 3))) (me_int))))) (mss_nil))))
    (mss_one (ms_augAdd c (by decide) (me_int))))))
    (mss_one (ms_ret (me_non))))))
theorem ok_all (t : Txt K mg) : ∀ n, Ok t P w base n
  | 0 => ⟨fn_none fun _ _ => rfl, fn_none fun _ _ => rfl, fn_none fun _ _ => rfl, fn_none fun _ _ => rfl, fn_none fun _ _ => rfl, fn_none fun _ _ => rfl, fn_none fun _ _ => rfl, fn_none fun _ _ => rfl, fn_none fun _ _ => rfl, fn_none fun _ _ => rfl, fn_none fun _ _ => rfl, fn_none fun _ _ => rfl, fn_none fun _ _ => rfl, fn_none fun _ _ => rfl, fn_none fun _ _ => rfl, fn_none fun _ _ => rfl, fn_none fun _ _ => rfl, fn_none fun _ _ => rfl, fn_none fun _ _ => rfl, fn_none fun _ _ => rfl, fn_none fun _ _ => rfl, fn_none fun _ _ => rfl, fn_none fun _ _ => rfl, fn_none fun _ _ => rfl, fn_none fun _ _ => rfl, fn_none fun _ _ => rfl, fn_none fun _ _ => rfl, fn_none fun _ _ => rfl, fn_none fun _ _ => rfl, fn_none fun _ _ => rfl, fn_none fun _ _ => rfl, fn_none fun _ _ => rfl, fn_none fun _ _ => rfl, fn_none fun _ _ => rfl, fn_none fun _ _ => rfl, fn_none fun _ _ => rfl, fn_none fun _ _ => rfl, fn_none fun _ _ => rfl, fn_none fun _ _ => rfl, fn_none fun _ _ => rfl, fn_none fun _ _ => rfl, fn_none fun _ _ => rfl, fn_none fun _ _ => rfl, fn_none fun _ _ => rfl, fn_none fun _ _ => rfl, fn_none fun _ _ => rfl, fn_none fun _ _ => rfl, fn_none fun _ _ => rfl, fn_none fun _ _ => rfl, fn_none fun _ _ => rfl, fn_none fun _ _ => rfl, fn_none fun _ _ => rfl, fn_none fun _ _ => rfl, fn_none fun _ _ => rfl, fn_none fun _ _ => rfl, fn_none fun _ _ => rfl⟩
  | n + 1 => have I := ok_all t n; ⟨ok__law_same t I, ok__law_pool t I, ok__law_spread t I, ok__law_draw t I, ok__law_shuffled t I, ok_size t I, ok_law t I, ok_Parter_init t I, ok_Parter_part t I, ok_Parter_of_saying t I, ok_size_of t I, ok_parted t I, ok_parts t I, ok_opened_2 t I, ok_steps_from t I, ok_machine_of t I, ok_begin_2 t I, ok_on_way t I, ok_with_row t I, ok_moved t I, ok_deeds t I, ok_trouble_at t I, ok_is_unheard t I, ok_search t I, ok_trouble t I, ok_inner t I, ok_roles_in t I, ok_inner_2 t I, ok_goes_again t I, ok_Parter_of_loop t I, ok_ways_out t I, ok_put_for_2 t I, ok_states_in t I, ok_Parter_none_at t I, ok_reached_2 t I, ok_begin t I, ok_meets t I, ok_with_states t I, ok_reached t I, ok_is_over_2 t I, ok_dead_end t I, ok__law_power t I, ok_put_for t I, ok_opened t I, ok_next_said t I, ok_said_without t I, ok_after_said t I, ok_beside t I, ok_is_over t I, ok_written t I, ok_Counter_init t I, ok_Counter_rows t I, ok_count t I, ok_nth t I, ok_number_of t I, ok_shortest t I⟩
theorem all_mk {l : PySem.W.OpenLaw} {w : World} {K : PySem.W.Frag} {h : Heap} {mg : Str → Option Value} {fa : Addr} (N : Nat) (X : K.In h) (G : h.Ns mainGlobals mg) (hfa : mg "law" = some (.ref fa))
    {C_Parter : Addr} {C_Counter : Addr} {f__law_same : Addr} {od__law_same an__law_same : Option Addr} {sl__law_same : Array (Option Value)} {oc__law_same kV__law_same dc__law_same pm__law_same cd__law_same ct__law_same : Value} {f__law_pool : Addr} {od__law_pool an__law_pool : Option Addr} {sl__law_pool : Array (Option Value)} {oc__law_pool kV__law_pool dc__law_pool pm__law_pool cd__law_pool ct__law_pool : Value} {f__law_spread : Addr} {od__law_spread an__law_spread : Option Addr} {sl__law_spread : Array (Option Value)} {oc__law_spread kV__law_spread dc__law_spread pm__law_spread cd__law_spread ct__law_spread : Value} {f__law_draw : Addr} {od__law_draw an__law_draw : Option Addr} {sl__law_draw : Array (Option Value)} {oc__law_draw kV__law_draw dc__law_draw pm__law_draw cd__law_draw ct__law_draw : Value} {f__law_shuffled : Addr} {od__law_shuffled an__law_shuffled : Option Addr} {sl__law_shuffled : Array (Option Value)} {oc__law_shuffled kV__law_shuffled dc__law_shuffled pm__law_shuffled cd__law_shuffled ct__law_shuffled : Value} {f_size : Addr} {od_size an_size : Option Addr} {sl_size : Array (Option Value)} {oc_size kV_size dc_size pm_size cd_size ct_size : Value} {f_law : Addr} {od_law an_law : Option Addr} {sl_law : Array (Option Value)} {oc_law kV_law dc_law pm_law cd_law ct_law : Value} {f_Parter_init : Addr} {od_Parter_init an_Parter_init : Option Addr} {sl_Parter_init : Array (Option Value)} {oc_Parter_init kV_Parter_init dc_Parter_init pm_Parter_init cd_Parter_init ct_Parter_init : Value} {f_Parter_part : Addr} {od_Parter_part an_Parter_part : Option Addr} {sl_Parter_part : Array (Option Value)} {oc_Parter_part kV_Parter_part dc_Parter_part pm_Parter_part cd_Parter_part ct_Parter_part : Value} {f_Parter_of_saying : Addr} {od_Parter_of_saying an_Parter_of_saying : Option Addr} {sl_Parter_of_saying : Array (Option Value)} {oc_Parter_of_saying kV_Parter_of_saying dc_Parter_of_saying pm_Parter_of_saying cd_Parter_of_saying ct_Parter_of_saying : Value} {f_size_of : Addr} {od_size_of an_size_of : Option Addr} {sl_size_of : Array (Option Value)} {oc_size_of kV_size_of dc_size_of pm_size_of cd_size_of ct_size_of : Value} {f_parted : Addr} {od_parted an_parted : Option Addr} {sl_parted : Array (Option Value)} {oc_parted kV_parted dc_parted pm_parted cd_parted ct_parted : Value} {f_parts : Addr} {od_parts an_parts : Option Addr} {sl_parts : Array (Option Value)} {oc_parts kV_parts dc_parts pm_parts cd_parts ct_parts : Value} {f_opened_2 : Addr} {od_opened_2 an_opened_2 : Option Addr} {sl_opened_2 : Array (Option Value)} {oc_opened_2 kV_opened_2 dc_opened_2 pm_opened_2 cd_opened_2 ct_opened_2 : Value} {f_steps_from : Addr} {od_steps_from an_steps_from : Option Addr} {sl_steps_from : Array (Option Value)} {oc_steps_from kV_steps_from dc_steps_from pm_steps_from cd_steps_from ct_steps_from : Value} {f_machine_of : Addr} {od_machine_of an_machine_of : Option Addr} {sl_machine_of : Array (Option Value)} {oc_machine_of kV_machine_of dc_machine_of pm_machine_of cd_machine_of ct_machine_of : Value} {f_begin_2 : Addr} {od_begin_2 an_begin_2 : Option Addr} {sl_begin_2 : Array (Option Value)} {oc_begin_2 kV_begin_2 dc_begin_2 pm_begin_2 cd_begin_2 ct_begin_2 : Value} {f_on_way : Addr} {od_on_way an_on_way : Option Addr} {sl_on_way : Array (Option Value)} {oc_on_way kV_on_way dc_on_way pm_on_way cd_on_way ct_on_way : Value} {f_with_row : Addr} {od_with_row an_with_row : Option Addr} {sl_with_row : Array (Option Value)} {oc_with_row kV_with_row dc_with_row pm_with_row cd_with_row ct_with_row : Value} {f_moved : Addr} {od_moved an_moved : Option Addr} {sl_moved : Array (Option Value)} {oc_moved kV_moved dc_moved pm_moved cd_moved ct_moved : Value} {f_deeds : Addr} {od_deeds an_deeds : Option Addr} {sl_deeds : Array (Option Value)} {oc_deeds kV_deeds dc_deeds pm_deeds cd_deeds ct_deeds : Value} {f_trouble_at : Addr} {od_trouble_at an_trouble_at : Option Addr} {sl_trouble_at : Array (Option Value)} {oc_trouble_at kV_trouble_at dc_trouble_at pm_trouble_at cd_trouble_at ct_trouble_at : Value} {f_is_unheard : Addr} {od_is_unheard an_is_unheard : Option Addr} {sl_is_unheard : Array (Option Value)} {oc_is_unheard kV_is_unheard dc_is_unheard pm_is_unheard cd_is_unheard ct_is_unheard : Value} {f_search : Addr} {od_search an_search : Option Addr} {sl_search : Array (Option Value)} {oc_search kV_search dc_search pm_search cd_search ct_search : Value} {f_trouble : Addr} {od_trouble an_trouble : Option Addr} {sl_trouble : Array (Option Value)} {oc_trouble kV_trouble dc_trouble pm_trouble cd_trouble ct_trouble : Value} {f_inner : Addr} {od_inner an_inner : Option Addr} {sl_inner : Array (Option Value)} {oc_inner kV_inner dc_inner pm_inner cd_inner ct_inner : Value} {f_roles_in : Addr} {od_roles_in an_roles_in : Option Addr} {sl_roles_in : Array (Option Value)} {oc_roles_in kV_roles_in dc_roles_in pm_roles_in cd_roles_in ct_roles_in : Value} {f_inner_2 : Addr} {od_inner_2 an_inner_2 : Option Addr} {sl_inner_2 : Array (Option Value)} {oc_inner_2 kV_inner_2 dc_inner_2 pm_inner_2 cd_inner_2 ct_inner_2 : Value} {f_goes_again : Addr} {od_goes_again an_goes_again : Option Addr} {sl_goes_again : Array (Option Value)} {oc_goes_again kV_goes_again dc_goes_again pm_goes_again cd_goes_again ct_goes_again : Value} {f_Parter_of_loop : Addr} {od_Parter_of_loop an_Parter_of_loop : Option Addr} {sl_Parter_of_loop : Array (Option Value)} {oc_Parter_of_loop kV_Parter_of_loop dc_Parter_of_loop pm_Parter_of_loop cd_Parter_of_loop ct_Parter_of_loop : Value} {f_ways_out : Addr} {od_ways_out an_ways_out : Option Addr} {sl_ways_out : Array (Option Value)} {oc_ways_out kV_ways_out dc_ways_out pm_ways_out cd_ways_out ct_ways_out : Value} {f_put_for_2 : Addr} {od_put_for_2 an_put_for_2 : Option Addr} {sl_put_for_2 : Array (Option Value)} {oc_put_for_2 kV_put_for_2 dc_put_for_2 pm_put_for_2 cd_put_for_2 ct_put_for_2 : Value} {f_states_in : Addr} {od_states_in an_states_in : Option Addr} {sl_states_in : Array (Option Value)} {oc_states_in kV_states_in dc_states_in pm_states_in cd_states_in ct_states_in : Value} {f_Parter_none_at : Addr} {od_Parter_none_at an_Parter_none_at : Option Addr} {sl_Parter_none_at : Array (Option Value)} {oc_Parter_none_at kV_Parter_none_at dc_Parter_none_at pm_Parter_none_at cd_Parter_none_at ct_Parter_none_at : Value} {f_reached_2 : Addr} {od_reached_2 an_reached_2 : Option Addr} {sl_reached_2 : Array (Option Value)} {oc_reached_2 kV_reached_2 dc_reached_2 pm_reached_2 cd_reached_2 ct_reached_2 : Value} {f_begin : Addr} {od_begin an_begin : Option Addr} {sl_begin : Array (Option Value)} {oc_begin kV_begin dc_begin pm_begin cd_begin ct_begin : Value} {f_meets : Addr} {od_meets an_meets : Option Addr} {sl_meets : Array (Option Value)} {oc_meets kV_meets dc_meets pm_meets cd_meets ct_meets : Value} {f_with_states : Addr} {od_with_states an_with_states : Option Addr} {sl_with_states : Array (Option Value)} {oc_with_states kV_with_states dc_with_states pm_with_states cd_with_states ct_with_states : Value} {f_reached : Addr} {od_reached an_reached : Option Addr} {sl_reached : Array (Option Value)} {oc_reached kV_reached dc_reached pm_reached cd_reached ct_reached : Value} {f_is_over_2 : Addr} {od_is_over_2 an_is_over_2 : Option Addr} {sl_is_over_2 : Array (Option Value)} {oc_is_over_2 kV_is_over_2 dc_is_over_2 pm_is_over_2 cd_is_over_2 ct_is_over_2 : Value} {f_dead_end : Addr} {od_dead_end an_dead_end : Option Addr} {sl_dead_end : Array (Option Value)} {oc_dead_end kV_dead_end dc_dead_end pm_dead_end cd_dead_end ct_dead_end : Value} {f__law_power : Addr} {od__law_power an__law_power : Option Addr} {sl__law_power : Array (Option Value)} {oc__law_power kV__law_power dc__law_power pm__law_power cd__law_power ct__law_power : Value} {f_put_for : Addr} {od_put_for an_put_for : Option Addr} {sl_put_for : Array (Option Value)} {oc_put_for kV_put_for dc_put_for pm_put_for cd_put_for ct_put_for : Value} {f_opened : Addr} {od_opened an_opened : Option Addr} {sl_opened : Array (Option Value)} {oc_opened kV_opened dc_opened pm_opened cd_opened ct_opened : Value} {f_next_said : Addr} {od_next_said an_next_said : Option Addr} {sl_next_said : Array (Option Value)} {oc_next_said kV_next_said dc_next_said pm_next_said cd_next_said ct_next_said : Value} {f_said_without : Addr} {od_said_without an_said_without : Option Addr} {sl_said_without : Array (Option Value)} {oc_said_without kV_said_without dc_said_without pm_said_without cd_said_without ct_said_without : Value} {f_after_said : Addr} {od_after_said an_after_said : Option Addr} {sl_after_said : Array (Option Value)} {oc_after_said kV_after_said dc_after_said pm_after_said cd_after_said ct_after_said : Value} {f_beside : Addr} {od_beside an_beside : Option Addr} {sl_beside : Array (Option Value)} {oc_beside kV_beside dc_beside pm_beside cd_beside ct_beside : Value} {f_is_over : Addr} {od_is_over an_is_over : Option Addr} {sl_is_over : Array (Option Value)} {oc_is_over kV_is_over dc_is_over pm_is_over cd_is_over ct_is_over : Value} {f_written : Addr} {od_written an_written : Option Addr} {sl_written : Array (Option Value)} {oc_written kV_written dc_written pm_written cd_written ct_written : Value} {f_Counter_init : Addr} {od_Counter_init an_Counter_init : Option Addr} {sl_Counter_init : Array (Option Value)} {oc_Counter_init kV_Counter_init dc_Counter_init pm_Counter_init cd_Counter_init ct_Counter_init : Value} {f_Counter_rows : Addr} {od_Counter_rows an_Counter_rows : Option Addr} {sl_Counter_rows : Array (Option Value)} {oc_Counter_rows kV_Counter_rows dc_Counter_rows pm_Counter_rows cd_Counter_rows ct_Counter_rows : Value} {f_count : Addr} {od_count an_count : Option Addr} {sl_count : Array (Option Value)} {oc_count kV_count dc_count pm_count cd_count ct_count : Value} {T_count : Addr} {tc_count : Value} {to_count : Option Addr} {tn_count : Nat} {tsl_count : Array (Option Value)} {f_nth : Addr} {od_nth an_nth : Option Addr} {sl_nth : Array (Option Value)} {oc_nth kV_nth dc_nth pm_nth cd_nth ct_nth : Value} {T_nth : Addr} {tc_nth : Value} {to_nth : Option Addr} {tn_nth : Nat} {tsl_nth : Array (Option Value)} {f_number_of : Addr} {od_number_of an_number_of : Option Addr} {sl_number_of : Array (Option Value)} {oc_number_of kV_number_of dc_number_of pm_number_of cd_number_of ct_number_of : Value} {T_number_of : Addr} {tc_number_of : Value} {to_number_of : Option Addr} {tn_number_of : Nat} {tsl_number_of : Array (Option Value)} {f_shortest : Addr} {od_shortest an_shortest : Option Addr} {sl_shortest : Array (Option Value)} {oc_shortest kV_shortest dc_shortest pm_shortest cd_shortest ct_shortest : Value} {tk_MOST_handshakes : Tok} {tk_MOST_letters : Tok} {a_END : Addr} {tn_END : Nat} {tsl_END : Array (Option Value)} {tk_END_0 : Tok}
    (aC_Parter : PySem.W.nsIn K mainGlobals "Parter" = some (some (.ref C_Parter)))
    (aC_Counter : PySem.W.nsIn K mainGlobals "Counter" = some (some (.ref C_Counter)))
    (a__law_same : PySem.W.nsIn K mainGlobals "_law_same" = some (some (.ref f__law_same)))
    (l__law_same : K.lookup f__law_same = some ⟨oc__law_same, od__law_same, .func (PySem.W.fnOf "_law_same" "_law_same" (defArgs (top 71)) (defBody (top 71)) (defScope (top 71)) .none kV__law_same dc__law_same pm__law_same an__law_same cd__law_same ct__law_same), sl__law_same⟩)
    (c__law_same : PySem.W.codeIn K cd__law_same "_law_same" = true)
    (k__law_same : PySem.W.keepIn K (.ref f__law_same) = true)
    (a__law_pool : PySem.W.nsIn K mainGlobals "_law_pool" = some (some (.ref f__law_pool)))
    (l__law_pool : K.lookup f__law_pool = some ⟨oc__law_pool, od__law_pool, .func (PySem.W.fnOf "_law_pool" "_law_pool" (defArgs (top 72)) (defBody (top 72)) (defScope (top 72)) .none kV__law_pool dc__law_pool pm__law_pool an__law_pool cd__law_pool ct__law_pool), sl__law_pool⟩)
    (c__law_pool : PySem.W.codeIn K cd__law_pool "_law_pool" = true)
    (k__law_pool : PySem.W.keepIn K (.ref f__law_pool) = true)
    (a__law_spread : PySem.W.nsIn K mainGlobals "_law_spread" = some (some (.ref f__law_spread)))
    (l__law_spread : K.lookup f__law_spread = some ⟨oc__law_spread, od__law_spread, .func (PySem.W.fnOf "_law_spread" "_law_spread" (defArgs (top 73)) (defBody (top 73)) (defScope (top 73)) .none kV__law_spread dc__law_spread pm__law_spread an__law_spread cd__law_spread ct__law_spread), sl__law_spread⟩)
    (c__law_spread : PySem.W.codeIn K cd__law_spread "_law_spread" = true)
    (k__law_spread : PySem.W.keepIn K (.ref f__law_spread) = true)
    (a__law_draw : PySem.W.nsIn K mainGlobals "_law_draw" = some (some (.ref f__law_draw)))
    (l__law_draw : K.lookup f__law_draw = some ⟨oc__law_draw, od__law_draw, .func (PySem.W.fnOf "_law_draw" "_law_draw" (defArgs (top 74)) (defBody (top 74)) (defScope (top 74)) .none kV__law_draw dc__law_draw pm__law_draw an__law_draw cd__law_draw ct__law_draw), sl__law_draw⟩)
    (c__law_draw : PySem.W.codeIn K cd__law_draw "_law_draw" = true)
    (k__law_draw : PySem.W.keepIn K (.ref f__law_draw) = true)
    (a__law_shuffled : PySem.W.nsIn K mainGlobals "_law_shuffled" = some (some (.ref f__law_shuffled)))
    (l__law_shuffled : K.lookup f__law_shuffled = some ⟨oc__law_shuffled, od__law_shuffled, .func (PySem.W.fnOf "_law_shuffled" "_law_shuffled" (defArgs (top 75)) (defBody (top 75)) (defScope (top 75)) .none kV__law_shuffled dc__law_shuffled pm__law_shuffled an__law_shuffled cd__law_shuffled ct__law_shuffled), sl__law_shuffled⟩)
    (c__law_shuffled : PySem.W.codeIn K cd__law_shuffled "_law_shuffled" = true)
    (k__law_shuffled : PySem.W.keepIn K (.ref f__law_shuffled) = true)
    (a_size : PySem.W.nsIn K mainGlobals "size" = some (some (.ref f_size)))
    (l_size : K.lookup f_size = some ⟨oc_size, od_size, .func (PySem.W.fnOf "size" "size" (defArgs (top 3)) (defBody (top 3)) (defScope (top 3)) .none kV_size dc_size pm_size an_size cd_size ct_size), sl_size⟩)
    (c_size : PySem.W.codeIn K cd_size "size" = true)
    (k_size : PySem.W.keepIn K (.ref f_size) = true)
    (a_law : PySem.W.nsIn K mainGlobals "law" = some (some (.ref f_law)))
    (l_law : K.lookup f_law = some ⟨oc_law, od_law, .func (PySem.W.fnOf "law" "law" (defArgs (top 77)) (defBody (top 77)) (defScope (top 77)) .none kV_law dc_law pm_law an_law cd_law ct_law), sl_law⟩)
    (c_law : PySem.W.codeIn K cd_law "law" = true)
    (k_law : PySem.W.keepIn K (.ref f_law) = true)
    (a_Parter_init : PySem.W.findIn K (.ref C_Parter) "__init__" = some (some (.ref f_Parter_init)))
    (i_Parter_init : PySem.W.isFn K (.ref f_Parter_init) = true)
    (l_Parter_init : K.lookup f_Parter_init = some ⟨oc_Parter_init, od_Parter_init, .func (PySem.W.fnOf "__init__" "Parter.__init__" (defArgs (inClass (top 33) 0)) (defBody (inClass (top 33) 0)) (defScope (inClass (top 33) 0)) .none kV_Parter_init dc_Parter_init pm_Parter_init an_Parter_init cd_Parter_init ct_Parter_init), sl_Parter_init⟩)
    (c_Parter_init : PySem.W.codeIn K cd_Parter_init "Parter.__init__" = true)
    (k_Parter_init : PySem.W.keepIn K (.ref f_Parter_init) = true)
    (a_Parter_part : PySem.W.findIn K (.ref C_Parter) "part" = some (some (.ref f_Parter_part)))
    (i_Parter_part : PySem.W.isFn K (.ref f_Parter_part) = true)
    (l_Parter_part : K.lookup f_Parter_part = some ⟨oc_Parter_part, od_Parter_part, .func (PySem.W.fnOf "part" "Parter.part" (defArgs (inClass (top 33) 1)) (defBody (inClass (top 33) 1)) (defScope (inClass (top 33) 1)) .none kV_Parter_part dc_Parter_part pm_Parter_part an_Parter_part cd_Parter_part ct_Parter_part), sl_Parter_part⟩)
    (c_Parter_part : PySem.W.codeIn K cd_Parter_part "Parter.part" = true)
    (k_Parter_part : PySem.W.keepIn K (.ref f_Parter_part) = true)
    (a_Parter_of_saying : PySem.W.findIn K (.ref C_Parter) "of_saying" = some (some (.ref f_Parter_of_saying)))
    (i_Parter_of_saying : PySem.W.isFn K (.ref f_Parter_of_saying) = true)
    (l_Parter_of_saying : K.lookup f_Parter_of_saying = some ⟨oc_Parter_of_saying, od_Parter_of_saying, .func (PySem.W.fnOf "of_saying" "Parter.of_saying" (defArgs (inClass (top 33) 4)) (defBody (inClass (top 33) 4)) (defScope (inClass (top 33) 4)) .none kV_Parter_of_saying dc_Parter_of_saying pm_Parter_of_saying an_Parter_of_saying cd_Parter_of_saying ct_Parter_of_saying), sl_Parter_of_saying⟩)
    (c_Parter_of_saying : PySem.W.codeIn K cd_Parter_of_saying "Parter.of_saying" = true)
    (k_Parter_of_saying : PySem.W.keepIn K (.ref f_Parter_of_saying) = true)
    (a_size_of : PySem.W.nsIn K mainGlobals "size_of" = some (some (.ref f_size_of)))
    (l_size_of : K.lookup f_size_of = some ⟨oc_size_of, od_size_of, .func (PySem.W.fnOf "size_of" "size_of" (defArgs (top 35)) (defBody (top 35)) (defScope (top 35)) .none kV_size_of dc_size_of pm_size_of an_size_of cd_size_of ct_size_of), sl_size_of⟩)
    (c_size_of : PySem.W.codeIn K cd_size_of "size_of" = true)
    (k_size_of : PySem.W.keepIn K (.ref f_size_of) = true)
    (a_parted : PySem.W.nsIn K mainGlobals "parted" = some (some (.ref f_parted)))
    (l_parted : K.lookup f_parted = some ⟨oc_parted, od_parted, .func (PySem.W.fnOf "parted" "parted" (defArgs (top 36)) (defBody (top 36)) (defScope (top 36)) .none kV_parted dc_parted pm_parted an_parted cd_parted ct_parted), sl_parted⟩)
    (c_parted : PySem.W.codeIn K cd_parted "parted" = true)
    (k_parted : PySem.W.keepIn K (.ref f_parted) = true)
    (a_parts : PySem.W.nsIn K mainGlobals "parts" = some (some (.ref f_parts)))
    (l_parts : K.lookup f_parts = some ⟨oc_parts, od_parts, .func (PySem.W.fnOf "parts" "parts" (defArgs (top 37)) (defBody (top 37)) (defScope (top 37)) .none kV_parts dc_parts pm_parts an_parts cd_parts ct_parts), sl_parts⟩)
    (c_parts : PySem.W.codeIn K cd_parts "parts" = true)
    (k_parts : PySem.W.keepIn K (.ref f_parts) = true)
    (a_opened_2 : PySem.W.nsIn K mainGlobals "opened_shares" = some (some (.ref f_opened_2)))
    (l_opened_2 : K.lookup f_opened_2 = some ⟨oc_opened_2, od_opened_2, .func (PySem.W.fnOf "opened" "opened" (defArgs (top 40)) (defBody (top 40)) (defScope (top 40)) .none kV_opened_2 dc_opened_2 pm_opened_2 an_opened_2 cd_opened_2 ct_opened_2), sl_opened_2⟩)
    (c_opened_2 : PySem.W.codeIn K cd_opened_2 "opened" = true)
    (k_opened_2 : PySem.W.keepIn K (.ref f_opened_2) = true)
    (a_steps_from : PySem.W.nsIn K mainGlobals "steps_from" = some (some (.ref f_steps_from)))
    (l_steps_from : K.lookup f_steps_from = some ⟨oc_steps_from, od_steps_from, .func (PySem.W.fnOf "steps_from" "steps_from" (defArgs (top 43)) (defBody (top 43)) (defScope (top 43)) .none kV_steps_from dc_steps_from pm_steps_from an_steps_from cd_steps_from ct_steps_from), sl_steps_from⟩)
    (c_steps_from : PySem.W.codeIn K cd_steps_from "steps_from" = true)
    (k_steps_from : PySem.W.keepIn K (.ref f_steps_from) = true)
    (a_machine_of : PySem.W.nsIn K mainGlobals "machine_of" = some (some (.ref f_machine_of)))
    (l_machine_of : K.lookup f_machine_of = some ⟨oc_machine_of, od_machine_of, .func (PySem.W.fnOf "machine_of" "machine_of" (defArgs (top 44)) (defBody (top 44)) (defScope (top 44)) .none kV_machine_of dc_machine_of pm_machine_of an_machine_of cd_machine_of ct_machine_of), sl_machine_of⟩)
    (c_machine_of : PySem.W.codeIn K cd_machine_of "machine_of" = true)
    (k_machine_of : PySem.W.keepIn K (.ref f_machine_of) = true)
    (a_begin_2 : PySem.W.nsIn K mainGlobals "begin_letters" = some (some (.ref f_begin_2)))
    (l_begin_2 : K.lookup f_begin_2 = some ⟨oc_begin_2, od_begin_2, .func (PySem.W.fnOf "begin" "begin" (defArgs (top 58)) (defBody (top 58)) (defScope (top 58)) .none kV_begin_2 dc_begin_2 pm_begin_2 an_begin_2 cd_begin_2 ct_begin_2), sl_begin_2⟩)
    (c_begin_2 : PySem.W.codeIn K cd_begin_2 "begin" = true)
    (k_begin_2 : PySem.W.keepIn K (.ref f_begin_2) = true)
    (a_on_way : PySem.W.nsIn K mainGlobals "on_way" = some (some (.ref f_on_way)))
    (l_on_way : K.lookup f_on_way = some ⟨oc_on_way, od_on_way, .func (PySem.W.fnOf "on_way" "on_way" (defArgs (top 60)) (defBody (top 60)) (defScope (top 60)) .none kV_on_way dc_on_way pm_on_way an_on_way cd_on_way ct_on_way), sl_on_way⟩)
    (c_on_way : PySem.W.codeIn K cd_on_way "on_way" = true)
    (k_on_way : PySem.W.keepIn K (.ref f_on_way) = true)
    (a_with_row : PySem.W.nsIn K mainGlobals "with_row" = some (some (.ref f_with_row)))
    (l_with_row : K.lookup f_with_row = some ⟨oc_with_row, od_with_row, .func (PySem.W.fnOf "with_row" "with_row" (defArgs (top 61)) (defBody (top 61)) (defScope (top 61)) .none kV_with_row dc_with_row pm_with_row an_with_row cd_with_row ct_with_row), sl_with_row⟩)
    (c_with_row : PySem.W.codeIn K cd_with_row "with_row" = true)
    (k_with_row : PySem.W.keepIn K (.ref f_with_row) = true)
    (a_moved : PySem.W.nsIn K mainGlobals "moved" = some (some (.ref f_moved)))
    (l_moved : K.lookup f_moved = some ⟨oc_moved, od_moved, .func (PySem.W.fnOf "moved" "moved" (defArgs (top 62)) (defBody (top 62)) (defScope (top 62)) .none kV_moved dc_moved pm_moved an_moved cd_moved ct_moved), sl_moved⟩)
    (c_moved : PySem.W.codeIn K cd_moved "moved" = true)
    (k_moved : PySem.W.keepIn K (.ref f_moved) = true)
    (a_deeds : PySem.W.nsIn K mainGlobals "deeds" = some (some (.ref f_deeds)))
    (l_deeds : K.lookup f_deeds = some ⟨oc_deeds, od_deeds, .func (PySem.W.fnOf "deeds" "deeds" (defArgs (top 63)) (defBody (top 63)) (defScope (top 63)) .none kV_deeds dc_deeds pm_deeds an_deeds cd_deeds ct_deeds), sl_deeds⟩)
    (c_deeds : PySem.W.codeIn K cd_deeds "deeds" = true)
    (k_deeds : PySem.W.keepIn K (.ref f_deeds) = true)
    (a_trouble_at : PySem.W.nsIn K mainGlobals "trouble_at" = some (some (.ref f_trouble_at)))
    (l_trouble_at : K.lookup f_trouble_at = some ⟨oc_trouble_at, od_trouble_at, .func (PySem.W.fnOf "trouble_at" "trouble_at" (defArgs (top 64)) (defBody (top 64)) (defScope (top 64)) .none kV_trouble_at dc_trouble_at pm_trouble_at an_trouble_at cd_trouble_at ct_trouble_at), sl_trouble_at⟩)
    (c_trouble_at : PySem.W.codeIn K cd_trouble_at "trouble_at" = true)
    (k_trouble_at : PySem.W.keepIn K (.ref f_trouble_at) = true)
    (a_is_unheard : PySem.W.nsIn K mainGlobals "is_unheard" = some (some (.ref f_is_unheard)))
    (l_is_unheard : K.lookup f_is_unheard = some ⟨oc_is_unheard, od_is_unheard, .func (PySem.W.fnOf "is_unheard" "is_unheard" (defArgs (top 65)) (defBody (top 65)) (defScope (top 65)) .none kV_is_unheard dc_is_unheard pm_is_unheard an_is_unheard cd_is_unheard ct_is_unheard), sl_is_unheard⟩)
    (c_is_unheard : PySem.W.codeIn K cd_is_unheard "is_unheard" = true)
    (k_is_unheard : PySem.W.keepIn K (.ref f_is_unheard) = true)
    (a_search : PySem.W.nsIn K mainGlobals "search" = some (some (.ref f_search)))
    (l_search : K.lookup f_search = some ⟨oc_search, od_search, .func (PySem.W.fnOf "search" "search" (defArgs (top 66)) (defBody (top 66)) (defScope (top 66)) .none kV_search dc_search pm_search an_search cd_search ct_search), sl_search⟩)
    (c_search : PySem.W.codeIn K cd_search "search" = true)
    (k_search : PySem.W.keepIn K (.ref f_search) = true)
    (a_trouble : PySem.W.nsIn K mainGlobals "trouble" = some (some (.ref f_trouble)))
    (l_trouble : K.lookup f_trouble = some ⟨oc_trouble, od_trouble, .func (PySem.W.fnOf "trouble" "trouble" (defArgs (top 67)) (defBody (top 67)) (defScope (top 67)) .none kV_trouble dc_trouble pm_trouble an_trouble cd_trouble ct_trouble), sl_trouble⟩)
    (c_trouble : PySem.W.codeIn K cd_trouble "trouble" = true)
    (k_trouble : PySem.W.keepIn K (.ref f_trouble) = true)
    (a_inner : PySem.W.nsIn K mainGlobals "inner_talks" = some (some (.ref f_inner)))
    (l_inner : K.lookup f_inner = some ⟨oc_inner, od_inner, .func (PySem.W.fnOf "inner" "inner" (defArgs (top 1)) (defBody (top 1)) (defScope (top 1)) .none kV_inner dc_inner pm_inner an_inner cd_inner ct_inner), sl_inner⟩)
    (c_inner : PySem.W.codeIn K cd_inner "inner" = true)
    (k_inner : PySem.W.keepIn K (.ref f_inner) = true)
    (a_roles_in : PySem.W.nsIn K mainGlobals "roles_in" = some (some (.ref f_roles_in)))
    (l_roles_in : K.lookup f_roles_in = some ⟨oc_roles_in, od_roles_in, .func (PySem.W.fnOf "roles_in" "roles_in" (defArgs (top 4)) (defBody (top 4)) (defScope (top 4)) .none kV_roles_in dc_roles_in pm_roles_in an_roles_in cd_roles_in ct_roles_in), sl_roles_in⟩)
    (c_roles_in : PySem.W.codeIn K cd_roles_in "roles_in" = true)
    (k_roles_in : PySem.W.keepIn K (.ref f_roles_in) = true)
    (a_inner_2 : PySem.W.nsIn K mainGlobals "inner_shares" = some (some (.ref f_inner_2)))
    (l_inner_2 : K.lookup f_inner_2 = some ⟨oc_inner_2, od_inner_2, .func (PySem.W.fnOf "inner" "inner" (defArgs (top 29)) (defBody (top 29)) (defScope (top 29)) .none kV_inner_2 dc_inner_2 pm_inner_2 an_inner_2 cd_inner_2 ct_inner_2), sl_inner_2⟩)
    (c_inner_2 : PySem.W.codeIn K cd_inner_2 "inner" = true)
    (k_inner_2 : PySem.W.keepIn K (.ref f_inner_2) = true)
    (a_goes_again : PySem.W.nsIn K mainGlobals "goes_again" = some (some (.ref f_goes_again)))
    (l_goes_again : K.lookup f_goes_again = some ⟨oc_goes_again, od_goes_again, .func (PySem.W.fnOf "goes_again" "goes_again" (defArgs (top 32)) (defBody (top 32)) (defScope (top 32)) .none kV_goes_again dc_goes_again pm_goes_again an_goes_again cd_goes_again ct_goes_again), sl_goes_again⟩)
    (c_goes_again : PySem.W.codeIn K cd_goes_again "goes_again" = true)
    (k_goes_again : PySem.W.keepIn K (.ref f_goes_again) = true)
    (a_Parter_of_loop : PySem.W.findIn K (.ref C_Parter) "of_loop" = some (some (.ref f_Parter_of_loop)))
    (i_Parter_of_loop : PySem.W.isFn K (.ref f_Parter_of_loop) = true)
    (l_Parter_of_loop : K.lookup f_Parter_of_loop = some ⟨oc_Parter_of_loop, od_Parter_of_loop, .func (PySem.W.fnOf "of_loop" "Parter.of_loop" (defArgs (inClass (top 33) 2)) (defBody (inClass (top 33) 2)) (defScope (inClass (top 33) 2)) .none kV_Parter_of_loop dc_Parter_of_loop pm_Parter_of_loop an_Parter_of_loop cd_Parter_of_loop ct_Parter_of_loop), sl_Parter_of_loop⟩)
    (c_Parter_of_loop : PySem.W.codeIn K cd_Parter_of_loop "Parter.of_loop" = true)
    (k_Parter_of_loop : PySem.W.keepIn K (.ref f_Parter_of_loop) = true)
    (a_ways_out : PySem.W.nsIn K mainGlobals "ways_out" = some (some (.ref f_ways_out)))
    (l_ways_out : K.lookup f_ways_out = some ⟨oc_ways_out, od_ways_out, .func (PySem.W.fnOf "ways_out" "ways_out" (defArgs (top 34)) (defBody (top 34)) (defScope (top 34)) .none kV_ways_out dc_ways_out pm_ways_out an_ways_out cd_ways_out ct_ways_out), sl_ways_out⟩)
    (c_ways_out : PySem.W.codeIn K cd_ways_out "ways_out" = true)
    (k_ways_out : PySem.W.keepIn K (.ref f_ways_out) = true)
    (a_put_for_2 : PySem.W.nsIn K mainGlobals "put_for_shares" = some (some (.ref f_put_for_2)))
    (l_put_for_2 : K.lookup f_put_for_2 = some ⟨oc_put_for_2, od_put_for_2, .func (PySem.W.fnOf "put_for" "put_for" (defArgs (top 38)) (defBody (top 38)) (defScope (top 38)) .none kV_put_for_2 dc_put_for_2 pm_put_for_2 an_put_for_2 cd_put_for_2 ct_put_for_2), sl_put_for_2⟩)
    (c_put_for_2 : PySem.W.codeIn K cd_put_for_2 "put_for" = true)
    (k_put_for_2 : PySem.W.keepIn K (.ref f_put_for_2) = true)
    (a_states_in : PySem.W.nsIn K mainGlobals "states_in" = some (some (.ref f_states_in)))
    (l_states_in : K.lookup f_states_in = some ⟨oc_states_in, od_states_in, .func (PySem.W.fnOf "states_in" "states_in" (defArgs (top 27)) (defBody (top 27)) (defScope (top 27)) .none kV_states_in dc_states_in pm_states_in an_states_in cd_states_in ct_states_in), sl_states_in⟩)
    (c_states_in : PySem.W.codeIn K cd_states_in "states_in" = true)
    (k_states_in : PySem.W.keepIn K (.ref f_states_in) = true)
    (a_Parter_none_at : PySem.W.findIn K (.ref C_Parter) "none_at" = some (some (.ref f_Parter_none_at)))
    (i_Parter_none_at : PySem.W.isFn K (.ref f_Parter_none_at) = true)
    (l_Parter_none_at : K.lookup f_Parter_none_at = some ⟨oc_Parter_none_at, od_Parter_none_at, .func (PySem.W.fnOf "none_at" "Parter.none_at" (defArgs (inClass (top 33) 3)) (defBody (inClass (top 33) 3)) (defScope (inClass (top 33) 3)) .none kV_Parter_none_at dc_Parter_none_at pm_Parter_none_at an_Parter_none_at cd_Parter_none_at ct_Parter_none_at), sl_Parter_none_at⟩)
    (c_Parter_none_at : PySem.W.codeIn K cd_Parter_none_at "Parter.none_at" = true)
    (k_Parter_none_at : PySem.W.keepIn K (.ref f_Parter_none_at) = true)
    (a_reached_2 : PySem.W.nsIn K mainGlobals "reached_letters" = some (some (.ref f_reached_2)))
    (l_reached_2 : K.lookup f_reached_2 = some ⟨oc_reached_2, od_reached_2, .func (PySem.W.fnOf "reached" "reached" (defArgs (top 68)) (defBody (top 68)) (defScope (top 68)) .none kV_reached_2 dc_reached_2 pm_reached_2 an_reached_2 cd_reached_2 ct_reached_2), sl_reached_2⟩)
    (c_reached_2 : PySem.W.codeIn K cd_reached_2 "reached" = true)
    (k_reached_2 : PySem.W.keepIn K (.ref f_reached_2) = true)
    (a_begin : PySem.W.nsIn K mainGlobals "begin_handshakes" = some (some (.ref f_begin)))
    (l_begin : K.lookup f_begin = some ⟨oc_begin, od_begin, .func (PySem.W.fnOf "begin" "begin" (defArgs (top 47)) (defBody (top 47)) (defScope (top 47)) .none kV_begin dc_begin pm_begin an_begin cd_begin ct_begin), sl_begin⟩)
    (c_begin : PySem.W.codeIn K cd_begin "begin" = true)
    (k_begin : PySem.W.keepIn K (.ref f_begin) = true)
    (a_meets : PySem.W.nsIn K mainGlobals "meets" = some (some (.ref f_meets)))
    (l_meets : K.lookup f_meets = some ⟨oc_meets, od_meets, .func (PySem.W.fnOf "meets" "meets" (defArgs (top 49)) (defBody (top 49)) (defScope (top 49)) .none kV_meets dc_meets pm_meets an_meets cd_meets ct_meets), sl_meets⟩)
    (c_meets : PySem.W.codeIn K cd_meets "meets" = true)
    (k_meets : PySem.W.keepIn K (.ref f_meets) = true)
    (a_with_states : PySem.W.nsIn K mainGlobals "with_states" = some (some (.ref f_with_states)))
    (l_with_states : K.lookup f_with_states = some ⟨oc_with_states, od_with_states, .func (PySem.W.fnOf "with_states" "with_states" (defArgs (top 50)) (defBody (top 50)) (defScope (top 50)) .none kV_with_states dc_with_states pm_with_states an_with_states cd_with_states ct_with_states), sl_with_states⟩)
    (c_with_states : PySem.W.codeIn K cd_with_states "with_states" = true)
    (k_with_states : PySem.W.keepIn K (.ref f_with_states) = true)
    (a_reached : PySem.W.nsIn K mainGlobals "reached_handshakes" = some (some (.ref f_reached)))
    (l_reached : K.lookup f_reached = some ⟨oc_reached, od_reached, .func (PySem.W.fnOf "reached" "reached" (defArgs (top 51)) (defBody (top 51)) (defScope (top 51)) .none kV_reached dc_reached pm_reached an_reached cd_reached ct_reached), sl_reached⟩)
    (c_reached : PySem.W.codeIn K cd_reached "reached" = true)
    (k_reached : PySem.W.keepIn K (.ref f_reached) = true)
    (a_is_over_2 : PySem.W.nsIn K mainGlobals "is_over_handshakes" = some (some (.ref f_is_over_2)))
    (l_is_over_2 : K.lookup f_is_over_2 = some ⟨oc_is_over_2, od_is_over_2, .func (PySem.W.fnOf "is_over" "is_over" (defArgs (top 53)) (defBody (top 53)) (defScope (top 53)) .none kV_is_over_2 dc_is_over_2 pm_is_over_2 an_is_over_2 cd_is_over_2 ct_is_over_2), sl_is_over_2⟩)
    (c_is_over_2 : PySem.W.codeIn K cd_is_over_2 "is_over" = true)
    (k_is_over_2 : PySem.W.keepIn K (.ref f_is_over_2) = true)
    (a_dead_end : PySem.W.nsIn K mainGlobals "dead_end" = some (some (.ref f_dead_end)))
    (l_dead_end : K.lookup f_dead_end = some ⟨oc_dead_end, od_dead_end, .func (PySem.W.fnOf "dead_end" "dead_end" (defArgs (top 55)) (defBody (top 55)) (defScope (top 55)) .none kV_dead_end dc_dead_end pm_dead_end an_dead_end cd_dead_end ct_dead_end), sl_dead_end⟩)
    (c_dead_end : PySem.W.codeIn K cd_dead_end "dead_end" = true)
    (k_dead_end : PySem.W.keepIn K (.ref f_dead_end) = true)
    (a__law_power : PySem.W.nsIn K mainGlobals "_law_power" = some (some (.ref f__law_power)))
    (l__law_power : K.lookup f__law_power = some ⟨oc__law_power, od__law_power, .func (PySem.W.fnOf "_law_power" "_law_power" (defArgs (top 76)) (defBody (top 76)) (defScope (top 76)) .none kV__law_power dc__law_power pm__law_power an__law_power cd__law_power ct__law_power), sl__law_power⟩)
    (c__law_power : PySem.W.codeIn K cd__law_power "_law_power" = true)
    (k__law_power : PySem.W.keepIn K (.ref f__law_power) = true)
    (a_put_for : PySem.W.nsIn K mainGlobals "put_for_talks" = some (some (.ref f_put_for)))
    (l_put_for : K.lookup f_put_for = some ⟨oc_put_for, od_put_for, .func (PySem.W.fnOf "put_for" "put_for" (defArgs (top 5)) (defBody (top 5)) (defScope (top 5)) .none kV_put_for dc_put_for pm_put_for an_put_for cd_put_for ct_put_for), sl_put_for⟩)
    (c_put_for : PySem.W.codeIn K cd_put_for "put_for" = true)
    (k_put_for : PySem.W.keepIn K (.ref f_put_for) = true)
    (a_opened : PySem.W.nsIn K mainGlobals "opened_talks" = some (some (.ref f_opened)))
    (l_opened : K.lookup f_opened = some ⟨oc_opened, od_opened, .func (PySem.W.fnOf "opened" "opened" (defArgs (top 7)) (defBody (top 7)) (defScope (top 7)) .none kV_opened dc_opened pm_opened an_opened cd_opened ct_opened), sl_opened⟩)
    (c_opened : PySem.W.codeIn K cd_opened "opened" = true)
    (k_opened : PySem.W.keepIn K (.ref f_opened) = true)
    (a_next_said : PySem.W.nsIn K mainGlobals "next_said" = some (some (.ref f_next_said)))
    (l_next_said : K.lookup f_next_said = some ⟨oc_next_said, od_next_said, .func (PySem.W.fnOf "next_said" "next_said" (defArgs (top 14)) (defBody (top 14)) (defScope (top 14)) .none kV_next_said dc_next_said pm_next_said an_next_said cd_next_said ct_next_said), sl_next_said⟩)
    (c_next_said : PySem.W.codeIn K cd_next_said "next_said" = true)
    (k_next_said : PySem.W.keepIn K (.ref f_next_said) = true)
    (a_said_without : PySem.W.nsIn K mainGlobals "said_without" = some (some (.ref f_said_without)))
    (l_said_without : K.lookup f_said_without = some ⟨oc_said_without, od_said_without, .func (PySem.W.fnOf "said_without" "said_without" (defArgs (top 15)) (defBody (top 15)) (defScope (top 15)) .none kV_said_without dc_said_without pm_said_without an_said_without cd_said_without ct_said_without), sl_said_without⟩)
    (c_said_without : PySem.W.codeIn K cd_said_without "said_without" = true)
    (k_said_without : PySem.W.keepIn K (.ref f_said_without) = true)
    (a_after_said : PySem.W.nsIn K mainGlobals "after_said" = some (some (.ref f_after_said)))
    (l_after_said : K.lookup f_after_said = some ⟨oc_after_said, od_after_said, .func (PySem.W.fnOf "after_said" "after_said" (defArgs (top 16)) (defBody (top 16)) (defScope (top 16)) .none kV_after_said dc_after_said pm_after_said an_after_said cd_after_said ct_after_said), sl_after_said⟩)
    (c_after_said : PySem.W.codeIn K cd_after_said "after_said" = true)
    (k_after_said : PySem.W.keepIn K (.ref f_after_said) = true)
    (a_beside : PySem.W.nsIn K mainGlobals "beside" = some (some (.ref f_beside)))
    (l_beside : K.lookup f_beside = some ⟨oc_beside, od_beside, .func (PySem.W.fnOf "beside" "beside" (defArgs (top 17)) (defBody (top 17)) (defScope (top 17)) .none kV_beside dc_beside pm_beside an_beside cd_beside ct_beside), sl_beside⟩)
    (c_beside : PySem.W.codeIn K cd_beside "beside" = true)
    (k_beside : PySem.W.keepIn K (.ref f_beside) = true)
    (a_is_over : PySem.W.nsIn K mainGlobals "is_over_walks" = some (some (.ref f_is_over)))
    (l_is_over : K.lookup f_is_over = some ⟨oc_is_over, od_is_over, .func (PySem.W.fnOf "is_over" "is_over" (defArgs (top 18)) (defBody (top 18)) (defScope (top 18)) .none kV_is_over dc_is_over pm_is_over an_is_over cd_is_over ct_is_over), sl_is_over⟩)
    (c_is_over : PySem.W.codeIn K cd_is_over "is_over" = true)
    (k_is_over : PySem.W.keepIn K (.ref f_is_over) = true)
    (a_written : PySem.W.nsIn K mainGlobals "written" = some (some (.ref f_written)))
    (l_written : K.lookup f_written = some ⟨oc_written, od_written, .func (PySem.W.fnOf "written" "written" (defArgs (top 20)) (defBody (top 20)) (defScope (top 20)) .none kV_written dc_written pm_written an_written cd_written ct_written), sl_written⟩)
    (c_written : PySem.W.codeIn K cd_written "written" = true)
    (k_written : PySem.W.keepIn K (.ref f_written) = true)
    (a_Counter_init : PySem.W.findIn K (.ref C_Counter) "__init__" = some (some (.ref f_Counter_init)))
    (i_Counter_init : PySem.W.isFn K (.ref f_Counter_init) = true)
    (l_Counter_init : K.lookup f_Counter_init = some ⟨oc_Counter_init, od_Counter_init, .func (PySem.W.fnOf "__init__" "Counter.__init__" (defArgs (inClass (top 22) 0)) (defBody (inClass (top 22) 0)) (defScope (inClass (top 22) 0)) .none kV_Counter_init dc_Counter_init pm_Counter_init an_Counter_init cd_Counter_init ct_Counter_init), sl_Counter_init⟩)
    (c_Counter_init : PySem.W.codeIn K cd_Counter_init "Counter.__init__" = true)
    (k_Counter_init : PySem.W.keepIn K (.ref f_Counter_init) = true)
    (a_Counter_rows : PySem.W.findIn K (.ref C_Counter) "rows" = some (some (.ref f_Counter_rows)))
    (i_Counter_rows : PySem.W.isFn K (.ref f_Counter_rows) = true)
    (l_Counter_rows : K.lookup f_Counter_rows = some ⟨oc_Counter_rows, od_Counter_rows, .func (PySem.W.fnOf "rows" "Counter.rows" (defArgs (inClass (top 22) 1)) (defBody (inClass (top 22) 1)) (defScope (inClass (top 22) 1)) .none kV_Counter_rows dc_Counter_rows pm_Counter_rows an_Counter_rows cd_Counter_rows ct_Counter_rows), sl_Counter_rows⟩)
    (c_Counter_rows : PySem.W.codeIn K cd_Counter_rows "Counter.rows" = true)
    (k_Counter_rows : PySem.W.keepIn K (.ref f_Counter_rows) = true)
    (a_count : PySem.W.nsIn K mainGlobals "count" = some (some (.ref f_count)))
    (l_count : K.lookup f_count = some ⟨oc_count, od_count, .func (PySem.W.fnOf "count" "count" (defArgs (top 23)) (defBody (top 23)) (defScope (top 23)) (.ref T_count) kV_count dc_count pm_count an_count cd_count ct_count), sl_count⟩)
    (lT_count : K.lookup T_count = some ⟨tc_count, to_count, .seq #[.bool false] tn_count, tsl_count⟩)
    (c_count : PySem.W.codeIn K cd_count "count" = true)
    (k_count : PySem.W.keepIn K (.ref f_count) = true)
    (a_nth : PySem.W.nsIn K mainGlobals "nth" = some (some (.ref f_nth)))
    (l_nth : K.lookup f_nth = some ⟨oc_nth, od_nth, .func (PySem.W.fnOf "nth" "nth" (defArgs (top 24)) (defBody (top 24)) (defScope (top 24)) (.ref T_nth) kV_nth dc_nth pm_nth an_nth cd_nth ct_nth), sl_nth⟩)
    (lT_nth : K.lookup T_nth = some ⟨tc_nth, to_nth, .seq #[.bool false] tn_nth, tsl_nth⟩)
    (c_nth : PySem.W.codeIn K cd_nth "nth" = true)
    (k_nth : PySem.W.keepIn K (.ref f_nth) = true)
    (a_number_of : PySem.W.nsIn K mainGlobals "number_of" = some (some (.ref f_number_of)))
    (l_number_of : K.lookup f_number_of = some ⟨oc_number_of, od_number_of, .func (PySem.W.fnOf "number_of" "number_of" (defArgs (top 25)) (defBody (top 25)) (defScope (top 25)) (.ref T_number_of) kV_number_of dc_number_of pm_number_of an_number_of cd_number_of ct_number_of), sl_number_of⟩)
    (lT_number_of : K.lookup T_number_of = some ⟨tc_number_of, to_number_of, .seq #[.bool false] tn_number_of, tsl_number_of⟩)
    (c_number_of : PySem.W.codeIn K cd_number_of "number_of" = true)
    (k_number_of : PySem.W.keepIn K (.ref f_number_of) = true)
    (a_shortest : PySem.W.nsIn K mainGlobals "shortest" = some (some (.ref f_shortest)))
    (l_shortest : K.lookup f_shortest = some ⟨oc_shortest, od_shortest, .func (PySem.W.fnOf "shortest" "shortest" (defArgs (top 26)) (defBody (top 26)) (defScope (top 26)) .none kV_shortest dc_shortest pm_shortest an_shortest cd_shortest ct_shortest), sl_shortest⟩)
    (c_shortest : PySem.W.codeIn K cd_shortest "shortest" = true)
    (k_shortest : PySem.W.keepIn K (.ref f_shortest) = true)
    (c_MOST_handshakes : PySem.W.nsIn K mainGlobals "MOST_handshakes" = some (some (.int 3000 tk_MOST_handshakes)))
    (c_MOST_letters : PySem.W.nsIn K mainGlobals "MOST_letters" = some (some (.int 3000 tk_MOST_letters)))
    (c_END : PySem.W.nsIn K mainGlobals "END" = some (some (.ref a_END)))
    (l_END : K.lookup a_END = some ⟨.type "tuple", none, .seq #[.str "end" tk_END_0] tn_END, tsl_END⟩)
    (pg_Parter : PySem.W.plainGet K C_Parter Str.empty = true)
    (hd_Parter : PySem.W.hasDictIn K C_Parter = true)
    (po_Parter : PySem.W.plainOver K C_Parter = true)
    (sa_Parter : PySem.W.findIn K (.ref C_Parter) "__setattr__" = some (some (.builtin "object.__setattr__")))
    (mk_Parter : PySem.W.makesIn K C_Parter = true)
    (kc_Parter : PySem.W.keepIn K (.ref C_Parter) = true)
    (n_Parter_role : PySem.W.findIn K (.ref C_Parter) "role" = some none)
    (n_Parter_trouble : PySem.W.findIn K (.ref C_Parter) "trouble" = some none)
    (pg_Counter : PySem.W.plainGet K C_Counter Str.empty = true)
    (hd_Counter : PySem.W.hasDictIn K C_Counter = true)
    (po_Counter : PySem.W.plainOver K C_Counter = true)
    (sa_Counter : PySem.W.findIn K (.ref C_Counter) "__setattr__" = some (some (.builtin "object.__setattr__")))
    (mk_Counter : PySem.W.makesIn K C_Counter = true)
    (kc_Counter : PySem.W.keepIn K (.ref C_Counter) = true)
    (n_Counter_kept : PySem.W.findIn K (.ref C_Counter) "kept" = some none)
    (z_len : PySem.W.nsIn K mainGlobals "len" = some none)
    (z_range : PySem.W.nsIn K mainGlobals "range" = some none)
    (z_sorted : PySem.W.nsIn K mainGlobals "sorted" = some none)
    (z_set : PySem.W.nsIn K mainGlobals "set" = some none)
    (z_all : PySem.W.nsIn K mainGlobals "all" = some none)
    (z_any : PySem.W.nsIn K mainGlobals "any" = some none)
    (z_sum : PySem.W.nsIn K mainGlobals "sum" = some none)
    (z_max : PySem.W.nsIn K mainGlobals "max" = some none)
    (z_tuple : PySem.W.nsIn K mainGlobals "tuple" = some none)
    (z_list : PySem.W.nsIn K mainGlobals "list" = some none)
    (z_dict : PySem.W.nsIn K mainGlobals "dict" = some none)
    (z_int : PySem.W.nsIn K mainGlobals "int" = some none)
    (z_bool : PySem.W.nsIn K mainGlobals "bool" = some none)
    (z_str : PySem.W.nsIn K mainGlobals "str" = some none)
    (z_isinstance : PySem.W.nsIn K mainGlobals "isinstance" = some none)
    (hlaw : ∀ ns : List Int, ns.length ≤ 63 → ∃ S, callN tbl N 6 [.scr ns] [] = some (.d (.bool true), S))
    : ∃ fd : FuncData, (∀ (s : Shared) (v : Value), BindsTo s fd ⟨[v], []⟩ [("script", v)]) ∧ ∀ base : Heap, K.In base → base.Ns mainGlobals mg → FnOk l.prog w K mg base CX0 (lv N) fa fd ["script"] (spLaw K) := by
  have e := hfa.symm.trans (PySem.W.mg_of X G a_law)
  cases e
  let T : Txt K mg := {
    bl := ⟨PySem.W.mg_none_of X G z_len, PySem.W.mg_none_of X G z_range, PySem.W.mg_none_of X G z_sorted, PySem.W.mg_none_of X G z_set, PySem.W.mg_none_of X G z_all, PySem.W.mg_none_of X G z_any, PySem.W.mg_none_of X G z_sum, PySem.W.mg_none_of X G z_max, PySem.W.mg_none_of X G z_tuple, PySem.W.mg_none_of X G z_list, PySem.W.mg_none_of X G z_dict, PySem.W.mg_none_of X G z_int, PySem.W.mg_none_of X G z_bool, PySem.W.mg_none_of X G z_str, PySem.W.mg_none_of X G z_isinstance⟩,
    d__law_same := df_mk l__law_same c__law_same k__law_same (fun _ _ _ _ _ _ us hl => match us, hl with | [_, _], _ => rfl),
    d__law_pool := df_mk l__law_pool c__law_pool k__law_pool (fun _ _ _ _ _ _ us hl => match us, hl with | [_], _ => rfl),
    d__law_spread := df_mk l__law_spread c__law_spread k__law_spread (fun _ _ _ _ _ _ us hl => match us, hl with | [_], _ => rfl),
    d__law_draw := df_mk l__law_draw c__law_draw k__law_draw (fun _ _ _ _ _ _ us hl => match us, hl with | [_, _], _ => rfl),
    d__law_shuffled := df_mk l__law_shuffled c__law_shuffled k__law_shuffled (fun _ _ _ _ _ _ us hl => match us, hl with | [_, _], _ => rfl),
    d_size := df_mk l_size c_size k_size (fun _ _ _ _ _ _ us hl => match us, hl with | [_], _ => rfl),
    d_law := df_mk l_law c_law k_law (fun _ _ _ _ _ _ us hl => match us, hl with | [_], _ => rfl),
    d_Parter_init := df_mk l_Parter_init c_Parter_init k_Parter_init (fun _ _ _ _ _ _ us hl => match us, hl with | [_, _], _ => rfl),
    d_Parter_part := df_mk l_Parter_part c_Parter_part k_Parter_part (fun _ _ _ _ _ _ us hl => match us, hl with | [_, _, _], _ => rfl),
    d_Parter_of_saying := df_mk l_Parter_of_saying c_Parter_of_saying k_Parter_of_saying (fun _ _ _ _ _ _ us hl => match us, hl with | [_, _, _], _ => rfl),
    d_size_of := df_mk l_size_of c_size_of k_size_of (fun _ _ _ _ _ _ us hl => match us, hl with | [_], _ => rfl),
    d_parted := df_mk l_parted c_parted k_parted (fun _ _ _ _ _ _ us hl => match us, hl with | [_, _], _ => rfl),
    d_parts := df_mk l_parts c_parts k_parts (fun _ _ _ _ _ _ us hl => match us, hl with | [_], _ => rfl),
    d_opened_2 := df_mk l_opened_2 c_opened_2 k_opened_2 (fun _ _ _ _ _ _ us hl => match us, hl with | [_], _ => rfl),
    d_steps_from := df_mk l_steps_from c_steps_from k_steps_from (fun _ _ _ _ _ _ us hl => match us, hl with | [_, _], _ => rfl),
    d_machine_of := df_mk l_machine_of c_machine_of k_machine_of (fun _ _ _ _ _ _ us hl => match us, hl with | [_], _ => rfl),
    d_begin_2 := df_mk l_begin_2 c_begin_2 k_begin_2 (fun _ _ _ _ _ _ us hl => match us, hl with | [_], _ => rfl),
    d_on_way := df_mk l_on_way c_on_way k_on_way (fun _ _ _ _ _ _ us hl => match us, hl with | [_, _, _], _ => rfl),
    d_with_row := df_mk l_with_row c_with_row k_with_row (fun _ _ _ _ _ _ us hl => match us, hl with | [_, _, _, _], _ => rfl),
    d_moved := df_mk l_moved c_moved k_moved (fun _ _ _ _ _ _ us hl => match us, hl with | [_, _, _], _ => rfl),
    d_deeds := df_mk l_deeds c_deeds k_deeds (fun _ _ _ _ _ _ us hl => match us, hl with | [_, _, _], _ => rfl),
    d_trouble_at := df_mk l_trouble_at c_trouble_at k_trouble_at (fun _ _ _ _ _ _ us hl => match us, hl with | [_, _, _], _ => rfl),
    d_is_unheard := df_mk l_is_unheard c_is_unheard k_is_unheard (fun _ _ _ _ _ _ us hl => match us, hl with | [_, _, _], _ => rfl),
    d_search := df_mk l_search c_search k_search (fun _ _ _ _ _ _ us hl => match us, hl with | [_, _], _ => rfl),
    d_trouble := df_mk l_trouble c_trouble k_trouble (fun _ _ _ _ _ _ us hl => match us, hl with | [_, _], _ => rfl),
    d_inner := df_mk l_inner c_inner k_inner (fun _ _ _ _ _ _ us hl => match us, hl with | [_], _ => rfl),
    d_roles_in := df_mk l_roles_in c_roles_in k_roles_in (fun _ _ _ _ _ _ us hl => match us, hl with | [_], _ => rfl),
    d_inner_2 := df_mk l_inner_2 c_inner_2 k_inner_2 (fun _ _ _ _ _ _ us hl => match us, hl with | [_], _ => rfl),
    d_goes_again := df_mk l_goes_again c_goes_again k_goes_again (fun _ _ _ _ _ _ us hl => match us, hl with | [_, _], _ => rfl),
    d_Parter_of_loop := df_mk l_Parter_of_loop c_Parter_of_loop k_Parter_of_loop (fun _ _ _ _ _ _ us hl => match us, hl with | [_, _, _], _ => rfl),
    d_ways_out := df_mk l_ways_out c_ways_out k_ways_out (fun _ _ _ _ _ _ us hl => match us, hl with | [_], _ => rfl),
    d_put_for_2 := df_mk l_put_for_2 c_put_for_2 k_put_for_2 (fun _ _ _ _ _ _ us hl => match us, hl with | [_, _, _], _ => rfl),
    d_states_in := df_mk l_states_in c_states_in k_states_in (fun _ _ _ _ _ _ us hl => match us, hl with | [_], _ => rfl),
    d_Parter_none_at := df_mk l_Parter_none_at c_Parter_none_at k_Parter_none_at (fun _ _ _ _ _ _ us hl => match us, hl with | [_, _], _ => rfl),
    d_reached_2 := df_mk l_reached_2 c_reached_2 k_reached_2 (fun _ _ _ _ _ _ us hl => match us, hl with | [_, _], _ => rfl),
    d_begin := df_mk l_begin c_begin k_begin (fun _ _ _ _ _ _ us hl => match us, hl with | [_], _ => rfl),
    d_meets := df_mk l_meets c_meets k_meets (fun _ _ _ _ _ _ us hl => match us, hl with | [_, _], _ => rfl),
    d_with_states := df_mk l_with_states c_with_states k_with_states (fun _ _ _ _ _ _ us hl => match us, hl with | [_, _, _, _, _], _ => rfl),
    d_reached := df_mk l_reached c_reached k_reached (fun _ _ _ _ _ _ us hl => match us, hl with | [_], _ => rfl),
    d_is_over_2 := df_mk l_is_over_2 c_is_over_2 k_is_over_2 (fun _ _ _ _ _ _ us hl => match us, hl with | [_, _], _ => rfl),
    d_dead_end := df_mk l_dead_end c_dead_end k_dead_end (fun _ _ _ _ _ _ us hl => match us, hl with | [_], _ => rfl),
    d__law_power := df_mk l__law_power c__law_power k__law_power (fun _ _ _ _ _ _ us hl => match us, hl with | [_, _], _ => rfl),
    d_put_for := df_mk l_put_for c_put_for k_put_for (fun _ _ _ _ _ _ us hl => match us, hl with | [_, _, _], _ => rfl),
    d_opened := df_mk l_opened c_opened k_opened (fun _ _ _ _ _ _ us hl => match us, hl with | [_], _ => rfl),
    d_next_said := df_mk l_next_said c_next_said k_next_said (fun _ _ _ _ _ _ us hl => match us, hl with | [_], _ => rfl),
    d_said_without := df_mk l_said_without c_said_without k_said_without (fun _ _ _ _ _ _ us hl => match us, hl with | [_, _, _], _ => rfl),
    d_after_said := df_mk l_after_said c_after_said k_after_said (fun _ _ _ _ _ _ us hl => match us, hl with | [_, _], _ => rfl),
    d_beside := df_mk l_beside c_beside k_beside (fun _ _ _ _ _ _ us hl => match us, hl with | [_, _], _ => rfl),
    d_is_over := df_mk l_is_over c_is_over k_is_over (fun _ _ _ _ _ _ us hl => match us, hl with | [_], _ => rfl),
    d_written := df_mk l_written c_written k_written (fun _ _ _ _ _ _ us hl => match us, hl with | [_], _ => rfl),
    d_Counter_init := df_mk l_Counter_init c_Counter_init k_Counter_init (fun _ _ _ _ _ _ us hl => match us, hl with | [_], _ => rfl),
    d_Counter_rows := df_mk l_Counter_rows c_Counter_rows k_Counter_rows (fun _ _ _ _ _ _ us hl => match us, hl with | [_, _, _, _], _ => rfl),
    d_count := dfd_mk l_count lT_count c_count k_count 2 rfl (fun _ _ _ _ _ _ _ us its hu hi => match us, hu, its, hi with | [_, _, _], _, [_], _ => ⟨_, rfl, rfl⟩) (fun _ _ _ _ _ _ _ us its hu hi => match us, hu, its, hi with | [_, _], _, [_], _ => ⟨_, rfl, rfl⟩),
    d_nth := dfd_mk l_nth lT_nth c_nth k_nth 3 rfl (fun _ _ _ _ _ _ _ us its hu hi => match us, hu, its, hi with | [_, _, _, _], _, [_], _ => ⟨_, rfl, rfl⟩) (fun _ _ _ _ _ _ _ us its hu hi => match us, hu, its, hi with | [_, _, _], _, [_], _ => ⟨_, rfl, rfl⟩),
    d_number_of := dfd_mk l_number_of lT_number_of c_number_of k_number_of 2 rfl (fun _ _ _ _ _ _ _ us its hu hi => match us, hu, its, hi with | [_, _, _], _, [_], _ => ⟨_, rfl, rfl⟩) (fun _ _ _ _ _ _ _ us its hu hi => match us, hu, its, hi with | [_, _], _, [_], _ => ⟨_, rfl, rfl⟩),
    d_shortest := df_mk l_shortest c_shortest k_shortest (fun _ _ _ _ _ _ us hl => match us, hl with | [_], _ => rfl),
    g__law_draw := PySem.W.mg_of X G a__law_draw,
    g__law_pool := PySem.W.mg_of X G a__law_pool,
    g__law_power := PySem.W.mg_of X G a__law_power,
    g__law_same := PySem.W.mg_of X G a__law_same,
    g__law_shuffled := PySem.W.mg_of X G a__law_shuffled,
    g__law_spread := PySem.W.mg_of X G a__law_spread,
    g_after_said := PySem.W.mg_of X G a_after_said,
    g_begin_handshakes := PySem.W.mg_of X G a_begin,
    g_begin_letters := PySem.W.mg_of X G a_begin_2,
    g_beside := PySem.W.mg_of X G a_beside,
    g_count := PySem.W.mg_of X G a_count,
    g_dead_end := PySem.W.mg_of X G a_dead_end,
    g_deeds := PySem.W.mg_of X G a_deeds,
    g_goes_again := PySem.W.mg_of X G a_goes_again,
    g_inner_shares := PySem.W.mg_of X G a_inner_2,
    g_inner_talks := PySem.W.mg_of X G a_inner,
    g_is_over_handshakes := PySem.W.mg_of X G a_is_over_2,
    g_is_over_walks := PySem.W.mg_of X G a_is_over,
    g_is_unheard := PySem.W.mg_of X G a_is_unheard,
    g_machine_of := PySem.W.mg_of X G a_machine_of,
    g_meets := PySem.W.mg_of X G a_meets,
    g_moved := PySem.W.mg_of X G a_moved,
    g_next_said := PySem.W.mg_of X G a_next_said,
    g_nth := PySem.W.mg_of X G a_nth,
    g_number_of := PySem.W.mg_of X G a_number_of,
    g_on_way := PySem.W.mg_of X G a_on_way,
    g_opened_shares := PySem.W.mg_of X G a_opened_2,
    g_opened_talks := PySem.W.mg_of X G a_opened,
    g_parted := PySem.W.mg_of X G a_parted,
    g_parts := PySem.W.mg_of X G a_parts,
    g_put_for_shares := PySem.W.mg_of X G a_put_for_2,
    g_put_for_talks := PySem.W.mg_of X G a_put_for,
    g_reached_handshakes := PySem.W.mg_of X G a_reached,
    g_reached_letters := PySem.W.mg_of X G a_reached_2,
    g_roles_in := PySem.W.mg_of X G a_roles_in,
    g_said_without := PySem.W.mg_of X G a_said_without,
    g_search := PySem.W.mg_of X G a_search,
    g_shortest := PySem.W.mg_of X G a_shortest,
    g_size := PySem.W.mg_of X G a_size,
    g_size_of := PySem.W.mg_of X G a_size_of,
    g_states_in := PySem.W.mg_of X G a_states_in,
    g_steps_from := PySem.W.mg_of X G a_steps_from,
    g_trouble := PySem.W.mg_of X G a_trouble,
    g_trouble_at := PySem.W.mg_of X G a_trouble_at,
    g_ways_out := PySem.W.mg_of X G a_ways_out,
    g_with_row := PySem.W.mg_of X G a_with_row,
    g_with_states := PySem.W.mg_of X G a_with_states,
    g_written := PySem.W.mg_of X G a_written,
    tk_MOST_handshakes := tk_MOST_handshakes,
    c_MOST_handshakes := PySem.W.mg_of X G c_MOST_handshakes,
    tk_MOST_letters := tk_MOST_letters,
    c_MOST_letters := PySem.W.mg_of X G c_MOST_letters,
    a_END := a_END,
    c_END := PySem.W.mg_of X G c_END,
    d_END := fun F => dr_ktup l_END (by simp) (dv_cons (by decide +kernel) dv_nil),
    C_Parter := C_Parter,
    cl_Parter := ⟨pg_Parter, hd_Parter, po_Parter, sa_Parter⟩,
    m_Parter := PySem.W.mg_of X G aC_Parter,
    mk_Parter := ⟨mk_Parter, a_Parter_init, i_Parter_init, kc_Parter⟩,
    n_Parter_role := n_Parter_role,
    n_Parter_trouble := n_Parter_trouble,
    meth_Parter_part := ⟨a_Parter_part, i_Parter_part, k_Parter_part⟩,
    meth_Parter_of_loop := ⟨a_Parter_of_loop, i_Parter_of_loop, k_Parter_of_loop⟩,
    meth_Parter_none_at := ⟨a_Parter_none_at, i_Parter_none_at, k_Parter_none_at⟩,
    meth_Parter_of_saying := ⟨a_Parter_of_saying, i_Parter_of_saying, k_Parter_of_saying⟩,
    C_Counter := C_Counter,
    cl_Counter := ⟨pg_Counter, hd_Counter, po_Counter, sa_Counter⟩,
    m_Counter := PySem.W.mg_of X G aC_Counter,
    mk_Counter := ⟨mk_Counter, a_Counter_init, i_Counter_init, kc_Counter⟩,
    n_Counter_kept := n_Counter_kept,
    meth_Counter_rows := ⟨a_Counter_rows, i_Counter_rows, k_Counter_rows⟩ }
  exact ⟨_, fun s v => .of_eq rfl, fun base _ _ => fn_law (ok_all T N).f_law rfl hlaw⟩
end K58
set_option Elab.async false
set_option linter.all false
set_option maxRecDepth 20000
namespace K58
open PySem L2 MP
/-! The searches' small defs, by their typed mirrors. -/
theorem on_way (n : Nat) (q : List Qe) (a b : Int) (S : Store) : callN tbl (n + 1) 17 [.d (qsD q), .d (.int a), .d (.int b)] S = some (.d (iT (rowOf q a b)), S) := by
  rw [call_on_way]
  unfold b_on_way runFn
  simp only [start0, qsD, x_seq, x_set, x_comp, x_sq, x_var, x_wipe, x_wipe0]
  simp
  rw [compRun_of Qe.d (fun e => decide (e.a = a) && decide (e.b = b)) (fun e => iT e.row)]
  · unfold rowOf
    generalize q.filter _ = f
    cases f with
    | nil => simp [iT]
    | cons e f =>
      have : (0 : Int) < (f.length : Int) + 1 := by omega
      simp [L2.atI, ixN, this]
  · intro e he
    simp [Qe.d, eq_two]
theorem steps_from (n : Nat) (m : Mach) (s : Int) (S : Store) : callN tbl (n + 1) 14 [.d (Mach.d m), .d (.int s)] S = some (.d (.list ((m.2.filter fun t => decide (t.src = s)).map Step.d)), S) := by
  rw [call_steps_from]
  unfold b_steps_from runFn
  simp [start0, Mach.d, L2.atI, ixN]
  rw [compRun_of Step.d (fun t => decide (t.src = s)) Step.d]
  intro e he
  simp [Step.d, L2.atI, ixN, eq_int]
theorem moved (n : Nat) (st : List Int) (r : Nat) (x : Int) (S : Store) (hr : r < st.length) (hz : st.length ≤ 1000) : callN tbl (n + 1) 19 [.d (iT st), .d (.int r), .d (.int x)] S = some (.d (iT (st.set r x)), S) := by
  rw [call_moved]
  unfold b_moved runFn
  have h1 : min r st.length = r := by omega
  have h2 : r + 1 ≤ 1000000 := by omega
  have h3 : r + 1 + (st.length - (r + 1)) ≤ 1000000 := by omega
  have h4 : ((r : Int) + 1) = ((r + 1 : Nat) : Int) := by omega
  simp [start0, iT, cut_to, h1, h2]
  rw [h4, cut_from]
  simp [h1, h2, h3]
  rw [List.set_eq_take_append_cons_drop, if_pos (by simpa using hr)]
theorem with_row (n : Nat) (q : List Qe) (a b : Int) (row : List Int) (S : Store) (hz : q.length ≤ 1000) : callN tbl (n + 1) 18 [.d (qsD q), .d (.int a), .d (.int b), .d (iT row)] S = some (.d (qsD (withRow q a b row)), S) := by
  rw [call_with_row]
  unfold b_with_row runFn
  simp [start0, qsD]
  rw [compRun_of Qe.d (fun e => !(decide (e.a = a) && decide (e.b = b))) Qe.d]
  · unfold withRow
    have hl : (q.filter fun e => !(decide (e.a = a) && decide (e.b = b))).length ≤ 1000 := Nat.le_trans (List.length_filter_le _ _) hz
    generalize q.filter (fun e => !(decide (e.a = a) && decide (e.b = b))) = f at hl ⊢
    by_cases hr : 0 < row.length
    · have e1 : f.map Qe.d ++ [.tuple [.int a, .int b, iT row]] = (f ++ [(⟨a, b, row⟩ : Qe)]).map Qe.d := by simp [Qe.d]
      have h2 : f.length + 1 ≤ 1000000 := by omega
      simp [hr, h2]
      rw [e1, sortOk_qs]
      simp
      rw [show List.map Qe.d f ++ [Qe.d ⟨a, b, row⟩] = (f ++ [(⟨a, b, row⟩ : Qe)]).map Qe.d by simp, sortD_map]
    · have h0 : row.length = 0 := by omega
      have h2 : f.length ≤ 1000000 := by omega
      simp [h0, h2, sortOk_qs, sortD_map]
  · intro e he
    simp [Qe.d]
    rw [show ((2 : Int)) = ((2 : Nat) : Int) from rfl, cut_to]
    simp [ne_two]
/-- one step's deed is found -/
theorem deed_one (n : Nat) {ms : List Mach} {room : Int} {h : Here} (w : WF ms room h) (S : Store) (r : Nat) (hr : r < ms.length) (s : MP.Step) (found : List Deed) (hf : found.length < 1000000) (j7 j8 j9 j10 j11 j12 j13 : Option Val) :
    ∃ ρ1 k7 k8 k9 k10 k11 k12 k13, (Tg.t [7, 8, 9, 10, 11]).set s.d [some (.d (msD ms)), some (.d h.d), some (.d (.int room)), some (.d (iT h.st)), some (.d (qsD h.q)), some (.d (.list (found.map Deed.d))), some (.d (.int r)), j7, j8, j9, j10, j11, j12, j13] = some ρ1 ∧
      l0_deeds (callN tbl (n + 1)) ρ1 S = some (.nx [some (.d (msD ms)), some (.d h.d), some (.d (.int room)), some (.d (iT h.st)), some (.d (qsD h.q)), some (.d (.list ((found ++ stepDeed ms h room r s).map Deed.d))), some (.d (.int r)), k7, k8, k9, k10, k11, k12, k13] S) := by
  unfold l0_deeds
  obtain ⟨src, snd, other, letter, dst⟩ := s
  have hst : r < h.st.length := by rw [w.len]; exact hr
  have hst2 : h.st.length ≤ 1000 := by rw [w.len]; exact w.few
  have hq : h.q.length ≤ 1000 := Nat.le_trans w.qs (by omega)
  have c1 : ∀ (n : Nat) (x y : Int) (row : List Int) (S : Store), callN tbl (n + 1) 18 [.d (qsD h.q), .d (.int x), .d (.int y), .d (iT row)] S = some (.d (qsD (withRow h.q x y row)), S) := fun n x y row S => with_row n h.q x y row S hq
  have c2 : ∀ (n : Nat) (x : Int) (S : Store), callN tbl (n + 1) 19 [.d (iT h.st), .d (.int r), .d (.int x)] S = some (.d (iT (h.st.set r x)), S) := fun n x S => moved n h.st r x S hst hst2
  cases snd with
  | true =>
    have hl := w.row r other
    unfold stepDeed
    simp only [if_true]
    generalize hR : rowOf h.q r other = R at hl
    by_cases hc : other < (ms.length : Int) ∧ other ≠ (r : Int) ∧ (R.length : Int) < room
    · refine ⟨_, some (.d (.int src)), some (.d (.str "send")), some (.d (.int other)), some (.d (.int letter)), some (.d (.int dst)), some (.d (iT R)), some (.d (Here.d ⟨h.st.set r dst, withRow h.q r other (R ++ [letter])⟩)), rfl, ?_⟩
      rw [if_pos hc]
      simp [wD, on_way, hR, ne_int, hc.1, hc.2.1, hc.2.2, iT_add hl, c1, c2, hf, w_ss, w_sh, Deed.d, Here.d]
    · refine ⟨_, some (.d (.int src)), some (.d (.str "send")), some (.d (.int other)), some (.d (.int letter)), some (.d (.int dst)), some (.d (iT R)), j13, rfl, ?_⟩
      rw [if_neg hc]
      by_cases h1 : other < (ms.length : Int)
      · by_cases h2 : other = (r : Int)
        · subst h2
          simp [wD, on_way, hR, ne_int, hr, w_ss, w_sh, Here.d]
        · have h3 : ¬ (R.length : Int) < room := fun z => hc ⟨h1, h2, z⟩
          simp [wD, on_way, hR, ne_int, h1, h2, h3, w_ss, w_sh, Here.d]
      · simp [wD, on_way, hR, ne_int, h1, w_ss, w_sh, Here.d]
  | false =>
    unfold stepDeed
    simp only [Bool.false_eq_true, if_false]
    generalize hR : rowOf h.q other r = R
    by_cases hc : R.take 1 = [letter]
    · refine ⟨_, some (.d (.int src)), some (.d (.str "hear")), some (.d (.int other)), some (.d (.int letter)), some (.d (.int dst)), some (.d (iT R)), some (.d (Here.d ⟨h.st.set r dst, withRow h.q other r (R.drop 1)⟩)), rfl, ?_⟩
      rw [if_pos hc]
      simp [wD, on_way, hR, eq_one, hc, c1, c2, hf, w_hs, w_hh, Deed.d, Here.d]
    · refine ⟨_, some (.d (.int src)), some (.d (.str "hear")), some (.d (.int other)), some (.d (.int letter)), some (.d (.int dst)), some (.d (iT R)), j13, rfl, ?_⟩
      rw [if_neg hc]
      simp [wD, on_way, hR, eq_one, hc, w_hs, w_hh, Here.d]
/-- the deeds' environment -/
def denv (ms : List Mach) (room : Int) (h : Here) (found : List Deed) (r j7 j8 j9 j10 j11 j12 j13 : Option Val) : MP.Env :=
  [some (.d (msD ms)), some (.d h.d), some (.d (.int room)), some (.d (iT h.st)), some (.d (qsD h.q)), some (.d (.list (found.map Deed.d))), r, j7, j8, j9, j10, j11, j12, j13]
theorem steps_at (n : Nat) (ms : List Mach) (st : List Int) (r : Nat) (S : Store) : callN tbl (n + 1) 14 [.d (Mach.d (mAt ms r)), .d (.int (sAt st r))] S = some (.d (.list ((stepsAt ms st r).map Step.d)), S) := steps_from n (mAt ms r) (sAt st r) S
theorem deeds (n : Nat) {ms : List Mach} {room : Int} {h : Here} (w : WF ms room h) (S : Store) : callN tbl (n + 2) 20 [.d (msD ms), .d h.d, .d (.int room)] S = some (.d (.list ((deedsT ms h room).map Deed.d)), S) := by
  rw [call_deeds]
  unfold b_deeds runFn
  have hfew := w.few
  have h1 : -1000000 ≤ (ms.length : Int) ∧ (ms.length : Int) ≤ 1000000 := by omega
  have hst := w.len
  have small : ∀ k, k ≤ ms.length → ((List.range k).flatMap fun r => (stepsAt ms h.st r).flatMap (stepDeed ms h room r)).length ≤ 100000 := fun k hk => by
    refine Nat.le_trans (flatMap_le (c := 100) (fun r => ?_) _) (by rw [List.length_range]; omega)
    refine Nat.le_trans (flatMap_le (c := 1) (fun s => stepDeed_le ms h room r s) _) (by have := w.stepsAt r; omega)
  obtain ⟨ρ2, e, r, j7, j8, j9, j10, j11, j12, j13, rfl⟩ := forRun_ix (t := .n 6) (b := l1_deeds (callN tbl (n + 1))) (S := S) (fun (i : Nat) => PyData.int (i : Int)) (fun k ρ => ∃ r j7 j8 j9 j10 j11 j12 j13, ρ = denv ms room h ((List.range k).flatMap fun r => (stepsAt ms h.st r).flatMap (stepDeed ms h room r)) r j7 j8 j9 j10 j11 j12 j13)
    (List.range ms.length) 0 (denv ms room h [] none none none none none none none none) ⟨_, _, _, _, _, _, _, _, rfl⟩ (fun k r ρ hk ⟨r0, j7, j8, j9, j10, j11, j12, j13, hρ⟩ => by
      obtain ⟨hkl, hkr⟩ := List.getElem?_eq_some_iff.mp hk
      rw [List.getElem_range] at hkr
      subst hkr hρ
      rw [List.length_range] at hkl
      rw [Nat.zero_add]
      have sm := small k (by omega)
      have smS := w.stepsAt k
      generalize hF : ((List.range k).flatMap fun r => (stepsAt ms h.st r).flatMap (stepDeed ms h room r)) = F at sm
      obtain ⟨ρ2, e, j7, j8, j9, j10, j11, j12, j13, rfl⟩ := forRun_ix (t := .t [7, 8, 9, 10, 11]) (b := l0_deeds (callN tbl (n + 1))) (S := S) MP.Step.d (fun i ρ => ∃ j7 j8 j9 j10 j11 j12 j13, ρ = denv ms room h (F ++ ((stepsAt ms h.st k).take i).flatMap (stepDeed ms h room k)) (some (.d (.int k))) j7 j8 j9 j10 j11 j12 j13)
        (stepsAt ms h.st k) 0 (denv ms room h F (some (.d (.int k))) j7 j8 j9 j10 j11 j12 j13) ⟨j7, j8, j9, j10, j11, j12, j13, by simp⟩ (fun i s ρ hi ⟨j7, j8, j9, j10, j11, j12, j13, hρ⟩ => by
          subst hρ
          rw [Nat.zero_add]
          have sm2 : (F ++ ((stepsAt ms h.st k).take i).flatMap (stepDeed ms h room k)).length < 1000000 := by
            have := flatMap_le (c := 1) (fun s => stepDeed_le ms h room k s) ((stepsAt ms h.st k).take i)
            have h2 : ((stepsAt ms h.st k).take i).length ≤ 100 := by rw [List.length_take]; omega
            rw [List.length_append]
            omega
          obtain ⟨ρ1, k7, k8, k9, k10, k11, k12, k13, q1, q2⟩ := deed_one n w S k hkl s _ sm2 j7 j8 j9 j10 j11 j12 j13
          refine ⟨ρ1, _, q1, .inl q2, k7, k8, k9, k10, k11, k12, k13, ?_⟩
          rw [List.take_add_one, hi]
          unfold denv
          simp)
      refine ⟨_, _, rfl, .inl ?_, some (.d (.int k)), j7, j8, j9, j10, j11, j12, j13, rfl⟩
      unfold l1_deeds
      rw [Nat.zero_add, List.take_length] at e
      simp [denv, machine_at hkl, state_at (show k < h.st.length by omega), steps_at]
      simp only [denv] at e
      rw [e, List.range_succ, List.flatMap_append, hF]
      simp)
  simp [denv, Here.d] at e
  simp [start0, h1, upFrom_range, Here.d, e, sortOk_deeds, sortD_map]
  rfl
theorem is_unheard (n : Nat) (steps : List MP.Step) (q : List Qe) (r : Int) (S : Store) (hl : steps.length ≤ 60) : callN tbl (n + 2) 22 [.d (.list (steps.map MP.Step.d)), .d (qsD q), .d (.int r)] S = some (.d (.bool (isUnheard steps q r)), S) := by
  rw [call_is_unheard]
  unfold b_is_unheard runFn
  obtain ⟨h1, h2⟩ := forRun_find (t := .n 3) (b := l0_is_unheard (callN tbl (n + 1))) (S := S) (u := .d (.bool true)) PyData.int (fun ρ => ∃ j3 j4 j5, ρ = [some (.d (.list (steps.map MP.Step.d))), some (.d (qsD q)), some (.d (.int r)), j3, j4, j5])
    (fun o => decide (0 < (rowOf q o r).length) && !((steps.filter fun s => decide (s.other = o)).map Step.letter).contains ((rowOf q o r).getD 0 0)) (setI (steps.map Step.other)) [some (.d (.list (steps.map MP.Step.d))), some (.d (qsD q)), some (.d (.int r)), none, none, none] ⟨none, none, none, rfl⟩ (fun o ρ ho ⟨j3, j4, j5, hρ⟩ => by
      subst hρ
      refine ⟨_, rfl, ?_⟩
      unfold l0_is_unheard
      have cr : compRun (.n 5) (eBin opEq (eIx (eVar 5) (eC (.int 2))) (eVar 3)) (eIx (eVar 5) (eC (.int 3))) [some (.d (.list (steps.map MP.Step.d))), some (.d (qsD q)), some (.d (.int r)), some (.d (.int o)), some (.d (iT (rowOf q o r))), none] (steps.map MP.Step.d) S =
          some (((steps.filter fun s => decide (s.other = o)).map Step.letter).map PyData.int, S) := by
        rw [compRun_of MP.Step.d (fun s => decide (s.other = o)) (fun s => .int s.letter), List.map_map]
        · rfl
        · intro s hs
          refine ⟨_, rfl, ?_⟩
          simp [MP.Step.d, L2.atI, ixN, eq_int]
      generalize hR : rowOf q o r = R at cr ⊢
      cases R with
      | nil => simp [on_way, hR]
      | cons x R =>
        have h0 : (0 : Int) < (R.length : Int) + 1 := by omega
        have at0 : L2.atI (PyData.int x :: R.map PyData.int) 0 = some (.int x) := by
          unfold L2.atI ixN
          simp [h0]
        generalize ((steps.filter fun s => decide (s.other = o)).map Step.letter) = L at cr ⊢
        by_cases hm : x ∈ L
        · simp [on_way, hR, at0, h0, cr, notIn_ints, hm]
        · simp [on_way, hR, at0, h0, cr, notIn_ints, hm])
  have cr : compRun (.n 5) (eC (.bool true)) (eIx (eVar 5) (eC (.int 2))) [some (.d (.list (steps.map MP.Step.d))), some (.d (qsD q)), some (.d (.int r)), none, none, none] (steps.map MP.Step.d) S = some ((steps.map Step.other).map PyData.int, S) := by
    rw [compRun_of MP.Step.d (fun _ => true) (fun s => .int s.other), all_true, List.map_map]
    · rfl
    · intro s hs
      refine ⟨_, rfl, ?_⟩
      simp [MP.Step.d, L2.atI, ixN]
  have hlt : (steps.map Step.other).length < 64 := by rw [List.length_map]; omega
  have oi := intsD_map (steps.map Step.other)
  unfold isUnheard
  generalize hA : (setI (steps.map Step.other)).any _ = A at h1 h2 ⊢
  clear hA
  generalize (steps.map Step.other).map PyData.int = Ds at cr oi
  generalize steps.map Step.other = L at h1 h2 oi hlt
  cases A with
  | true =>
    have e := h1 rfl
    simp [start0, cr, oi, hlt, e]
  | false =>
    obtain ⟨ρ2, e, j3, j4, j5, rfl⟩ := h2 rfl
    simp [start0, cr, oi, hlt, e]
theorem trouble_at (n : Nat) {ms : List Mach} {room : Int} {h : Here} (w : WF ms room h) (S : Store) : callN tbl (n + 3) 21 [.d (msD ms), .d h.d, .d (.int room)] S = some (.d (optTr (troubleT ms h room)), S) := by
  rw [call_trouble_at]
  unfold b_trouble_at runFn
  have hfew := w.few
  have hst := w.len
  have b1 : -1000000 ≤ (ms.length : Int) ∧ (ms.length : Int) ≤ 1000000 := by omega
  obtain ⟨h1, h2⟩ := forRun_find (t := .n 5) (b := l0_trouble_at (callN tbl (n + 2))) (S := S) (u := .d (.str "unheard")) (fun (i : Nat) => PyData.int (i : Int)) (fun ρ => ∃ j5 j6 j7 j8 j9, ρ = [some (.d (msD ms)), some (.d h.d), some (.d (.int room)), some (.d (iT h.st)), some (.d (qsD h.q)), j5, j6, j7, j8, j9])
    (fun r => decide (0 < (stepsAt ms h.st r).length) && (stepsAt ms h.st r).all (fun s => !s.snd) && isUnheard (stepsAt ms h.st r) h.q r) (List.range ms.length) [some (.d (msD ms)), some (.d h.d), some (.d (.int room)), some (.d (iT h.st)), some (.d (qsD h.q)), none, none, none, none, none] ⟨none, none, none, none, none, rfl⟩ (fun r ρ hr ⟨j5, j6, j7, j8, j9, hρ⟩ => by
      subst hρ
      rw [List.mem_range] at hr
      refine ⟨_, rfl, ?_⟩
      unfold l0_trouble_at
      have un := is_unheard n (stepsAt ms h.st r) h.q r S (w.stepsAt r)
      have sa : ∀ (n : Nat) (S : Store), callN tbl (n + 1) 14 [.d (Mach.d (mAt ms r)), .d (.int (sAt h.st r))] S = some (.d (.list ((stepsAt ms h.st r).map MP.Step.d)), S) := fun n S => steps_at n ms h.st r S
      generalize stepsAt ms h.st r = T at un sa ⊢
      have cr : compRun (.n 9) (eC (.bool true)) (eBin opEq (eIx (eVar 9) (eC (.int 1))) (eC (.str "hear"))) [some (.d (msD ms)), some (.d h.d), some (.d (.int room)), some (.d (iT h.st)), some (.d (qsD h.q)), some (.d (.int r)), some (.d (.list (T.map MP.Step.d))), j7, j8, none] (T.map MP.Step.d) S = some ((T.map fun s => !s.snd).map PyData.bool, S) := by
        rw [compRun_of MP.Step.d (fun _ => true) (fun s => .bool !s.snd), all_true, List.map_map]
        · rfl
        · intro s hs
          refine ⟨_, rfl, ?_⟩
          cases hb : s.snd with
          | true => simp [MP.Step.d, L2.atI, ixN, hb, wD, w_sh]
          | false => simp [MP.Step.d, L2.atI, ixN, hb, wD, w_hh]
      have oa : opAll (.d (.list ((T.map fun s => !s.snd).map PyData.bool))) = some (.bool (T.all fun s => !s.snd)) := by
        rw [x_all, boolsD_map, Option.map_some, List.all_map]
        rfl
      generalize (T.map fun s => !s.snd).map PyData.bool = Ds at cr oa
      generalize (T.all fun s => !s.snd) = A at oa ⊢
      generalize isUnheard T h.q r = U at un ⊢
      cases T with
      | nil => simp [machine_at hr, state_at (show r < h.st.length by omega), sa]
      | cons t T' =>
        have hp : (0 : Int) < ((t :: T').length : Int) := by rw [List.length_cons]; omega
        have hp2 : 0 < (t :: T').length := by rw [List.length_cons]; omega
        generalize t :: T' = T at *
        cases A <;> cases U <;> simp [-x_all, machine_at hr, state_at (show r < h.st.length by omega), sa, hp, hp2, cr, oa, un])
  unfold troubleT
  have ds := deeds n w S
  have dl := deedsT_len ms h room
  have ca : ∀ j5 j6 j7 j9 : Option Val, compRun (.n 8) (eC (.bool true)) (eBin opEq (eU opLen (eCall (callN tbl (n + 2)) 14 (aCons (eIx (eVar 0) (eVar 8)) (aCons (eIx (eVar 3) (eVar 8)) (aNil))) [])) (eC (.int 0))) [some (.d (msD ms)), some (.d h.d), some (.d (.int room)), some (.d (iT h.st)), some (.d (qsD h.q)), j5, j6, j7, none, j9] ((List.range ms.length).map fun (i : Nat) => PyData.int (i : Int)) S = some (((List.range ms.length).map fun r => decide ((stepsAt ms h.st r).length = 0)).map PyData.bool, S) := fun j5 j6 j7 j9 => by
    rw [compRun_of (fun (i : Nat) => PyData.int (i : Int)) (fun _ => true) (fun r => .bool (decide ((stepsAt ms h.st r).length = 0))), all_true, List.map_map]
    · rfl
    · intro r hr
      rw [List.mem_range] at hr
      refine ⟨_, rfl, rfl, fun _ => ?_⟩
      simp [machine_at hr, state_at (show r < h.st.length by omega), steps_at, eq_int]
  have oa : opAll (.d (.list (((List.range ms.length).map fun r => decide ((stepsAt ms h.st r).length = 0)).map PyData.bool))) = some (.bool ((List.range ms.length).all fun r => decide ((stepsAt ms h.st r).length = 0))) := by
    rw [x_all, boolsD_map, Option.map_some, List.all_map]
    rfl
  generalize ((List.range ms.length).map fun r => decide ((stepsAt ms h.st r).length = 0)).map PyData.bool = Ds at ca oa
  generalize ((List.range ms.length).all fun r => decide ((stepsAt ms h.st r).length = 0)) = O at oa ⊢
  generalize hA : (List.range ms.length).any _ = A at h1 h2 ⊢
  clear hA
  cases A with
  | true =>
    have e := h1 rfl
    simp [start0, b1, upFrom_range, e, optTr, Tr.d]
  | false =>
    obtain ⟨ρ2, e, j5, j6, j7, j8, j9', rfl⟩ := h2 rfl
    by_cases hd : 0 < (deedsAt ms h room).length
    · have hd2 : (0 : Int) < ((deedsT ms h room).length : Int) := by omega
      have hd4 : ¬ deedsT ms h room = [] := fun z => by rw [z] at hd2; simp at hd2
      have hd5 : ¬ deedsAt ms h room = [] := fun z => by rw [z] at hd; simp at hd
      have hd2n : 0 < (deedsT ms h room).length := by omega
      rw [if_pos hd]
      simp [start0, b1, upFrom_range, e, optTr, ds, hd2, hd2n]
    · have hd2 : (deedsT ms h room).length = 0 := by omega
      have hd3 : (deedsAt ms h room).length = 0 := by omega
      cases O with
      | true =>
        by_cases hq : 0 < h.q.length
        · simp [-x_all, start0, b1, upFrom_range, e, optTr, Tr.d, ds, hd2, hd3, ca, oa, hq]
        · have hq2 : h.q.length = 0 := by omega
          simp [-x_all, start0, b1, upFrom_range, e, optTr, Tr.d, ds, hd2, hd3, ca, oa, hq2]
      | false =>
        simp [-x_all, start0, b1, upFrom_range, e, optTr, Tr.d, ds, hd2, hd3, ca, oa]
end K58
set_option Elab.async false
set_option linter.all false
set_option maxRecDepth 20000
namespace K58
open PySem L2 MP
/-! The search in letters. -/
def senv (ms : List Mach) (room : Int) (found : List Here) (ways : List (List DKey)) (i : Nat) (j5 j6 j7 j8 j9 j10 : Option Val) : MP.Env :=
  [some (.d (msD ms)), some (.d (.int room)), some (.d (.list (found.map Here.d))), some (.d (.list (ways.map wayD))), some (.d (.int i)), j5, j6, j7, j8, j9, j10]
theorem way_at {ways : List (List DKey)} {i : Nat} {way : List DKey} (h : ways[i]? = some way) : L2.atI (ways.map wayD) (i : Int) = some (wayD way) := by
  refine MP.atI_nat ?_
  rw [List.getElem?_map, h]
  rfl
theorem here_at {f : List Here} {i : Nat} {x : Here} (h : f[i]? = some x) : L2.atI (f.map Here.d) (i : Int) = some x.d := by
  refine MP.atI_nat ?_
  rw [List.getElem?_map, h]
  rfl
theorem way_add {w : List DKey} (x : DKey) (h : w.length ≤ 3000) : opAdd (wayD w) (.tuple [x.d]) = some (wayD (w ++ [x])) := by
  unfold wayD
  rw [x_addT, if_pos (by simp; omega)]
  simp
theorem add_one (n : Nat) {P : Here → Prop} {ms : List Mach} {room : Int} {found : List Here} {ways : List (List DKey)} {i : Nat} {way : List DKey} (b : BOk P found ways) (hi : ways[i]? = some way) (hz : way.length ≤ 3000) (x : Deed) (j5 j6 j7 j8 j9 j10 : Option Val) (S : Store) :
    ∃ ρ1 k6 k7 k8 k9 k10, (Tg.t [6, 7, 8, 9, 10]).set x.d (senv ms room found ways i j5 j6 j7 j8 j9 j10) = some ρ1 ∧
      l0_search (callN tbl n) ρ1 S = some (.nx (senv ms room (addOne way (found, ways) (x.key, x.behind)).1 (addOne way (found, ways) (x.key, x.behind)).2 i j5 k6 k7 k8 k9 k10) S) := by
  refine ⟨_, some (.d (.int x.role)), some (.d (wD x.snd)), some (.d (.int x.other)), some (.d (.int x.letter)), some (.d x.behind.d), rfl, ?_⟩
  unfold l0_search addOne senv
  have hl : found.length < 1000000 := Nat.lt_of_le_of_lt b.few (by omega)
  have hl2 : ways.length < 1000000 := by rw [b.len]; exact hl
  have ek : (PyData.tuple [.int x.role, wD x.snd, .int x.other, .int x.letter]) = x.key.d := rfl
  by_cases h1 : x.behind ∈ found
  · simp [notIn_here, h1]
  · by_cases h2 : found.length < 3000
    · have h3 : (found.length : Int) < 3000 := by omega
      simp [notIn_here, h1, h2, h3, hl, hl2, way_at hi, ek, way_add x.key hz]
    · have h3 : ¬ (found.length : Int) < 3000 := by omega
      simp [notIn_here, h1, h2, h3]
theorem search_loop (n : Nat) {P : Here → Prop} {ms : List Mach} {room : Int} (hW : ∀ x, P x → WF ms room x) (hP : ∀ x, P x → ∀ a ∈ nextT ms room x, P a.2) (S : Store) : ∀ (k : Nat) (found : List Here) (ways : List (List DKey)) (i : Nat) (j5 j6 j7 j8 j9 j10 : Option Val) (res : Option (Tr × List DKey)) (fin : List Here),
    BOk P found ways → bfsRun (fun h => troubleT ms h room) (nextT ms room) k found ways i = some (res, fin) →
    (res = none → ∃ ways' i' u5 u6 u7 u8 u9 u10, whileRun (eBin opLt (eVar 4) (eU opLen (eVar 2))) (l1_search (callN tbl (n + 3))) k (senv ms room found ways i j5 j6 j7 j8 j9 j10) S = some (.nx (senv ms room fin ways' i' u5 u6 u7 u8 u9 u10) S)) ∧
    (∀ t w, res = some (t, w) → whileRun (eBin opLt (eVar 4) (eU opLen (eVar 2))) (l1_search (callN tbl (n + 3))) k (senv ms room found ways i j5 j6 j7 j8 j9 j10) S = some (.ret (.d (.tuple [.tuple [t.d, wayD w], .list (fin.map Here.d)])) S))
  | 0, _, _, _, _, _, _, _, _, _, _, _, _, h => by cases h
  | k + 1, found, ways, i, j5, j6, j7, j8, j9, j10, res, fin, b, h => by
    unfold bfsRun at h
    cases hx : found[i]? with
    | none =>
      rw [hx] at h
      cases h
      have hil : ¬ (i < found.length) := by
        have := List.getElem?_eq_none_iff.mp hx
        omega
      refine ⟨fun _ => ⟨ways, i, j5, j6, j7, j8, j9, j10, ?_⟩, fun t w e => by cases e⟩
      unfold whileRun
      simp [senv, hil]
    | some x =>
      rw [hx] at h
      have px := b.all x (List.mem_of_getElem? hx)
      have w := hW x px
      have hil := (List.getElem?_eq_some_iff.mp hx).1
      have hil2 : (i : Int) < (found.length : Int) := by omega
      obtain ⟨way, hway⟩ : ∃ way, ways[i]? = some way := ⟨_, List.getElem?_eq_getElem (by rw [b.len]; exact hil)⟩
      have hgd : ways.getD i [] = way := by rw [List.getD_eq_getElem?_getD, hway]; rfl
      have hz : way.length ≤ 3000 := by
        have := b.short i way hway
        have := b.few
        omega
      have tr := trouble_at n w S
      have dd := deeds (n + 1) w S
      simp only [hgd] at h
      cases ht : troubleT ms x room with
      | some t =>
        simp only [ht] at h
        cases h
        refine ⟨fun e => (by cases e), fun t' w' e => ?_⟩
        cases e
        unfold whileRun l1_search
        have hnn : isN t.d = false := by cases t <;> rfl
        rw [ht] at tr
        simp only [optTr] at tr
        simp [senv, hil, here_at hx, tr, hnn, way_at hway]
      | none =>
        simp only [ht] at h
        rw [ht] at tr
        simp only [optTr] at tr
        obtain ⟨ρ2, e, b', hw', k6, k7, k8, k9, k10, hρ⟩ := forRun_of (t := .t [6, 7, 8, 9, 10]) (b := l0_search (callN tbl (n + 3))) (S := S) Deed.d (fun s ρ => BOk P s.1 s.2 ∧ s.2[i]? = some way ∧ ∃ j6 j7 j8 j9 j10, ρ = senv ms room s.1 s.2 i (some (.d .none)) j6 j7 j8 j9 j10)
          (fun s a => addOne way s (a.key, a.behind)) (deedsT ms x room) (found, ways) (senv ms room found ways i (some (.d .none)) j6 j7 j8 j9 j10) ⟨b, hway, j6, j7, j8, j9, j10, rfl⟩ (fun s a ρ ha ⟨b', hw', k6, k7, k8, k9, k10, hρ⟩ => by
            subst hρ
            obtain ⟨ρ1, l6, l7, l8, l9, l10, q1, q2⟩ := add_one (n + 3) (ms := ms) (room := room) b' hw' hz a (some (.d .none)) k6 k7 k8 k9 k10 S
            have pa : P a.behind := hP x px (a.key, a.behind) (List.mem_map.mpr ⟨a, ha, rfl⟩)
            obtain ⟨b2, hw2⟩ := b'.add hw' (a := (a.key, a.behind)) pa
            exact ⟨ρ1, _, q1, .inl q2, b2, hw2, l6, l7, l8, l9, l10, rfl⟩)
        have ef : (nextT ms room x).foldl (addOne way) (found, ways) = (deedsT ms x room).foldl (fun s a => addOne way s (a.key, a.behind)) (found, ways) := by
          unfold nextT
          rw [List.foldl_map]
        rw [← ef] at b' hw' hρ
        subst hρ
        generalize (nextT ms room x).foldl (addOne way) (found, ways) = fw at h b' hw' e
        obtain ⟨f', w'⟩ := fw
        obtain ⟨r1, r2⟩ := search_loop n hW hP S k f' w' (i + 1) (some (.d .none)) k6 k7 k8 k9 k10 res fin b' h
        have step : whileRun (eBin opLt (eVar 4) (eU opLen (eVar 2))) (l1_search (callN tbl (n + 3))) (k + 1) (senv ms room found ways i j5 j6 j7 j8 j9 j10) S = whileRun (eBin opLt (eVar 4) (eU opLen (eVar 2))) (l1_search (callN tbl (n + 3))) k (senv ms room f' w' (i + 1) (some (.d .none)) k6 k7 k8 k9 k10) S := by
          rw [whileRun]
          conv => lhs; unfold l1_search
          simp only [senv] at e
          simp [senv, hil, here_at hx, tr, dd, e]
          rfl
        refine ⟨fun q => ?_, fun t w q => by rw [step]; exact r2 t w q⟩
        obtain ⟨a1, a2, a3, a4, a5, a6, a7, a8, hr⟩ := r1 q
        exact ⟨a1, a2, a3, a4, a5, a6, a7, a8, step.trans hr⟩
/-- the state from which all begins -/
def here0 (ms : List Mach) : Here := ⟨List.replicate ms.length 0, []⟩
theorem begin_ (n : Nat) (ms : List Mach) (S : Store) : callN tbl (n + 1) 16 [.d (msD ms)] S = some (.d (here0 ms).d, S) := by
  rw [call_begin_2]
  unfold b_begin_2 runFn
  have cr : compRun (.n 1) (eC (.bool true)) (eC (.int 0)) [some (.d (msD ms)), none] (ms.map Mach.d) S = some (ms.map fun _ => PyData.int 0, S) := by
    rw [compRun_of Mach.d (fun _ => true) (fun _ => .int 0), all_true]
    intro m hm
    exact ⟨_, rfl, rfl, fun _ => rfl⟩
  simp [start0, msD] at cr ⊢
  simp [cr, Here.d, here0, iT, qsD]
  exact List.eq_replicate_iff.mpr ⟨by simp, fun b hb => by
    obtain ⟨_, _, e⟩ := List.mem_map.mp hb
    exact e.symm⟩
theorem search_ (n : Nat) {P : Here → Prop} {ms : List Mach} {room : Int} (hW : ∀ x, P x → WF ms room x) (hP : ∀ x, P x → ∀ a ∈ nextT ms room x, P a.2) (h0 : P (here0 ms)) (S : Store) {res : Option (Tr × List DKey)} {fin : List Here}
    (h : bfsRun (fun h => troubleT ms h room) (nextT ms room) 4000 [here0 ms] [[]] 0 = some (res, fin)) :
    callN tbl (n + 4) 23 [.d (msD ms), .d (.int room)] S = some (.d (.tuple [match res with | none => .none | some (t, w) => .tuple [t.d, wayD w], .list (fin.map Here.d)]), S) := by
  rw [call_search]
  unfold b_search runFn
  have b0 : BOk P [here0 ms] ([[]] : List (List DKey)) := ⟨rfl, by simp, fun k w hk => by
    cases k with
    | zero => simp at hk; subst hk; simp
    | succ k => simp at hk, fun x hx => by simp at hx; subst hx; exact h0⟩
  obtain ⟨r1, r2⟩ := search_loop n hW hP S 4000 [here0 ms] [[]] 0 none none none none none none res fin b0 h
  have bg := begin_ (n + 2) ms S
  cases res with
  | none =>
    obtain ⟨a1, a2, a3, a4, a5, a6, a7, a8, hr⟩ := r1 rfl
    simp [senv, wayD] at hr
    simp [start0, bg, sWhile, hr]
  | some tw =>
    obtain ⟨t, w⟩ := tw
    have hr := r2 t w rfl
    simp [senv, wayD] at hr
    simp [start0, bg, sWhile, hr, wayD]
theorem trouble_none (n : Nat) {P : Here → Prop} {ms : List Mach} {room : Int} (hW : ∀ x, P x → WF ms room x) (hP : ∀ x, P x → ∀ a ∈ nextT ms room x, P a.2) (h0 : P (here0 ms)) (S : Store) {fin : List Here}
    (h : bfsRun (fun h => troubleT ms h room) (nextT ms room) 4000 [here0 ms] [[]] 0 = some (none, fin)) : callN tbl (n + 5) 24 [.d (msD ms), .d (.int room)] S = some (.d .none, S) := by
  rw [call_trouble]
  unfold b_trouble runFn
  have e := search_ n hW hP h0 S h
  simp [start0, e, L2.atI, ixN]
end K58
set_option Elab.async false
set_option linter.all false
set_option maxRecDepth 20000
namespace K58
open PySem L2 MP
/-! Hand in hand, by typed mirrors. -/
structure Meet where
  a : Int
  b : Int
  l : Int
  behind : List Int
deriving DecidableEq
def Meet.d (m : Meet) : D := .tuple [.int m.a, .int m.b, .int m.l, iT m.behind]
theorem alike_meet (x y : Meet) : PySem.W.alike x.d y.d = true := by simp [Meet.d, PySem.W.alike, PySem.W.alikeAll, alike_iT]
theorem dp_meet (x : Meet) : x.d.depth ≤ 2 := by
  have := dp_iT x.behind
  simp only [Meet.d, PyData.depth, PyData.depthAll]
  omega
theorem sortOk_meets (l : List Meet) : sortOk (l.map Meet.d) = true := sortOk_map _ l alike_meet (fun x => rfl) fun x => okD_of (dp_meet x) (by omega)
/-- what the steps T of the hearer o make of a letter of the speaker r -/
def meetL (st : List Int) (r o : Nat) (letter dst : Int) (T : List MP.Step) : List Meet := (T.filter fun u => decide (u.snd = false ∧ u.other = (r : Int) ∧ u.letter = letter)).map fun u => ⟨r, o, letter, (st.set r dst).set o u.dst⟩
theorem meetL_add (st : List Int) (r o : Nat) (letter dst : Int) (T U : List MP.Step) : meetL st r o letter dst (T ++ U) = meetL st r o letter dst T ++ meetL st r o letter dst U := by
  unfold meetL
  rw [List.filter_append, List.map_append]
theorem meetL_len (st : List Int) (r o : Nat) (letter dst : Int) (T : List MP.Step) : (meetL st r o letter dst T).length ≤ T.length := by
  unfold meetL
  rw [List.length_map]
  exact List.length_filter_le _ _
theorem meetL_one {st : List Int} {r o : Nat} {letter dst : Int} {u : MP.Step} (h : u.snd = false ∧ u.other = (r : Int) ∧ u.letter = letter) : meetL st r o letter dst [u] = [⟨r, o, letter, (st.set r dst).set o u.dst⟩] := by
  unfold meetL
  rw [List.filter_cons, decide_eq_true h]
  rfl
theorem meetL_no {st : List Int} {r o : Nat} {letter dst : Int} {u : MP.Step} (h : ¬ (u.snd = false ∧ u.other = (r : Int) ∧ u.letter = letter)) : meetL st r o letter dst [u] = [] := by
  unfold meetL
  rw [List.filter_cons, decide_eq_false h]
  rfl
def meetStep (ms : List Mach) (st : List Int) (r : Nat) (s : MP.Step) : List Meet :=
  if s.snd = true ∧ s.other < (ms.length : Int) ∧ s.other ≠ (r : Int) then
    meetL st r s.other.toNat s.letter s.dst (stepsAt ms st s.other.toNat)
  else []
def meetsAt (ms : List Mach) (st : List Int) : List Meet := (List.range ms.length).flatMap fun r => (stepsAt ms st r).flatMap (meetStep ms st r)
def meetsT (ms : List Mach) (st : List Int) : List Meet := sortBy Meet.d (meetsAt ms st)
theorem meetsT_mem {ms : List Mach} {st : List Int} {m : Meet} : m ∈ meetsT ms st ↔ m ∈ meetsAt ms st := by
  unfold meetsT sortBy
  exact List.mem_mergeSort
theorem meetsT_len (ms : List Mach) (st : List Int) : (meetsT ms st).length = (meetsAt ms st).length := by
  unfold meetsT sortBy
  exact List.length_mergeSort _
/-- sizes -/
structure WH (ms : List Mach) (st : List Int) : Prop where
  len : st.length = ms.length
  few : ms.length ≤ 4
  steps : ∀ m ∈ ms, m.2.length ≤ 60
  pos : ∀ m ∈ ms, ∀ s ∈ m.2, 0 ≤ s.other
theorem WH.stepsAt {ms : List Mach} {st : List Int} (w : WH ms st) (r : Nat) : (stepsAt ms st r).length ≤ 60 := by
  unfold MP.stepsAt
  refine Nat.le_trans (List.length_filter_le _ _) ?_
  rw [List.getD_eq_getElem?_getD]
  cases e : ms[r]? with
  | none => simp
  | some m => simpa using w.steps m (List.mem_of_getElem? e)
theorem WH.posAt {ms : List Mach} {st : List Int} (w : WH ms st) (r : Nat) : ∀ s ∈ MP.stepsAt ms st r, 0 ≤ s.other := by
  intro s hs
  unfold MP.stepsAt at hs
  have hs := (List.mem_filter.mp hs).1
  rw [List.getD_eq_getElem?_getD] at hs
  cases e : ms[r]? with
  | none => rw [e] at hs; simp at hs
  | some m => rw [e] at hs; exact w.pos m (List.mem_of_getElem? e) s hs
theorem meetStep_le {ms : List Mach} {st : List Int} (w : WH ms st) (r : Nat) (s : MP.Step) : (meetStep ms st r s).length ≤ 60 := by
  unfold meetStep
  split
  · exact Nat.le_trans (meetL_len ..) (w.stepsAt _)
  · simp
theorem with_states (n : Nat) (st : List Int) (r o : Nat) (x y : Int) (S : Store) (hr : r < st.length) (ho : o < st.length) : callN tbl (n + 1) 37 [.d (iT st), .d (.int r), .d (.int x), .d (.int o), .d (.int y)] S = some (.d (iT ((st.set r x).set o y)), S) := by
  rw [call_with_states]
  unfold b_with_states runFn
  have h1 : ixN st.length (r : Int) = some r := MP.ixN_nat hr
  have h2 : ixN st.length (o : Int) = some o := MP.ixN_nat ho
  simp [start0, iT, x_own, h1, h2, List.map_set]
theorem meet_one (n : Nat) {ms : List Mach} {st : List Int} (w : WH ms st) (S : Store) (r : Nat) (hr : r < ms.length) (s : MP.Step) (h0 : 0 ≤ s.other) (found : List Meet) (hf : found.length ≤ 100000) (j5 j6 j7 : Option Val) :
    ∃ k5 k6 k7, l1_meets (callN tbl (n + 1)) [some (.d (msD ms)), some (.d (iT st)), some (.d (.list (found.map Meet.d))), some (.d (.int r)), some (.d s.d), j5, j6, j7] S =
      some (.nx [some (.d (msD ms)), some (.d (iT st)), some (.d (.list ((found ++ meetStep ms st r s).map Meet.d))), some (.d (.int r)), some (.d s.d), k5, k6, k7] S) := by
  obtain ⟨src, snd, other, letter, dst⟩ := s
  have h0 : 0 ≤ other := h0
  obtain ⟨o, rfl⟩ : ∃ o : Nat, other = (o : Int) := ⟨other.toNat, by omega⟩
  have hlen := w.len
  have i1 : L2.atI [PyData.int src, wD snd, .int (o : Int), .int letter, .int dst] 1 = some (wD snd) := rfl
  have i2 : L2.atI [PyData.int src, wD snd, .int (o : Int), .int letter, .int dst] 2 = some (.int (o : Int)) := rfl
  have i3 : L2.atI [PyData.int src, wD snd, .int (o : Int), .int letter, .int dst] 3 = some (.int letter) := rfl
  have i4 : L2.atI [PyData.int src, wD snd, .int (o : Int), .int letter, .int dst] 4 = some (.int dst) := rfl
  unfold l1_meets meetStep
  by_cases hc : snd = true ∧ o < ms.length ∧ o ≠ r
  · obtain ⟨rfl, ho, hne⟩ := hc
    rw [if_pos (by refine ⟨rfl, by show (o : Int) < _; omega, by show (o : Int) ≠ _; omega⟩)]
    have ho2 : (o : Int) < (ms.length : Int) := by omega
    have hne2 : ¬ (o : Int) = (r : Int) := by omega
    have hsl := w.stepsAt o
    have sa : ∀ (n : Nat) (S : Store), callN tbl (n + 1) 14 [.d (Mach.d (mAt ms o)), .d (.int (sAt st o))] S = some (.d (.list ((MP.stepsAt ms st o).map MP.Step.d)), S) := fun n S => steps_at n ms st o S
    dsimp only
    rw [Int.toNat_natCast]
    generalize MP.stepsAt ms st o = T at hsl sa ⊢
    obtain ⟨ρ2, e, k6, k7, rfl⟩ := forRun_ix (t := .n 6) (b := l0_meets (callN tbl (n + 1))) (S := S) MP.Step.d (fun i ρ => ∃ k6 k7, ρ = [some (.d (msD ms)), some (.d (iT st)), some (.d (.list ((found ++ meetL st r o letter dst (T.take i)).map Meet.d))), some (.d (.int r)), some (.d (MP.Step.d ⟨src, true, o, letter, dst⟩)), some (.d (.int o)), k6, k7])
      T 0 [some (.d (msD ms)), some (.d (iT st)), some (.d (.list (found.map Meet.d))), some (.d (.int r)), some (.d (MP.Step.d ⟨src, true, o, letter, dst⟩)), some (.d (.int o)), j6, j7] ⟨j6, j7, by simp [meetL]⟩ (fun k u ρ hk ⟨j6, j7, hρ⟩ => by
        subst hρ
        simp only [Nat.zero_add]
        have hkl := (List.getElem?_eq_some_iff.mp hk).1
        have ll : (meetL st r o letter dst (T.take k)).length ≤ 60 := by
          refine Nat.le_trans (meetL_len ..) ?_
          rw [List.length_take]; omega
        have ek : meetL st r o letter dst (T.take (k + 1)) = meetL st r o letter dst (T.take k) ++ meetL st r o letter dst [u] := by
          rw [List.take_add_one, hk, meetL_add]
          rfl
        rw [ek]
        generalize meetL st r o letter dst (T.take k) = M at ll
        by_cases hu : u.snd = false ∧ u.other = (r : Int) ∧ u.letter = letter
        · refine ⟨_, _, rfl, .inl ?_, some (.d u.d), some (.d (iT ((st.set r dst).set o u.dst))), rfl⟩
          have ws := with_states n st r o dst u.dst S (by omega) (by omega)
          have fl : found.length + M.length < 1000000 := by omega
          have ee : opEq (d3 u.snd u.other u.letter) (.tuple [.str "hear", .int r, .int letter]) = some (.bool true) := by
            have := eq_d3 u.snd false u.other r u.letter letter
            rw [decide_eq_true hu] at this
            exact this
          have u4 : L2.atI [PyData.int u.src, wD u.snd, .int u.other, .int u.letter, .int u.dst] 4 = some (.int u.dst) := rfl
          have it : items S (.d u.d) = some [PyData.int u.src, wD u.snd, .int u.other, .int u.letter, .int u.dst] := rfl
          have it2 : items S (.d (MP.Step.d ⟨src, true, o, letter, dst⟩)) = some [PyData.int src, wD true, .int (o : Int), .int letter, .int dst] := rfl
          rw [meetL_one hu]
          unfold l0_meets
          simp [step_cut, i3, i4, u4, it, it2, ee, ws, fl, Meet.d]
        · refine ⟨_, _, rfl, .inl ?_, some (.d u.d), j7, rfl⟩
          have ee : opEq (d3 u.snd u.other u.letter) (.tuple [.str "hear", .int r, .int letter]) = some (.bool false) := by
            have := eq_d3 u.snd false u.other r u.letter letter
            rw [decide_eq_false hu] at this
            exact this
          have it2 : items S (.d (MP.Step.d ⟨src, true, o, letter, dst⟩)) = some [PyData.int src, wD true, .int (o : Int), .int letter, .int dst] := rfl
          rw [meetL_no hu]
          unfold l0_meets
          simp [step_cut, i3, it2, ee])
    rw [Nat.zero_add, List.take_length] at e
    refine ⟨some (.d (.int o)), k6, k7, ?_⟩
    have it2 : items S (.d (MP.Step.d ⟨src, true, o, letter, dst⟩)) = some [PyData.int src, wD true, .int (o : Int), .int letter, .int dst] := rfl
    have ws : opEq (wD true) (.str "send") = some (.bool true) := w_ss
    simp [it2, i1, i2, ws, ne_int, ho2, ho, hne2, hne, machine_at (show o < ms.length from ho), state_at (show o < st.length by omega), sa, e]
  · rw [if_neg (by
      rintro ⟨q1, q2, q3⟩
      have q2 : (o : Int) < (ms.length : Int) := q2
      have q3 : (o : Int) ≠ (r : Int) := q3
      exact hc ⟨q1, by omega, by omega⟩)]
    refine ⟨some (.d (.int o)), j6, j7, ?_⟩
    have it2 : items S (.d (MP.Step.d ⟨src, snd, o, letter, dst⟩)) = some [PyData.int src, wD snd, .int (o : Int), .int letter, .int dst] := rfl
    cases snd with
    | false =>
      have ws : opEq (wD false) (.str "send") = some (.bool false) := w_hs
      simp [it2, i1, i2, ws]
    | true =>
      have ws : opEq (wD true) (.str "send") = some (.bool true) := w_ss
      by_cases ho : o < ms.length
      · have hr2 : o = r := by
          rcases Nat.decEq o r with q | q
          · exact absurd ⟨rfl, ho, q⟩ hc
          · exact q
        subst hr2
        have ho2 : (o : Int) < (ms.length : Int) := by omega
        simp [it2, i1, i2, ws, ho, ne_int]
      · simp [it2, i1, i2, ws, ho]
def menv2 (ms : List Mach) (st : List Int) (found : List Meet) (j3 j4 j5 j6 j7 : Option Val) : MP.Env :=
  [some (.d (msD ms)), some (.d (iT st)), some (.d (.list (found.map Meet.d))), j3, j4, j5, j6, j7]
theorem meets (n : Nat) {ms : List Mach} {st : List Int} (w : WH ms st) (S : Store) : callN tbl (n + 2) 36 [.d (msD ms), .d (iT st)] S = some (.d (.list ((meetsT ms st).map Meet.d)), S) := by
  rw [call_meets]
  unfold b_meets runFn
  have hfew := w.few
  have hlen := w.len
  have h1 : -1000000 ≤ (ms.length : Int) ∧ (ms.length : Int) ≤ 1000000 := by omega
  have small : ∀ k, k ≤ ms.length → ((List.range k).flatMap fun r => (MP.stepsAt ms st r).flatMap (meetStep ms st r)).length ≤ 14400 := fun k hk => by
    refine Nat.le_trans (flatMap_le (c := 3600) (fun r => ?_) _) (by rw [List.length_range]; omega)
    refine Nat.le_trans (flatMap_le (c := 60) (fun s => meetStep_le w r s) _) (by have := w.stepsAt r; omega)
  obtain ⟨ρ2, e, j3, j4, j5, j6, j7, rfl⟩ := forRun_ix (t := .n 3) (b := l2_meets (callN tbl (n + 1))) (S := S) (fun (i : Nat) => PyData.int (i : Int)) (fun k ρ => ∃ j3 j4 j5 j6 j7, ρ = menv2 ms st ((List.range k).flatMap fun r => (MP.stepsAt ms st r).flatMap (meetStep ms st r)) j3 j4 j5 j6 j7)
    (List.range ms.length) 0 (menv2 ms st [] none none none none none) ⟨_, _, _, _, _, rfl⟩ (fun k r ρ hk ⟨j3, j4, j5, j6, j7, hρ⟩ => by
      obtain ⟨hkl, hkr⟩ := List.getElem?_eq_some_iff.mp hk
      rw [List.getElem_range] at hkr
      subst hkr hρ
      rw [List.length_range] at hkl
      rw [Nat.zero_add]
      have sm := small k (by omega)
      have smS := w.stepsAt k
      generalize hF : ((List.range k).flatMap fun r => (MP.stepsAt ms st r).flatMap (meetStep ms st r)) = F at sm
      obtain ⟨ρ2, e, j4, j5, j6, j7, rfl⟩ := forRun_ix (t := .n 4) (b := l1_meets (callN tbl (n + 1))) (S := S) MP.Step.d (fun i ρ => ∃ j4 j5 j6 j7, ρ = menv2 ms st (F ++ ((MP.stepsAt ms st k).take i).flatMap (meetStep ms st k)) (some (.d (.int k))) j4 j5 j6 j7)
        (MP.stepsAt ms st k) 0 (menv2 ms st F (some (.d (.int k))) j4 j5 j6 j7) ⟨j4, j5, j6, j7, by simp⟩ (fun i s ρ hi ⟨j4, j5, j6, j7, hρ⟩ => by
          subst hρ
          rw [Nat.zero_add]
          have sm2 : (F ++ ((MP.stepsAt ms st k).take i).flatMap (meetStep ms st k)).length ≤ 100000 := by
            have := flatMap_le (c := 60) (fun s => meetStep_le w k s) ((MP.stepsAt ms st k).take i)
            have h2 : ((MP.stepsAt ms st k).take i).length ≤ 60 := by rw [List.length_take]; omega
            rw [List.length_append]
            omega
          obtain ⟨k5, k6, k7, q⟩ := meet_one n w S k hkl s (w.posAt k s (List.mem_of_getElem? hi)) _ sm2 j5 j6 j7
          refine ⟨_, _, rfl, .inl q, some (.d s.d), k5, k6, k7, ?_⟩
          rw [List.take_add_one, hi]
          unfold menv2
          simp)
      refine ⟨_, _, rfl, .inl ?_, some (.d (.int k)), j4, j5, j6, j7, rfl⟩
      unfold l2_meets
      rw [Nat.zero_add, List.take_length] at e
      simp [menv2, machine_at hkl, state_at (show k < st.length by omega), steps_at]
      simp only [menv2] at e
      rw [e, List.range_succ, List.flatMap_append, hF]
      simp)
  simp [menv2] at e
  simp [start0, h1, upFrom_range, e, sortOk_meets, sortD_map]
  rfl
/-- no machine has a step -/
def overT (ms : List Mach) (st : List Int) : Bool := (List.range ms.length).all fun r => decide ((MP.stepsAt ms st r).length = 0)
theorem is_overH (n : Nat) {ms : List Mach} {st : List Int} (w : WH ms st) (S : Store) : callN tbl (n + 2) 39 [.d (msD ms), .d (iT st)] S = some (.d (.bool (overT ms st)), S) := by
  rw [call_is_over_2]
  unfold b_is_over_2 runFn
  have hfew := w.few
  have hlen := w.len
  have h1 : -1000000 ≤ (ms.length : Int) ∧ (ms.length : Int) ≤ 1000000 := by omega
  have ca : compRun (.n 2) (eC (.bool true)) (eBin opEq (eU opLen (eCall (callN tbl (n + 1)) 14 (aCons (eIx (eVar 0) (eVar 2)) (aCons (eIx (eVar 1) (eVar 2)) (aNil))) [])) (eC (.int 0))) [some (.d (msD ms)), some (.d (iT st)), none] ((List.range ms.length).map fun (i : Nat) => PyData.int (i : Int)) S = some (((List.range ms.length).map fun r => decide ((MP.stepsAt ms st r).length = 0)).map PyData.bool, S) := by
    rw [compRun_of (fun (i : Nat) => PyData.int (i : Int)) (fun _ => true) (fun r => .bool (decide ((MP.stepsAt ms st r).length = 0))), all_true, List.map_map]
    · rfl
    · intro r hr
      rw [List.mem_range] at hr
      refine ⟨_, rfl, rfl, fun _ => ?_⟩
      simp [machine_at hr, state_at (show r < st.length by omega), steps_at, eq_int]
  have oa : opAll (.d (.list (((List.range ms.length).map fun r => decide ((MP.stepsAt ms st r).length = 0)).map PyData.bool))) = some (.bool (overT ms st)) := by
    rw [x_all, boolsD_map, Option.map_some, List.all_map]
    rfl
  generalize ((List.range ms.length).map fun r => decide ((MP.stepsAt ms st r).length = 0)).map PyData.bool = Ds at ca oa
  simp [-x_all, start0, h1, upFrom_range, ca, oa]
/-! the states that are reached -/
def addM (found : List (List Int)) (m : Meet) : List (List Int) := if m.behind ∉ found then found ++ [m.behind] else found
def reachRun (ms : List Mach) : Nat → List (List Int) → Nat → Option (List (List Int))
  | 0, _, _ => none
  | k + 1, found, i => if i < found.length ∧ found.length < 3000 then reachRun ms k ((meetsT ms (found.getD i [])).foldl addM found) (i + 1) else some found
theorem addM_all {P : List Int → Prop} : ∀ (l : List Meet) (f : List (List Int)), (∀ x ∈ f, P x) → (∀ m ∈ l, P m.behind) → ∀ x ∈ l.foldl addM f, P x
  | [], f, h, _ => h
  | m :: l, f, h, hl => by
    rw [List.foldl_cons]
    refine addM_all l _ (fun x hx => ?_) fun m' hm' => hl m' (List.mem_cons_of_mem _ hm')
    unfold addM at hx
    split at hx
    · rcases List.mem_append.mp hx with e | e
      · exact h x e
      · rw [List.mem_singleton] at e
        subst e
        exact hl m List.mem_cons_self
    · exact h x hx
theorem addM_len : ∀ (l : List Meet) (f : List (List Int)), f.length ≤ (l.foldl addM f).length ∧ (l.foldl addM f).length ≤ f.length + l.length
  | [], f => ⟨Nat.le_refl _, Nat.le_refl _⟩
  | m :: l, f => by
    rw [List.foldl_cons]
    have ih := addM_len l (addM f m)
    have : f.length ≤ (addM f m).length ∧ (addM f m).length ≤ f.length + 1 := by
      unfold addM
      split
      · rw [List.length_append]; simp
      · omega
    rw [List.length_cons]
    omega
theorem reach_ends {P : List Int → Prop} {ms : List Mach} (hP : ∀ x, P x → ∀ m ∈ meetsT ms x, P m.behind) : ∀ (k : Nat) (found : List (List Int)) (i : Nat), (∀ x ∈ found, P x) → i ≤ 3000 → 3000 < k + i → ∃ fin, reachRun ms k found i = some fin ∧ ∀ x ∈ fin, P x
  | 0, found, i, _, hi, hk => by omega
  | k + 1, found, i, h, hi, hk => by
    unfold reachRun
    by_cases hc : i < found.length ∧ found.length < 3000
    · rw [if_pos hc]
      have pi : P (found.getD i []) := by
        rw [List.getD_eq_getElem?_getD, List.getElem?_eq_getElem hc.1]
        exact h _ (List.getElem_mem hc.1)
      exact reach_ends hP k _ (i + 1) (addM_all _ _ h (hP _ pi)) (by omega) (by omega)
    · rw [if_neg hc]
      exact ⟨found, rfl, h⟩
def hrenv (ms : List Mach) (found : List (List Int)) (i : Nat) (j3 j4 : Option Val) : MP.Env := [some (.d (msD ms)), some (.d (.list (found.map iT))), some (.d (.int i)), j3, j4]
theorem add_meet (n : Nat) (ms : List Mach) (found : List (List Int)) (hf : found.length < 1000000) (i : Nat) (m : Meet) (j3 j4 : Option Val) (S : Store) : ∃ ρ1 k3 k4, (Tg.t [3, 3, 3, 4]).set m.d (hrenv ms found i j3 j4) = some ρ1 ∧ l0_reached (callN tbl n) ρ1 S = some (.nx (hrenv ms (addM found m) i k3 k4) S) := by
  refine ⟨_, some (.d (.int m.l)), some (.d (iT m.behind)), rfl, ?_⟩
  unfold l0_reached addM hrenv
  by_cases h : m.behind ∈ found
  · simp [iT_notMemL, h]
  · simp [iT_notMemL, h, hf]
theorem reach_loop (n : Nat) {P : List Int → Prop} {ms : List Mach} (hW : ∀ x, P x → WH ms x) (hP : ∀ x, P x → ∀ m ∈ meetsT ms x, P m.behind) (S : Store) : ∀ (k : Nat) (found : List (List Int)) (i : Nat) (j3 j4 : Option Val) (fin : List (List Int)), (∀ x ∈ found, P x) → reachRun ms k found i = some fin →
    ∃ i' k3 k4, whileRun (eAnd (eBin opLt (eVar 2) (eU opLen (eVar 1))) (eBin opLt (eU opLen (eVar 1)) (eC (.int 3000)))) (l1_reached (callN tbl (n + 2))) k (hrenv ms found i j3 j4) S = some (.nx (hrenv ms fin i' k3 k4) S)
  | 0, _, _, _, _, _, _, h => by cases h
  | k + 1, found, i, j3, j4, fin, hp, h => by
    unfold reachRun at h
    by_cases hc : i < found.length ∧ found.length < 3000
    · rw [if_pos hc] at h
      obtain ⟨x, hx⟩ : ∃ x, found[i]? = some x := ⟨_, List.getElem?_eq_getElem hc.1⟩
      have hgd : found.getD i [] = x := by rw [List.getD_eq_getElem?_getD, hx]; rfl
      rw [hgd] at h
      have px := hp x (List.mem_of_getElem? hx)
      have w := hW x px
      have mm := meets n w S
      have hml : (meetsT ms x).length ≤ 14400 := by
        rw [meetsT_len]
        unfold meetsAt
        refine Nat.le_trans (flatMap_le (c := 3600) (fun r => ?_) _) (by have := w.few; rw [List.length_range]; omega)
        refine Nat.le_trans (flatMap_le (c := 60) (fun s => meetStep_le w r s) _) (by have := w.stepsAt r; omega)
      have at1 : L2.atI (found.map iT) (i : Int) = some (iT x) := MP.atI_nat (by rw [List.getElem?_map, hx]; rfl)
      obtain ⟨ρ2, e, hl, k3, k4, hρ⟩ := forRun_ix (t := .t [3, 3, 3, 4]) (b := l0_reached (callN tbl (n + 2))) (S := S) Meet.d (fun z ρ => (((meetsT ms x).take z).foldl addM found).length ≤ 1000000 ∧ ∃ j3 j4, ρ = hrenv ms (((meetsT ms x).take z).foldl addM found) i j3 j4)
        (meetsT ms x) 0 (hrenv ms found i j3 j4) ⟨by show found.length ≤ _; omega, j3, j4, rfl⟩ (fun z m ρ hz ⟨_, j3, j4, hρ⟩ => by
          subst hρ
          rw [Nat.zero_add]
          have bd : ∀ z, (((meetsT ms x).take z).foldl addM found).length < 1000000 := fun z => by
            have := (addM_len ((meetsT ms x).take z) found).2
            have : ((meetsT ms x).take z).length ≤ (meetsT ms x).length := by rw [List.length_take]; omega
            omega
          obtain ⟨ρ1, k3, k4, q1, q2⟩ := add_meet (n + 2) ms (((meetsT ms x).take z).foldl addM found) (bd z) i m j3 j4 S
          refine ⟨ρ1, _, q1, .inl q2, Nat.le_of_lt (bd _), k3, k4, ?_⟩
          rw [List.take_add_one, hz, List.foldl_append]
          rfl)
      rw [Nat.zero_add, List.take_length] at hρ
      subst hρ
      obtain ⟨i', q3, q4, ih⟩ := reach_loop n hW hP S k _ (i + 1) k3 k4 fin (addM_all _ _ hp (hP x px)) h
      refine ⟨i', q3, q4, ?_⟩
      rw [← ih, whileRun]
      have hc1 : (i : Int) < (found.length : Int) := by omega
      have hc2 : (found.length : Int) < 3000 := by omega
      generalize (meetsT ms x).foldl addM found = F at e
      conv => lhs; unfold l1_reached
      simp only [hrenv] at e
      simp [hrenv, hc.1, hc2, at1, mm, e]
      rfl
    · rw [if_neg hc] at h
      cases h
      refine ⟨i, j3, j4, ?_⟩
      rw [whileRun]
      by_cases h1 : i < found.length
      · have h2 : ¬ (found.length : Int) < 3000 := by omega
        simp [hrenv, h1, h2]
      · simp [hrenv, h1]
theorem begin1 (n : Nat) (ms : List Mach) (S : Store) : callN tbl (n + 1) 35 [.d (msD ms)] S = some (.d (iT (List.replicate ms.length 0)), S) := by
  rw [call_begin]
  unfold b_begin runFn
  have cr : compRun (.n 1) (eC (.bool true)) (eC (.int 0)) [some (.d (msD ms)), none] (ms.map Mach.d) S = some (ms.map fun _ => PyData.int 0, S) := by
    rw [compRun_of Mach.d (fun _ => true) (fun _ => .int 0), all_true]
    intro m hm
    exact ⟨_, rfl, rfl, fun _ => rfl⟩
  simp [start0, msD] at cr ⊢
  simp [cr, iT]
  exact List.map_const' ..
theorem reached_ (n : Nat) {P : List Int → Prop} {ms : List Mach} (hW : ∀ x, P x → WH ms x) (hP : ∀ x, P x → ∀ m ∈ meetsT ms x, P m.behind) (h0 : P (List.replicate ms.length 0)) (S : Store) {fin : List (List Int)} (h : reachRun ms 4000 [List.replicate ms.length 0] 0 = some fin) :
    callN tbl (n + 3) 38 [.d (msD ms)] S = some (.d (.list (fin.map iT)), S) := by
  rw [call_reached]
  unfold b_reached runFn
  obtain ⟨i', k3, k4, e⟩ := reach_loop n hW hP S 4000 [List.replicate ms.length 0] 0 none none fin (fun x hx => by rw [List.mem_singleton] at hx; subst hx; exact h0) h
  have bg := begin1 (n + 1) ms S
  simp [hrenv] at e
  simp [start0, bg, sWhile, e]
theorem dead_end_none (n : Nat) {P : List Int → Prop} {ms : List Mach} (hW : ∀ x, P x → WH ms x) (hP : ∀ x, P x → ∀ m ∈ meetsT ms x, P m.behind) (h0 : P (List.replicate ms.length 0)) (hgo : ∀ x, P x → meetsAt ms x ≠ [] ∨ overT ms x = true) (S : Store) :
    callN tbl (n + 4) 40 [.d (msD ms)] S = some (.d .none, S) := by
  obtain ⟨fin, hf, hall⟩ := reach_ends (ms := ms) hP 4000 [List.replicate ms.length 0] 0 (fun x hx => by rw [List.mem_singleton] at hx; subst hx; exact h0) (by omega) (by omega)
  have rc := reached_ n hW hP h0 S hf
  rw [call_dead_end]
  unfold b_dead_end runFn
  obtain ⟨ρ2, e, j1, rfl⟩ := forRun_of (t := .n 1) (b := l0_dead_end (callN tbl (n + 3))) (S := S) (σ := Unit) iT (fun _ ρ => ∃ j1, ρ = [some (.d (msD ms)), j1]) (fun _ _ => ()) fin () [some (.d (msD ms)), none] ⟨none, rfl⟩ (fun s x ρ hx ⟨j1, hρ⟩ => by
    subst hρ
    have px := hall x hx
    have mm := meets (n + 1) (hW x px) S
    have oo := is_overH (n + 1) (hW x px) S
    refine ⟨_, _, rfl, .inl ?_, some (.d (iT x)), rfl⟩
    unfold l0_dead_end
    rcases hgo x px with g | g
    · have ne : ¬ (meetsT ms x).length = 0 := by
        rw [meetsT_len]
        intro z
        exact g (List.eq_nil_of_length_eq_zero z)
      have ne2 : ¬ ((meetsT ms x).length : Int) = 0 := by omega
      simp [mm, eq_int, ne, ne2]
    · by_cases hz : ((meetsT ms x).length : Int) = 0
      · simp [mm, eq_int, hz, oo, g]
      · have hz2 : ¬ meetsT ms x = [] := fun e => hz (by rw [e]; rfl)
        simp [mm, eq_int, hz2])
  simp [start0, rc, e]
end K58
set_option Elab.async false
set_option linter.all false
set_option maxRecDepth 20000
namespace K58
open PySem L2 MP
/-! A loop's talk, its parts. -/
abbrev Br := List (Int × Bool)
def endD : D := .tuple [.str "end"]
def lf (nm : Int) : Bool → D
  | true => .tuple [.str "again", .int nm]
  | false => endD
def pr (f : Bool → D) (x : Int × Bool) : D := .tuple [.int x.1, f x.2]
def brD (f : Bool → D) (B : Br) : D := .tuple (B.map (pr f))
def sayD (p q : Nat) (nm : Int) (B : Br) : D := .tuple [.str "say", .int p, .int q, brD (lf nm) B]
def loopD (p q : Nat) (nm : Int) (B : Br) : D := .tuple [.str "loop", .int nm, sayD p q nm B]
def sideD (b : Bool) (o : Nat) (nm : Int) (B : Br) : D := .tuple [wD b, .int o, brD (lf nm) B]
def loopP (b : Bool) (o : Nat) (nm : Int) (B : Br) : D := .tuple [.str "loop", .int nm, sideD b o nm B]
def partR (p q : Nat) (nm : Int) (B : Br) (r : Nat) : D := if r = p then loopP true q nm B else if r = q then loopP false p nm B else endD
section
variable {p q : Nat} {nm : Int} {B : Br}
theorem endD_eq : endD = .tuple [.str "end"] := rfl
theorem at2_0 (x y : D) : L2.atI [x, y] 0 = some x := rfl
theorem at2_1 (x y : D) : L2.atI [x, y] 1 = some y := rfl
theorem at1_0 (x : D) : L2.atI [x] 0 = some x := rfl
theorem at3_0 (x y z : D) : L2.atI [x, y, z] 0 = some x := rfl
theorem at3_1 (x y z : D) : L2.atI [x, y, z] 1 = some y := rfl
theorem at3_2 (x y z : D) : L2.atI [x, y, z] 2 = some z := rfl
theorem at4_0 (x y z u : D) : L2.atI [x, y, z, u] 0 = some x := rfl
theorem at4_1 (x y z u : D) : L2.atI [x, y, z, u] 1 = some y := rfl
theorem at4_2 (x y z u : D) : L2.atI [x, y, z, u] 2 = some z := rfl
theorem at4_3 (x y z u : D) : L2.atI [x, y, z, u] 3 = some u := rfl
theorem fr0 {t : Tg} {b : SMean} {ρ : MP.Env} {S : Store} : forRun t b [] ρ S = some (.nx ρ S) := rfl
theorem lf_items (g : Bool) (S : Store) : items S (.d (lf nm g)) = some (match g with | true => [.str "again", .int nm] | false => [.str "end"]) := by cases g <;> rfl
theorem lf_tup (g : Bool) : ∃ ds, lf nm g = .tuple ds := by cases g <;> exact ⟨_, rfl⟩
theorem lf_isN (g : Bool) : isN (lf nm g) = false := by cases g <;> rfl
theorem size_lf (n : Nat) (g : Bool) (S : Store) : callN tbl (n + 1) 10 [.d (lf nm g)] S = some (.d (.int 1), S) := by
  rw [call_size_of]
  unfold b_size_of runFn
  cases g <;> simp [start0, lf, endD, at1_0, at2_0, q_again_say, q_again_beside, q_again_loop, q_end_say, q_end_beside, q_end_loop]
/-- a parter of the role r at a -/
def PAt (S : Store) (a r : Nat) : Prop := S[a]? = some (.inst 0 [.d (.int r), .d .none])
theorem part_lf (n : Nat) (a : Nat) (z : Int) (g : Bool) (S : Store) : callN tbl (n + 1) 8 [.obj a, .d (lf nm g), .d (.int z)] S = some (.d (lf nm g), S) := by
  rw [call_Parter_part]
  unfold b_Parter_part runFn
  cases g <;> simp [start0, lf, endD, at1_0, at2_0, i_again_end_again, i_end_end_again]
theorem of_saying (n : Nat) {r a : Nat} (hr : r = p ∨ r = q) (hpq : p ≠ q) (hB : B.length ≤ 100) (z : Int) (S : Store) (hS : PAt S a r) :
    callN tbl (n + 2) 9 [.obj a, .d (sayD p q nm B), .d (.int z)] S = some (.d (if r = p then sideD true q nm B else sideD false p nm B), S) := by
  rw [call_Parter_of_saying]
  unfold b_Parter_of_saying runFn
  have hS : S[a]? = some (.inst 0 [.d (.int r), .d .none]) := hS
  obtain ⟨ρ2, e, z2, j5, j6, rfl⟩ := forRun_ix (t := .t [5, 6]) (b := l0_Parter_of_saying (callN tbl (n + 1))) (S := S) (pr (lf nm)) (fun k ρ => ∃ (z2 : Int) (j5 j6 : Option Val), ρ = [some (.obj a), some (.d (sayD p q nm B)), some (.d (.int z2)), some (.d (.int z)), some (.d (.list ((B.take k).map (pr (lf nm))))), j5, j6, none, none, none])
    B 0 [some (.obj a), some (.d (sayD p q nm B)), some (.d (.int (z + 1))), some (.d (.int z)), some (.d (.list [])), none, none, none, none, none] ⟨z + 1, none, none, rfl⟩ (fun k x ρ hk ⟨z2, j5, j6, hρ⟩ => by
      subst hρ
      rw [Nat.zero_add]
      have hkl := (List.getElem?_eq_some_iff.mp hk).1
      have hl : ((B.take k).map (pr (lf nm))).length < 1000000 := by rw [List.length_map, List.length_take]; omega
      refine ⟨_, _, rfl, .inl ?_, z2 + 1, some (.d (.int x.1)), some (.d (lf nm x.2)), rfl⟩
      have ec : (B.take (0 + k + 1)).map (pr (lf nm)) = (B.take k).map (pr (lf nm)) ++ [pr (lf nm) x] := by
        rw [Nat.zero_add, List.take_add_one, hk]; simp
      rw [Nat.zero_add] at ec
      rw [ec]
      generalize (B.take k).map (pr (lf nm)) = Z at hl
      unfold l0_Parter_of_saying
      simp [hS, part_lf, size_lf, hl, pr])
  rw [Nat.zero_add, List.take_length] at e
  have cr : ∀ j5 j6 j7 : Option Val, compRun (.t [8, 9]) (eC (.bool true)) (eBin opIs (eVar 9) (eC .none)) [some (.obj a), some (.d (sayD p q nm B)), some (.d (.int z2)), some (.d (.int z)), some (.d (.list (B.map (pr (lf nm))))), j5, j6, j7, none, none] (B.map (pr (lf nm))) S = some ((B.map fun _ => false).map PyData.bool, S) := fun j5 j6 j7 => by
    rw [compRun_of (pr (lf nm)) (fun _ => true) (fun _ => .bool false), all_true, List.map_map]
    · rfl
    · intro x hx
      refine ⟨_, rfl, rfl, fun _ => ?_⟩
      simp [pr, lf_isN]
  have oa : opAny (.d (.list ((B.map fun _ => false).map PyData.bool))) = some (.bool false) := by
    rw [x_any, boolsD_map, Option.map_some]
    simp
  generalize (B.map fun _ => false).map PyData.bool = Y at oa cr
  have hsay : ∀ S : Store, items S (.d (sayD p q nm B)) = some [.str "say", .int p, .int q, .tuple (B.map (pr (lf nm)))] := fun _ => rfl
  rcases hr with rfl | rfl
  · rw [if_pos rfl]
    simp [-x_any, start0, hsay, at4_1, at4_2, at4_3, e, cr, oa, hS, eq_int]
    rfl
  · have hne : ¬ (r : Int) = (p : Int) := by omega
    have hne2 : ¬ r = p := by omega
    rw [if_neg hne2]
    simp [-x_any, start0, hsay, at4_1, at4_2, at4_3, e, cr, oa, hS, eq_int, hne]
    rfl
/-! the roles -/
theorem inner_lf (n : Nat) (g : Bool) (S : Store) : callN tbl (n + 1) 25 [.d (lf nm g)] S = some (.d (.list []), S) := by
  rw [call_inner]
  unfold b_inner runFn
  cases g <;> simp [start0, lf, endD, at1_0, at2_0, q_again_say, q_again_beside, q_again_loop, q_end_say, q_end_beside, q_end_loop]
theorem inner_say (n : Nat) (S : Store) : callN tbl (n + 1) 25 [.d (sayD p q nm B)] S = some (.d (.list (B.map fun x => lf nm x.2)), S) := by
  rw [call_inner]
  unfold b_inner runFn
  have hsay : ∀ S : Store, items S (.d (sayD p q nm B)) = some [.str "say", .int p, .int q, .tuple (B.map (pr (lf nm)))] := fun _ => rfl
  have cr : compRun (.t [1, 2]) (eC (.bool true)) (eVar 2) [some (.d (sayD p q nm B)), none, none] (B.map (pr (lf nm))) S = some (B.map fun x => lf nm x.2, S) := by
    rw [compRun_of (pr (lf nm)) (fun _ => true) (fun x => lf nm x.2), all_true]
    intro x hx
    exact ⟨_, rfl, rfl, fun _ => rfl⟩
  simp [start0, hsay, at4_0, at4_3, q_say_say, cr]
theorem inner_loop (n : Nat) (S : Store) : callN tbl (n + 1) 25 [.d (loopD p q nm B)] S = some (.d (.list [sayD p q nm B]), S) := by
  rw [call_inner]
  unfold b_inner runFn
  simp [start0, loopD, at3_0, at3_2, q_loop_say, q_loop_beside, q_loop_loop]
theorem roles_lf (n : Nat) (g : Bool) (S : Store) : callN tbl (n + 2) 26 [.d (lf nm g)] S = some (.d (.list []), S) := by
  rw [call_roles_in]
  unfold b_roles_in runFn
  have il := inner_lf (nm := nm) n g S
  cases g with
  | true =>
    simp only [lf] at il ⊢
    simp [start0, at2_0, q_again_say, il, fr0, intsD, setI]
  | false =>
    simp only [lf, endD] at il ⊢
    simp [start0, at1_0, q_end_say, il, fr0, intsD, setI]
theorem roles_say (n : Nat) (S : Store) : callN tbl (n + 3) 26 [.d (sayD p q nm B)] S = some (.d (.list ((setI [(p : Int), q]).map PyData.int)), S) := by
  rw [call_roles_in]
  unfold b_roles_in runFn
  have il := inner_say (p := p) (q := q) (nm := nm) (B := B) (n + 1) S
  have hsay : ∀ S : Store, items S (.d (sayD p q nm B)) = some [.str "say", .int p, .int q, .tuple (B.map (pr (lf nm)))] := fun _ => rfl
  obtain ⟨ρ2, e, j2, rfl⟩ := forRun_of (t := .n 2) (b := l0_roles_in (callN tbl (n + 2))) (S := S) (σ := Unit) (fun (x : Int × Bool) => lf nm x.2) (fun _ ρ => ∃ j2, ρ = [some (.d (sayD p q nm B)), some (.d (.list [.int p, .int q])), j2]) (fun _ _ => ()) B () [some (.d (sayD p q nm B)), some (.d (.list [.int p, .int q])), none] ⟨none, rfl⟩ (fun _ x ρ hx ⟨j2, hρ⟩ => by
    subst hρ
    refine ⟨_, _, rfl, .inl ?_, some (.d (lf nm x.2)), rfl⟩
    unfold l0_roles_in
    simp [x_ext, roles_lf])
  simp [start0, hsay, at4_0, at4_1, at4_2, q_say_say, il, e, intsD]
theorem setI_setI (l : List Int) : setI (setI l) = setI l := up_uniq (setI_up _) (setI_up _) fun k => by rw [setI_mem]
theorem setI_len (l : List Int) : (setI l).length ≤ l.length := by
  induction l with
  | nil => simp [setI]
  | cons x l ih =>
    have go : ∀ m : List Int, (insI x m).length ≤ m.length + 1 := by
      intro m
      induction m with
      | nil => simp [insI]
      | cons y m ih2 =>
        unfold insI
        split
        · simp
        · split
          · simp
          · simp only [List.length_cons]; omega
    have := go (setI l)
    simp only [setI, List.length_cons]
    omega
theorem roles_loop (n : Nat) (S : Store) : callN tbl (n + 4) 26 [.d (loopD p q nm B)] S = some (.d (.list ((setI [(p : Int), q]).map PyData.int)), S) := by
  rw [call_roles_in]
  unfold b_roles_in runFn
  have il := inner_loop (p := p) (q := q) (nm := nm) (B := B) (n + 2) S
  have rs := roles_say (p := p) (q := q) (nm := nm) (B := B) n S
  have e0 : ∀ S : Store, items S (.d (loopD p q nm B)) = some [.str "loop", .int nm, sayD p q nm B] := fun _ => rfl
  have hz := setI_len [(p : Int), q]
  have hz : (setI [(p : Int), q]).length ≤ 2 := hz
  have ss := setI_setI [(p : Int), q]
  generalize setI [(p : Int), q] = R at *
  have hz2 : R.length ≤ 1000000 := by omega
  have hz3 : R.length < 64 := by omega
  simp [start0, e0, at3_0, q_loop_say, il, forRun, l0_roles_in, x_ext, rs, hz2, hz3, intsD_map, ss]
/-! goes again -/
theorem inner2_lf (n : Nat) (g : Bool) (S : Store) : callN tbl (n + 1) 27 [.d (lf nm g)] S = some (.d (.list []), S) := by
  rw [call_inner_2]
  unfold b_inner_2 runFn
  cases g <;> simp [start0, lf, endD, at1_0, at2_0, i_again_send_hear, i_end_send_hear, q_again_loop, q_end_loop]
theorem inner2_side (n : Nat) (b : Bool) (o : Nat) (S : Store) : callN tbl (n + 1) 27 [.d (sideD b o nm B)] S = some (.d (.list (B.map fun x => lf nm x.2)), S) := by
  rw [call_inner_2]
  unfold b_inner_2 runFn
  have hs : ∀ S : Store, items S (.d (sideD b o nm B)) = some [wD b, .int o, .tuple (B.map (pr (lf nm)))] := fun _ => rfl
  have cr : compRun (.t [1, 2]) (eC (.bool true)) (eVar 2) [some (.d (sideD b o nm B)), none, none] (B.map (pr (lf nm))) S = some (B.map fun x => lf nm x.2, S) := by
    rw [compRun_of (pr (lf nm)) (fun _ => true) (fun x => lf nm x.2), all_true]
    intro x hx
    exact ⟨_, rfl, rfl, fun _ => rfl⟩
  simp [start0, hs, at3_0, at3_2, i_w, cr]
theorem goes_lf (n : Nat) (g : Bool) (S : Store) : callN tbl (n + 2) 28 [.d (lf nm g), .d (.int nm)] S = some (.d (.bool g), S) := by
  rw [call_goes_again]
  unfold b_goes_again runFn
  have il := inner2_lf (nm := nm) n g S
  cases g with
  | true =>
    simp only [lf] at il ⊢
    simp [start0, at2_0, at2_1, q_again_again, eq_int]
  | false =>
    simp only [lf, endD] at il ⊢
    simp [start0, at1_0, q_end_again, q_end_loop, il, compRun, boolsD]
theorem goes_side (n : Nat) (b : Bool) (o : Nat) (S : Store) : callN tbl (n + 3) 28 [.d (sideD b o nm B), .d (.int nm)] S = some (.d (.bool (B.any fun x => x.2)), S) := by
  rw [call_goes_again]
  unfold b_goes_again runFn
  have il := inner2_side (nm := nm) (B := B) (n + 1) b o S
  have hs : ∀ S : Store, items S (.d (sideD b o nm B)) = some [wD b, .int o, .tuple (B.map (pr (lf nm)))] := fun _ => rfl
  have cr : compRun (.n 2) (eC (.bool true)) (eCall (callN tbl (n + 2)) 28 (aCons (eVar 2) (aCons (eVar 1) (aNil))) []) [some (.d (sideD b o nm B)), some (.d (.int nm)), none] (B.map fun x => lf nm x.2) S = some ((B.map fun x => x.2).map PyData.bool, S) := by
    rw [compRun_of (fun (x : Int × Bool) => lf nm x.2) (fun _ => true) (fun x => .bool x.2), all_true, List.map_map]
    · rfl
    · intro x hx
      refine ⟨_, rfl, rfl, fun _ => ?_⟩
      simp [goes_lf]
  have oa : opAny (.d (.list ((B.map fun x => x.2).map PyData.bool))) = some (.bool (B.any fun x => x.2)) := by
    rw [x_any, boolsD_map, Option.map_some, List.any_map]
    rfl
  generalize (B.map fun x => x.2).map PyData.bool = Y at oa cr
  generalize (B.any fun x => x.2) = A at oa ⊢
  simp [-x_any, start0, hs, at3_0, q_w_again, q_w_loop, il, cr, oa]
/-! ways out -/
def wv (nm : Int) (g : Bool) : Int := if g then nm else -1
theorem ways_lf (n : Nat) (g : Bool) (S : Store) : callN tbl (n + 1) 30 [.d (lf nm g)] S = some (.d (.list [.int (wv nm g)]), S) := by
  rw [call_ways_out]
  unfold b_ways_out runFn
  cases g <;> simp [start0, lf, endD, at1_0, at2_0, at2_1, q_again_again, q_end_again, q_end_loop, q_end_say, wv]
theorem x_comp2 (src : MSrc) (t : Tg) (vs : List Nat) (tst : Mean) (src1 : MSrc) (t1 : Tg) (vs1 : List Nat) (tst1 elt : Mean) (ρ : MP.Env) (S : Store) : eComp2 src t vs tst src1 t1 vs1 tst1 elt ρ S = match src ρ S with
  | some (ds, S1) => match comp2Run t tst src1 t1 vs1 tst1 elt (wipeE ρ vs) ds S1 with
    | some (ys, S2) => if ys.length ≤ 1000000 then some (.d (.list ys), S2) else none
    | none => none
  | none => none := rfl
theorem ways_say (n : Nat) (hB : B.length ≤ 60) (S : Store) : callN tbl (n + 2) 30 [.d (sayD p q nm B)] S = some (.d (.list ((setI (B.map fun x => wv nm x.2)).map PyData.int)), S) := by
  rw [call_ways_out]
  unfold b_ways_out runFn
  have hsay : ∀ S : Store, items S (.d (sayD p q nm B)) = some [.str "say", .int p, .int q, .tuple (B.map (pr (lf nm)))] := fun _ => rfl
  have cr : comp2Run (.t [2, 3]) (eC (.bool true)) (sSq (eCall (callN tbl (n + 1)) 30 (aCons (eVar 3) (aNil)) [])) (.n 1) [1] (eC (.bool true)) (eVar 1) [some (.d (sayD p q nm B)), none, none, none] (B.map (pr (lf nm))) S = some ((B.map fun x => wv nm x.2).map PyData.int, S) := by
    rw [comp2_of (pr (lf nm)) (fun x => [.int (wv nm x.2)])]
    · have e : ∀ l : Br, (l.flatMap fun x => [PyData.int (wv nm x.2)]) = (l.map fun x => wv nm x.2).map PyData.int := fun l => by
        induction l with
        | nil => rfl
        | cons x l ih => rw [List.flatMap_cons, ih]; rfl
      rw [e]
    · intro x hx
      refine ⟨_, [.int (wv nm x.2)], rfl, rfl, ?_, ?_⟩
      · simp [ways_lf]
      · simp [compRun]
  have hz : (B.map fun x => wv nm x.2).length < 64 := by rw [List.length_map]; omega
  have hz2 : (B.map fun x => wv nm x.2).length ≤ 1000000 := by omega
  generalize (B.map fun x => wv nm x.2) = W at *
  simp [start0, hsay, at4_0, at4_3, q_say_again, q_say_loop, q_say_say, x_comp2, cr, hz, hz2, intsD_map]
theorem lf_ways {w : Int} (h : w ∈ setI (B.map fun x => wv nm x.2)) : w = -1 ∨ w = nm := by
  rw [setI_mem] at h
  obtain ⟨x, _, rfl⟩ := List.mem_map.mp h
  unfold wv
  split
  · exact .inr rfl
  · exact .inl rfl
theorem side_isN (b : Bool) (o : Nat) : isN (sideD b o nm B) = false := rfl
theorem part_say (n : Nat) {r a : Nat} (hr : r = p ∨ r = q) (hpq : p ≠ q) (hB : B.length ≤ 100) (z : Int) (S : Store) (hS : PAt S a r) :
    callN tbl (n + 3) 8 [.obj a, .d (sayD p q nm B), .d (.int z)] S = some (.d (if r = p then sideD true q nm B else sideD false p nm B), S) := by
  rw [call_Parter_part]
  unfold b_Parter_part runFn
  have os := of_saying n hr hpq (nm := nm) hB z S hS
  have hS : S[a]? = some (.inst 0 [.d (.int r), .d .none]) := hS
  have hsay : ∀ S : Store, items S (.d (sayD p q nm B)) = some [.str "say", .int p, .int q, .tuple (B.map (pr (lf nm)))] := fun _ => rfl
  simp [start0, hsay, at4_0, i_say_end_again, q_say_loop, q_say_beside, hS, os]
theorem of_loop (n : Nat) {r a : Nat} (hpq : p ≠ q) (hB : B.length ≤ 60) (hgo : (B.any fun x => x.2) = true) (z : Int) (S : Store) (hS : PAt S a r) :
    callN tbl (n + 5) 29 [.obj a, .d (loopD p q nm B), .d (.int z)] S = some (.d (partR p q nm B r), S) := by
  rw [call_Parter_of_loop]
  unfold b_Parter_of_loop runFn
  have rl := roles_loop (p := p) (q := q) (nm := nm) (B := B) n S
  have mem : opIn (.int r) (.list ((setI [(p : Int), q]).map PyData.int)) = some (.bool (decide (r = p ∨ r = q))) := by
    rw [int_memL]
    congr 2
    rw [decide_eq_decide, setI_mem]
    simp only [List.mem_cons, List.not_mem_nil, or_false]
    omega
  have hS0 := hS
  have hS : S[a]? = some (.inst 0 [.d (.int r), .d .none]) := hS
  have e0 : ∀ S : Store, items S (.d (loopD p q nm B)) = some [.str "loop", .int nm, sayD p q nm B] := fun _ => rfl
  generalize (setI [(p : Int), q]).map PyData.int = R at rl mem
  unfold partR
  by_cases hr : r = p ∨ r = q
  · have ps := part_say (n + 1) hr hpq (nm := nm) (B := B) (by omega) (z + 1) S hS0
    rw [decide_eq_true hr] at mem
    by_cases h1 : r = p
    · rw [if_pos h1] at ps ⊢
      have g := goes_side (nm := nm) (B := B) (n + 1) true q S
      rw [hgo] at g
      simp [start0, rl, hS, mem, e0, at3_1, at3_2, ps, side_isN, g]
      rfl
    · have h2 : r = q := by rcases hr with e | e; exact absurd e h1; exact e
      rw [if_neg h1] at ps
      rw [if_neg h1, if_pos h2]
      have g := goes_side (nm := nm) (B := B) (n + 1) false p S
      rw [hgo] at g
      simp [start0, rl, hS, mem, e0, at3_1, at3_2, ps, side_isN, g]
      rfl
  · rw [decide_eq_false hr] at mem
    have h1 : ¬ r = p := fun e => hr (.inl e)
    have h2 : ¬ r = q := fun e => hr (.inr e)
    rw [if_neg h1, if_neg h2]
    have wy := ways_say (p := p) (q := q) (nm := nm) (B := B) (n + 2) hB S
    have out : ∀ j3 j5 : Option Val, compRun (.n 6) (eBin opNotIn (eVar 6) (eTup (aCons (eNeg (eC (.int 1))) (aCons (eIx (eVar 1) (eC (.int 1))) (aNil))))) (eVar 6) [some (.obj a), some (.d (loopD p q nm B)), some (.d (.int z)), j3, some (.d (.list ((setI (B.map fun x => wv nm x.2)).map PyData.int))), j5, none] ((setI (B.map fun x => wv nm x.2)).map PyData.int) S = some ([], S) := fun j3 j5 => by
      rw [compRun_of PyData.int (fun _ => false) PyData.int]
      · simp
      · intro w hw
        refine ⟨_, rfl, ?_, fun z => by cases z⟩
        have nin : opNotIn (.int w) (.tuple [.int (-1), .int nm]) = some (.bool false) := by
          have := int_notMemT w [-1, nm]
          have hm : w ∈ [-1, nm] := by rcases lf_ways hw with e | e <;> rw [e] <;> simp
          rw [decide_eq_true hm] at this
          exact this
        simp [e0, at3_1, nin]
    generalize (setI (B.map fun x => wv nm x.2)).map PyData.int = W at wy out
    simp [start0, rl, hS, mem, e0, at3_1, at3_2, wy, out, eq_int]
    rfl
theorem part_loop (n : Nat) {r a : Nat} (hpq : p ≠ q) (hB : B.length ≤ 60) (hgo : (B.any fun x => x.2) = true) (z : Int) (S : Store) (hS : PAt S a r) :
    callN tbl (n + 6) 8 [.obj a, .d (loopD p q nm B), .d (.int z)] S = some (.d (partR p q nm B r), S) := by
  rw [call_Parter_part]
  unfold b_Parter_part runFn
  have os := of_loop (p := p) (q := q) (nm := nm) (B := B) n hpq hB hgo z S hS
  have hS : S[a]? = some (.inst 0 [.d (.int r), .d .none]) := hS
  have e0 : ∀ S : Store, items S (.d (loopD p q nm B)) = some [.str "loop", .int nm, sayD p q nm B] := fun _ => rfl
  simp [start0, e0, at3_0, i_loop_end_again, q_loop_loop, hS, os]
theorem partR_isN (r : Nat) : isN (partR p q nm B r) = false := by
  unfold partR
  split
  · rfl
  · split <;> rfl
def pO (r : Nat) : Ob := .inst 0 [.d (.int r), .d .none]
theorem parted_ (n : Nat) (hpq : p ≠ q) (hB : B.length ≤ 60) (hgo : (B.any fun x => x.2) = true) (r : Nat) (S : Store) : callN tbl (n + 7) 11 [.d (loopD p q nm B), .d (.int r)] S = some (.d (.tuple [partR p q nm B r, .none]), S ++ [pO r]) := by
  rw [call_parted]
  unfold b_parted runFn
  have hg : PAt (S ++ [Ob.inst 0 [.d (.int r), .d .none]]) S.length r := by
    unfold PAt
    rw [List.getElem?_append_right (Nat.le_refl _), Nat.sub_self]; rfl
  have pt := part_loop (p := p) (q := q) (nm := nm) (B := B) n hpq hB hgo 0 _ hg
  have ini : callN tbl (n + 6) 7 [.obj S.length, .d (.int r)] (S ++ [.inst 0 []]) = some (.d .none, S ++ [.inst 0 [.d (.int r), .d .none]]) := by
    rw [call_Parter_init]
    unfold b_Parter_init runFn
    have s0 : ∀ x y : Ob, (S ++ [x]).set S.length y = S ++ [y] := fun x y => by
      rw [List.set_append_right _ _ (Nat.le_refl _), Nat.sub_self]; rfl
    simp only [x_seq, sFldSet, x_var, start0, x_c]
    simp [MP.putAt, s0]
  simp [start0, ini, pt]
  rfl
theorem parts_ (n : Nat) (hpq : p ≠ q) (hB : B.length ≤ 60) (hgo : (B.any fun x => x.2) = true) (S : Store) : callN tbl (n + 8) 12 [.d (loopD p q nm B)] S = some (.d (.list [partR p q nm B 0, partR p q nm B 1, partR p q nm B 2, partR p q nm B 3]), S ++ [pO 0] ++ [pO 1] ++ [pO 2] ++ [pO 3]) := by
  rw [call_parts]
  unfold b_parts runFn
  have up : upFrom 0 4 = [PyData.int 0, PyData.int 1, PyData.int 2, PyData.int 3] := by rw [upFrom_range]; rfl
  have p0 : ∀ S : Store, callN tbl (n + 7) 11 [.d (loopD p q nm B), .d (.int 0)] S = some (.d (.tuple [partR p q nm B 0, .none]), S ++ [pO 0]) := fun S => parted_ n hpq hB hgo 0 S
  have p1 : ∀ S : Store, callN tbl (n + 7) 11 [.d (loopD p q nm B), .d (.int 1)] S = some (.d (.tuple [partR p q nm B 1, .none]), S ++ [pO 1]) := fun S => parted_ n hpq hB hgo 1 S
  have p2 : ∀ S : Store, callN tbl (n + 7) 11 [.d (loopD p q nm B), .d (.int 2)] S = some (.d (.tuple [partR p q nm B 2, .none]), S ++ [pO 2]) := fun S => parted_ n hpq hB hgo 2 S
  have p3 : ∀ S : Store, callN tbl (n + 7) 11 [.d (loopD p q nm B), .d (.int 3)] S = some (.d (.tuple [partR p q nm B 3, .none]), S ++ [pO 3]) := fun S => parted_ n hpq hB hgo 3 S
  have n0 := partR_isN (p := p) (q := q) (nm := nm) (B := B)
  simp [start0, up, compRun, p0, p1, p2, p3, at2_0, n0, boolsD]
end
end K58
set_option Elab.async false
set_option linter.all false
set_option maxRecDepth 20000
namespace K58
open PySem L2 MP
open PySem.W (alike alikeAll dataLe dataLt)
/-! The machine of a loop's part. -/
def lfO (b : Bool) (o : Nat) (nm : Int) (B : Br) : Bool → D
  | true => loopP b o nm B
  | false => endD
def opD (b : Bool) (o : Nat) (nm : Int) (B : Br) : D := .tuple [wD b, .int o, brD (lfO b o nm B) B]
/-- a state: opened -/
def oD (b : Bool) (o : Nat) (nm : Int) (B : Br) : Bool → D
  | true => opD b o nm B
  | false => endD
section
variable {b : Bool} {o : Nat} {nm : Int} {B : Br}
theorem put_lf (n : Nat) (g : Bool) (S : Store) : callN tbl (n + 1) 31 [.d (lf nm g), .d (.int nm), .d (loopP b o nm B)] S = some (.d (lfO b o nm B g), S) := by
  rw [call_put_for_2]
  unfold b_put_for_2 runFn
  cases g <;> simp [start0, lf, lfO, endD, at1_0, at2_0, at2_1, q_again_again, q_end_again, q_end_loop, q_end_end, eq_int]
theorem put_side (n : Nat) (S : Store) : callN tbl (n + 2) 31 [.d (sideD b o nm B), .d (.int nm), .d (loopP b o nm B)] S = some (.d (opD b o nm B), S) := by
  rw [call_put_for_2]
  unfold b_put_for_2 runFn
  have hs : ∀ S : Store, items S (.d (sideD b o nm B)) = some [wD b, .int o, .tuple (B.map (pr (lf nm)))] := fun _ => rfl
  have cr : compRun (.t [3, 4]) (eC (.bool true)) (eTup (aCons (eVar 3) (aCons (eCall (callN tbl (n + 1)) 31 (aCons (eVar 4) (aCons (eVar 1) (aCons (eVar 2) (aNil)))) []) (aNil)))) [some (.d (sideD b o nm B)), some (.d (.int nm)), some (.d (loopP b o nm B)), none, none] (B.map (pr (lf nm))) S = some (B.map (pr (lfO b o nm B)), S) := by
    rw [compRun_of (pr (lf nm)) (fun _ => true) (pr (lfO b o nm B)), all_true]
    intro x hx
    refine ⟨_, rfl, rfl, fun _ => ?_⟩
    simp [put_lf, pr]
  have ct : opSl (.d (sideD b o nm B)) none (some 2) = some (.tuple [wD b, .int o]) := rfl
  simp [start0, hs, at3_0, at3_2, q_w_again, q_w_loop, q_w_end, cr, ct]
  rfl
theorem opened_loop (n : Nat) (S : Store) : callN tbl (n + 3) 13 [.d (loopP b o nm B)] S = some (.d (opD b o nm B), S) := by
  rw [call_opened_2]
  unfold b_opened_2 runFn
  have ps := put_side (b := b) (o := o) (nm := nm) (B := B) n S
  have hl : ∀ S : Store, items S (.d (loopP b o nm B)) = some [.str "loop", .int nm, sideD b o nm B] := fun _ => rfl
  have ho : ∀ S : Store, items S (.d (opD b o nm B)) = some [wD b, .int o, brD (lfO b o nm B) B] := fun _ => rfl
  simp [start0, sWhile, whileRun, l0_opened_2, hl, ho, at3_0, at3_1, at3_2, q_loop_loop, q_w_loop, ps]
theorem opened_end (n : Nat) (S : Store) : callN tbl (n + 1) 13 [.d endD] S = some (.d endD, S) := by
  rw [call_opened_2]
  unfold b_opened_2 runFn
  simp [start0, sWhile, whileRun, endD, at1_0, q_end_loop]
theorem opened_lfO (n : Nat) (g : Bool) (S : Store) : callN tbl (n + 3) 13 [.d (lfO b o nm B g)] S = some (.d (oD b o nm B g), S) := by
  cases g
  · exact opened_end (n + 2) S
  · exact opened_loop n S
theorem pd_brD (f : Bool → D) (h : ∀ g, pd (f g) = true) : pd (brD f B) = true := by
  unfold brD
  simp only [pd]
  induction B with
  | nil => rfl
  | cons x l ih => simp [pds, pd, pr, h, ih]
theorem pd_lf (g : Bool) : pd (lf nm g) = true := by cases g <;> rfl
theorem pd_loopP : pd (loopP b o nm B) = true := by simp [loopP, sideD, pd, pds, wD, pd_brD (lf nm) pd_lf]
theorem pd_lfO (g : Bool) : pd (lfO b o nm B g) = true := by
  cases g
  · rfl
  · exact pd_loopP
theorem pd_opD : pd (opD b o nm B) = true := by simp [opD, pd, pds, wD, pd_brD (lfO b o nm B) pd_lfO]
theorem pd_oD (g : Bool) : pd (oD b o nm B g) = true := by
  cases g
  · rfl
  · exact pd_opD
theorem dp_brD (f : Bool → D) (c : Nat) (h : ∀ g, (f g).depth ≤ c) : (brD f B).depth ≤ c + 2 := by
  unfold brD
  simp only [PyData.depth]
  induction B with
  | nil => simp [PyData.depthAll]
  | cons x l ih =>
    have := h x.2
    simp only [List.map_cons, PyData.depthAll, pr, PyData.depth]
    omega
theorem dp_lf (g : Bool) : (lf nm g).depth ≤ 1 := by cases g <;> simp [lf, endD, PyData.depth, PyData.depthAll]
theorem dp_loopP : (loopP b o nm B).depth ≤ 5 := by
  have := dp_brD (B := B) (lf nm) 1 dp_lf
  simp only [loopP, sideD, PyData.depth, PyData.depthAll, wD]
  omega
theorem dp_oD (g : Bool) : (oD b o nm B g).depth ≤ 8 := by
  cases g with
  | false => simp [oD, endD, PyData.depth, PyData.depthAll]
  | true =>
    have := dp_brD (B := B) (lfO b o nm B) 5 (fun g => by
      cases g
      · simp [lfO, endD, PyData.depth, PyData.depthAll]
      · exact dp_loopP)
    simp only [oD, opD, PyData.depth, PyData.depthAll, wD]
    omega
theorem op_ne_end : opD b o nm B ≠ endD := by
  intro h
  simp [opD, endD] at h
theorem oD_inj {g h : Bool} : oD b o nm B g = oD b o nm B h ↔ g = h := by
  cases g <;> cases h <;> simp [oD, op_ne_end]
  exact fun e => op_ne_end e.symm
/-- the states found, an end among them or not -/
def fnd (b : Bool) (o : Nat) (nm : Int) (B : Br) (e : Bool) : List D := if e then [oD b o nm B true, oD b o nm B false] else [oD b o nm B true]
theorem fnd_not (g e : Bool) : opNotIn (oD b o nm B g) (.list (fnd b o nm B e)) = some (.bool (!(g || e))) := by
  refine opNotInL_iff (pd_oD g) (fun d hd => ?_) (okD_of (dp_oD g) (by omega)) ?_
  · unfold fnd at hd
    split at hd
    · simp only [List.mem_cons, List.not_mem_nil, or_false] at hd
      rcases hd with rfl | rfl <;> exact pd_oD _
    · simp only [List.mem_cons, List.not_mem_nil, or_false] at hd
      rcases hd with rfl
      exact pd_oD _
  · cases g <;> cases e <;> simp [fnd, oD_inj]
theorem eqv_oD (g h : Bool) : PyData.eqv (oD b o nm B g) (oD b o nm B h) = decide (g = h) := by
  rw [Bool.eq_iff_iff, eqv_dec (pd_oD g) (pd_oD h), decide_eq_true_eq, oD_inj]
theorem fnd_idx (g e : Bool) (h : e = false → g = true) : (fnd b o nm B e).findIdx? (fun z => PyData.eqv z (oD b o nm B g)) = some (if g then 0 else 1) := by
  cases g <;> cases e <;> simp [fnd, List.findIdx?_cons, eqv_oD] at h ⊢
theorem fnd_add (g e : Bool) : (if g || e then fnd b o nm B e else fnd b o nm B e ++ [oD b o nm B g]) = fnd b o nm B (e || !g) := by cases g <;> cases e <;> simp [fnd]
theorem fnd_len (e : Bool) : (fnd b o nm B e).length = if e then 2 else 1 := by cases e <;> rfl
theorem depth_list {ds : List D} {c : Nat} (h : ∀ d ∈ ds, d.depth ≤ c) : (PyData.list ds).depth ≤ c + 1 := by
  simp only [PyData.depth]
  induction ds with
  | nil => simp [PyData.depthAll]
  | cons x xs ih =>
    have h1 := h x List.mem_cons_self
    have h2 := ih fun d hd => h d (List.mem_cons_of_mem _ hd)
    simp only [PyData.depthAll]
    omega
theorem fnd_dp (e : Bool) : (PyData.list (fnd b o nm B e)).depth ≤ 9 := depth_list (c := 8) fun d hd => by
  unfold fnd at hd
  split at hd
  · simp only [List.mem_cons, List.not_mem_nil, or_false] at hd
    rcases hd with rfl | rfl <;> exact dp_oD _
  · simp only [List.mem_cons, List.not_mem_nil, or_false] at hd
    rcases hd with rfl
    exact dp_oD _
/-- a branch's step -/
def stp (b : Bool) (o : Nat) (x : Int × Bool) : MP.Step := ⟨0, b, o, x.1, if x.2 then 0 else 1⟩
def anyE (B : Br) : Bool := B.any fun x => !x.2
def mach (b : Bool) (o : Nat) (B : Br) : Mach := (if anyE B then 2 else 1, B.map (stp b o))
def menv (b : Bool) (o : Nat) (nm : Int) (B : Br) (e : Bool) (st : List MP.Step) (at_ : Int) (j4 j5 j6 : Option Val) : MP.Env :=
  [some (.d (loopP b o nm B)), some (.d (.list (fnd b o nm B e))), some (.d (.list (st.map MP.Step.d))), some (.d (.int at_)), j4, j5, j6]
theorem add_step (n : Nat) (e : Bool) (st : List MP.Step) (hst : st.length < 1000) (x : Int × Bool) (S : Store) :
    l0_machine_of (callN tbl (n + 3)) (menv b o nm B e st 0 (some (.d (opD b o nm B))) (some (.d (.int x.1))) (some (.d (lfO b o nm B x.2)))) S = some (.nx (menv b o nm B (e || !x.2) (st ++ [stp b o x]) 0 (some (.d (opD b o nm B))) (some (.d (.int x.1))) (some (.d (oD b o nm B x.2)))) S) := by
  have op := opened_lfO (b := b) (o := o) (nm := nm) (B := B) n x.2 S
  have nin := fnd_not (b := b) (o := o) (nm := nm) (B := B) x.2 e
  have ix := fnd_idx (b := b) (o := o) (nm := nm) (B := B) x.2 (e || !x.2) (by cases e <;> cases x.2 <;> simp)
  have ad := fnd_add (b := b) (o := o) (nm := nm) (B := B) x.2 e
  have d1 := fnd_dp (b := b) (o := o) (nm := nm) (B := B) (e || !x.2)
  have d2 := dp_oD (b := b) (o := o) (nm := nm) (B := B) x.2
  have fl : (fnd b o nm B e).length < 1000000 := by rw [fnd_len]; split <;> omega
  have hst2 : st.length < 1000000 := by omega
  have ho : ∀ S : Store, items S (.d (opD b o nm B)) = some [wD b, .int o, brD (lfO b o nm B) B] := fun _ => rfl
  have dd : (PyData.list (fnd b o nm B (e || !x.2))).depth ≤ 64 ∧ (oD b o nm B x.2).depth ≤ 64 := ⟨by omega, by omega⟩
  have sd : (stp b o x).d = .tuple [.int 0, wD b, .int o, .int x.1, .int ((if x.2 then 0 else 1 : Nat) : Int)] := by
    unfold stp MP.Step.d
    cases x.2 <;> rfl
  unfold l0_machine_of menv
  cases hg : (x.2 || e) with
  | true =>
    rw [hg] at nin ad
    simp only [if_true] at ad
    rw [ad] at nin fl
    rw [ad]
    simp [op, nin, hst2, ho, at3_0, at3_1, ix, dd, sd]
  | false =>
    rw [hg] at nin ad
    simp only [Bool.false_eq_true, if_false] at ad
    simp [op, nin, hst2, fl, ad, ho, at3_0, at3_1, ix, dd, sd]
theorem anyE_take (k : Nat) (x : Int × Bool) (hk : B[k]? = some x) : anyE (B.take (k + 1)) = (anyE (B.take k) || !x.2) := by
  rw [List.take_add_one, hk]
  unfold anyE
  rw [List.any_append]
  simp
theorem le_letter {x y : Int × Bool} (h : x.1 < y.1) : dataLe false id (stp b o x).d (stp b o y).d = true := by
  rw [PySem.W.dataLe_eq]
  show (!dataLt (stp b o y).d (stp b o x).d) = true
  unfold MP.Step.d stp
  rw [PySem.W.dataLt_tuple]
  have e0 : ∀ i : Int, PyData.eqv (.int i) (.int i) = true := fun i => by simp [PyData.eqv]
  have ew : PyData.eqv (wD b) (wD b) = true := by simp [PyData.eqv, wD]
  rw [PySem.W.dataLt_cons (by simp [alike]), e0, if_pos rfl, PySem.W.dataLt_cons (by simp [alike, wD]), ew, if_pos rfl, PySem.W.dataLt_cons (by simp [alike]), e0, if_pos rfl, PySem.W.dataLt_cons (by simp [alike])]
  have e : PyData.eqv (.int y.1) (.int x.1) = false := by
    simp only [PyData.eqv]
    exact beq_eq_false_iff_ne.mpr (by omega)
  rw [e, if_neg (by decide), PySem.W.dataLt_int]
  simp
  omega
theorem sort_steps (h : B.Pairwise fun x y => x.1 < y.1) : sortBy MP.Step.d (B.map (stp b o)) = B.map (stp b o) := by
  unfold sortBy
  refine List.mergeSort_of_pairwise ?_
  rw [List.pairwise_map]
  exact h.imp le_letter
theorem sortOk_steps (l : List MP.Step) : sortOk (l.map MP.Step.d) = true := sortOk_map _ l (fun x y => by simp [MP.Step.d, alike, alikeAll, wD]) (fun x => rfl) fun x => by
  exact decide_eq_true (by simp [MP.Step.d, PyData.depth, PyData.depthAll, wD])
theorem machine_loop (n : Nat) (hB : B.length ≤ 60) (hs : B.Pairwise fun x y => x.1 < y.1) (S : Store) : callN tbl (n + 4) 15 [.d (loopP b o nm B)] S = some (.d (Mach.d (mach b o B)), S) := by
  rw [call_machine_of]
  unfold b_machine_of runFn
  have op := opened_loop (b := b) (o := o) (nm := nm) (B := B) n S
  obtain ⟨ρ2, e, j5, j6, rfl⟩ := forRun_ix (t := .t [5, 6]) (b := l0_machine_of (callN tbl (n + 3))) (S := S) (pr (lfO b o nm B)) (fun k ρ => ∃ j5 j6, ρ = menv b o nm B (anyE (B.take k)) ((B.take k).map (stp b o)) 0 (some (.d (opD b o nm B))) j5 j6)
    B 0 (menv b o nm B false [] 0 (some (.d (opD b o nm B))) none none) ⟨none, none, rfl⟩ (fun k x ρ hk ⟨j5, j6, hρ⟩ => by
      subst hρ
      rw [Nat.zero_add]
      have hst : ((B.take k).map (stp b o)).length < 1000 := by rw [List.length_map, List.length_take]; omega
      refine ⟨_, _, rfl, .inl (add_step n _ _ hst x S), some (.d (.int x.1)), some (.d (oD b o nm B x.2)), ?_⟩
      rw [anyE_take k x hk]
      congr 1
      rw [List.take_add_one, hk, List.map_append]
      rfl)
  rw [Nat.zero_add, List.take_length] at e
  have ho : ∀ S : Store, items S (.d (opD b o nm B)) = some [wD b, .int o, brD (lfO b o nm B) B] := fun _ => rfl
  have hb : brD (lfO b o nm B) B = .tuple (B.map (pr (lfO b o nm B))) := rfl
  have f0 : ∀ e : Bool, L2.atI (fnd b o nm B e) 0 = some (opD b o nm B) := fun e => by cases e <;> rfl
  have f1 : L2.atI (fnd b o nm B true) 1 = some endD := rfl
  have fin : sWhile 1000 (eBin opLt (eVar 3) (eU opLen (eVar 1))) (l1_machine_of (callN tbl (n + 3))) (menv b o nm B false [] 0 none none none) S = (whileRun (eBin opLt (eVar 3) (eU opLen (eVar 1))) (l1_machine_of (callN tbl (n + 3))) 999 (menv b o nm B (anyE B) (B.map (stp b o)) 1 (some (.d (opD b o nm B))) j5 j6) S) := by
    unfold sWhile
    rw [show (1000 : Nat) = 999 + 1 from rfl, whileRun]
    have t1 : eBin opLt (eVar 3) (eU opLen (eVar 1)) (menv b o nm B false [] 0 none none none) S = some (.d (.bool true), S) := by simp [menv, fnd_len]
    have body : l1_machine_of (callN tbl (n + 3)) (menv b o nm B false [] 0 none none none) S = some (.nx (menv b o nm B (anyE B) (B.map (stp b o)) 1 (some (.d (opD b o nm B))) j5 j6) S) := by
      unfold l1_machine_of
      simp only [menv] at e ⊢
      simp at e
      simp [f0, ho, hb, at3_0, at3_2, n_w_end, e]
    simp only [t1, body]
  have fin2 : ∃ (at_ : Int) (j4 k5 k6 : Option Val), whileRun (eBin opLt (eVar 3) (eU opLen (eVar 1))) (l1_machine_of (callN tbl (n + 3))) 999 (menv b o nm B (anyE B) (B.map (stp b o)) 1 (some (.d (opD b o nm B))) j5 j6) S = some (.nx (menv b o nm B (anyE B) (B.map (stp b o)) at_ j4 k5 k6) S) := by
    cases anyE B with
    | false =>
      refine ⟨1, some (.d (opD b o nm B)), j5, j6, ?_⟩
      rw [show (999 : Nat) = 998 + 1 from rfl, whileRun]
      simp [menv, fnd_len]
    | true =>
      refine ⟨2, some (.d endD), j5, j6, ?_⟩
      rw [show (999 : Nat) = 998 + 1 from rfl, whileRun]
      have t1 : eBin opLt (eVar 3) (eU opLen (eVar 1)) (menv b o nm B true (B.map (stp b o)) 1 (some (.d (opD b o nm B))) j5 j6) S = some (.d (.bool true), S) := by simp [menv, fnd_len]
      have body : l1_machine_of (callN tbl (n + 3)) (menv b o nm B true (B.map (stp b o)) 1 (some (.d (opD b o nm B))) j5 j6) S = some (.nx (menv b o nm B true (B.map (stp b o)) 2 (some (.d endD)) j5 j6) S) := by
        unfold l1_machine_of menv
        simp [f1]
        simp [endD, at1_0, n_end_end, fr0]
      simp only [t1, body]
      rw [show (998 : Nat) = 997 + 1 from rfl, whileRun]
      simp [menv, fnd_len]
  obtain ⟨at_, j4, k5, k6, e2⟩ := fin2
  rw [e2] at fin
  have f00 : fnd b o nm B false = [opD b o nm B] := rfl
  simp only [menv] at fin
  rw [f00] at fin
  simp at fin
  have sk := sortOk_steps (B.map (stp b o))
  have sd := sortD_map MP.Step.d (B.map (stp b o))
  rw [sort_steps hs] at sd
  rw [List.map_map] at sk sd
  simp [start0, op, fin, fnd_len, sk, sd, Mach.d, mach]
  cases anyE B <;> rfl
theorem machine_end (n : Nat) (S : Store) : callN tbl (n + 2) 15 [.d endD] S = some (.d (Mach.d (1, [])), S) := by
  rw [call_machine_of]
  unfold b_machine_of runFn
  have op := opened_end n S
  have lp : sWhile 1000 (eBin opLt (eVar 3) (eU opLen (eVar 1))) (l1_machine_of (callN tbl (n + 1))) [some (.d endD), some (.d (.list [endD])), some (.d (.list [])), some (.d (.int 0)), none, none, none] S = some (.nx [some (.d endD), some (.d (.list [endD])), some (.d (.list [])), some (.d (.int 1)), some (.d endD), none, none] S) := by
    unfold sWhile
    rw [show (1000 : Nat) = 999 + 1 from rfl, whileRun]
    have body : l1_machine_of (callN tbl (n + 1)) [some (.d endD), some (.d (.list [endD])), some (.d (.list [])), some (.d (.int 0)), none, none, none] S = some (.nx [some (.d endD), some (.d (.list [endD])), some (.d (.list [])), some (.d (.int 1)), some (.d endD), none, none] S) := by
      unfold l1_machine_of
      simp [at1_0]
      simp [endD, at1_0, n_end_end, fr0]
    simp [body]
    rw [show (999 : Nat) = 998 + 1 from rfl, whileRun]
    simp
  have sk : sortOk [] = true := rfl
  have sd : sortD [] = [] := List.mergeSort_nil
  simp [start0, op, lp, sk, sd, Mach.d]
end
/-- the machine of the role r in the loop -/
def lpM (p q : Nat) (B B' : Br) (r : Nat) : Mach := if r = p then mach true q B else if r = q then mach false p B' else (1, [])
/-- the speaker's machine of B, the hearer's of B' -/
def mm (p q : Nat) (B B' : Br) : List Mach := (List.range 4).map (lpM p q B B')
theorem machine_r (n : Nat) {p q : Nat} {nm : Int} {B : Br} (hB : B.length ≤ 60) (hs : B.Pairwise fun x y => x.1 < y.1) (r : Nat) (S : Store) : callN tbl (n + 4) 15 [.d (partR p q nm B r)] S = some (.d (Mach.d (lpM p q B B r)), S) := by
  unfold partR lpM
  split
  · exact machine_loop n hB hs S
  · split
    · exact machine_loop n hB hs S
    · exact machine_end (n + 2) S
end K58
set_option Elab.async false
set_option linter.all false
set_option maxRecDepth 20000
namespace K58
open PySem L2 MP
/-! Two loops beside each other: parts and machines. -/
section
variable {p q : Nat} {nm : Int} {B : Br}
theorem size_say (n : Nat) (S : Store) : callN tbl (n + 2) 10 [.d (sayD p q nm B)] S = some (.d (.int (1 + (B.length : Int))), S) := by
  rw [call_size_of]
  unfold b_size_of
  refine runFn_ret ?_
  have hsay : ∀ S : Store, items S (.d (sayD p q nm B)) = some [.str "say", .int p, .int q, .tuple (B.map (pr (lf nm)))] := fun _ => rfl
  have cr : compRun (.t [1, 2]) (eC (.bool true)) (eCall (callN tbl (n + 1)) 10 (aCons (eVar 2) (aNil)) []) [some (.d (sayD p q nm B)), none, none] (B.map (pr (lf nm))) S = some ((B.map fun _ => (1 : Int)).map PyData.int, S) := by
    rw [compRun_of (pr (lf nm)) (fun _ => true) (fun _ => .int 1), all_true, List.map_map]
    · rfl
    · intro x hx
      refine ⟨_, rfl, rfl, fun _ => ?_⟩
      simp [pr, size_lf]
  have sm : (B.map fun _ => (1 : Int)).sum = B.length := by
    induction B with
    | nil => rfl
    | cons x B ih =>
      rw [List.map_cons, List.sum_cons]
      have : ∀ l : Br, (l.map fun _ => (1 : Int)).sum = l.length := fun l => by
        induction l with
        | nil => rfl
        | cons y l ih => rw [List.map_cons, List.sum_cons, ih, List.length_cons]; omega
      rw [this, List.length_cons]
      omega
  have is := intsD_map (B.map fun _ => (1 : Int))
  rw [← sm]
  generalize (B.map fun _ => (1 : Int)) = W at cr is ⊢
  simp [start0, hsay, at4_0, at4_3, q_say_say, cr, is]
theorem size_loop (n : Nat) (S : Store) : callN tbl (n + 3) 10 [.d (loopD p q nm B)] S = some (.d (.int (1 + (1 + (B.length : Int)))), S) := by
  rw [call_size_of]
  unfold b_size_of
  refine runFn_ret ?_
  have e0 : ∀ S : Store, items S (.d (loopD p q nm B)) = some [.str "loop", .int nm, sayD p q nm B] := fun _ => rfl
  have ss := size_say (p := p) (q := q) (nm := nm) (B := B) n S
  simp [start0, e0, at3_0, at3_2, q_loop_say, q_loop_beside, q_loop_loop, ss]
end
section
variable {a b c d : Nat} {B0 B1 : Br}
def bsD (a b c d : Nat) (B0 B1 : Br) : D := .tuple [.str "beside", loopD a b 0 B0, loopD c d 1 B1]
def part4 (a b c d : Nat) (B0 B1 : Br) (r : Nat) : D := if r = c ∨ r = d then partR c d 1 B1 r else partR a b 0 B0 r
theorem bs_items (S : Store) : items S (.d (bsD a b c d B0 B1)) = some [.str "beside", loopD a b 0 B0, loopD c d 1 B1] := rfl
theorem part_bs (n : Nat) {r o : Nat} (hab : a ≠ b) (hcd : c ≠ d) (h0 : B0.length ≤ 60) (h1 : B1.length ≤ 60) (g0 : (B0.any fun x => x.2) = true) (g1 : (B1.any fun x => x.2) = true) (z : Int) (S : Store) (hS : PAt S o r) :
    callN tbl (n + 7) 8 [.obj o, .d (bsD a b c d B0 B1), .d (.int z)] S = some (.d (part4 a b c d B0 B1 r), S) := by
  rw [call_Parter_part]
  unfold b_Parter_part
  refine runFn_ret ?_
  have p0 := fun z => part_loop (p := a) (q := b) (nm := 0) (B := B0) n hab h0 g0 z S hS
  have p1 := fun z => part_loop (p := c) (q := d) (nm := 1) (B := B1) n hcd h1 g1 z S hS
  have sz := size_loop (p := a) (q := b) (nm := 0) (B := B0) (n + 3) S
  have rl := roles_loop (p := c) (q := d) (nm := 1) (B := B1) (n + 2) S
  have mem : opIn (.int r) (.list ((setI [(c : Int), d]).map PyData.int)) = some (.bool (decide (r = c ∨ r = d))) := by
    rw [int_memL]
    congr 2
    rw [decide_eq_decide, setI_mem]
    simp only [List.mem_cons, List.not_mem_nil, or_false]
    omega
  have hS : S[o]? = some (.inst 0 [.d (.int r), .d .none]) := hS
  generalize (setI [(c : Int), d]).map PyData.int = R at rl mem
  generalize hL0 : loopD a b 0 B0 = L0 at *
  generalize hL1 : loopD c d 1 B1 = L1 at *
  have it : ∀ S : Store, items S (.d (bsD a b c d B0 B1)) = some [.str "beside", L0, L1] := fun S => by rw [bs_items, hL0, hL1]
  unfold part4
  by_cases h : r = c ∨ r = d
  · rw [if_pos h]
    rw [decide_eq_true h] at mem
    simp [start0, it, at3_0, at3_1, at3_2, i_beside_end_again, q_beside_loop, q_beside_beside, hS, p0, p1, sz, rl, mem]
  · rw [if_neg h]
    rw [decide_eq_false h] at mem
    simp [start0, it, at3_0, at3_1, at3_2, i_beside_end_again, q_beside_loop, q_beside_beside, hS, p0, p1, sz, rl, mem]
theorem part4_isN (r : Nat) : isN (part4 a b c d B0 B1 r) = false := by
  unfold part4
  split
  · exact partR_isN r
  · exact partR_isN r
/-- what is asked of the two loops -/
structure Two (a b c d : Nat) (B0 B1 : Br) : Prop where
  ab : a ≠ b
  cd : c ≠ d
  l0 : B0.length ≤ 60
  l1 : B1.length ≤ 60
  g0 : (B0.any fun x => x.2) = true
  g1 : (B1.any fun x => x.2) = true
  u0 : B0.Pairwise fun x y => x.1 < y.1
  u1 : B1.Pairwise fun x y => x.1 < y.1
theorem parted4 (n : Nat) (h : Two a b c d B0 B1) (r : Nat) (S : Store) : callN tbl (n + 8) 11 [.d (bsD a b c d B0 B1), .d (.int r)] S = some (.d (.tuple [part4 a b c d B0 B1 r, .none]), S ++ [pO r]) := by
  rw [call_parted]
  unfold b_parted runFn
  have hg : PAt (S ++ [Ob.inst 0 [.d (.int r), .d .none]]) S.length r := by
    unfold PAt
    rw [List.getElem?_append_right (Nat.le_refl _), Nat.sub_self]; rfl
  have pt := part_bs n h.ab h.cd h.l0 h.l1 h.g0 h.g1 0 _ hg
  have ini : callN tbl (n + 7) 7 [.obj S.length, .d (.int r)] (S ++ [.inst 0 []]) = some (.d .none, S ++ [.inst 0 [.d (.int r), .d .none]]) := by
    rw [call_Parter_init]
    unfold b_Parter_init runFn
    have s0 : ∀ x y : Ob, (S ++ [x]).set S.length y = S ++ [y] := fun x y => by
      rw [List.set_append_right _ _ (Nat.le_refl _), Nat.sub_self]; rfl
    simp only [x_seq, sFldSet, x_var, start0, x_c]
    simp [MP.putAt, s0]
  simp [start0, ini, pt]
  rfl
theorem parts4 (n : Nat) (h : Two a b c d B0 B1) (S : Store) : callN tbl (n + 9) 12 [.d (bsD a b c d B0 B1)] S = some (.d (.list ((List.range 4).map (part4 a b c d B0 B1))), S ++ [pO 0] ++ [pO 1] ++ [pO 2] ++ [pO 3]) := by
  rw [call_parts]
  unfold b_parts runFn
  have up : upFrom 0 4 = [PyData.int 0, PyData.int 1, PyData.int 2, PyData.int 3] := by rw [upFrom_range]; rfl
  have p0 : ∀ S : Store, callN tbl (n + 8) 11 [.d (bsD a b c d B0 B1), .d (.int 0)] S = some (.d (.tuple [part4 a b c d B0 B1 0, .none]), S ++ [pO 0]) := fun S => parted4 n h 0 S
  have p1 : ∀ S : Store, callN tbl (n + 8) 11 [.d (bsD a b c d B0 B1), .d (.int 1)] S = some (.d (.tuple [part4 a b c d B0 B1 1, .none]), S ++ [pO 1]) := fun S => parted4 n h 1 S
  have p2 : ∀ S : Store, callN tbl (n + 8) 11 [.d (bsD a b c d B0 B1), .d (.int 2)] S = some (.d (.tuple [part4 a b c d B0 B1 2, .none]), S ++ [pO 2]) := fun S => parted4 n h 2 S
  have p3 : ∀ S : Store, callN tbl (n + 8) 11 [.d (bsD a b c d B0 B1), .d (.int 3)] S = some (.d (.tuple [part4 a b c d B0 B1 3, .none]), S ++ [pO 3]) := fun S => parted4 n h 3 S
  have n0 := part4_isN (a := a) (b := b) (c := c) (d := d) (B0 := B0) (B1 := B1)
  have el : (List.range 4).map (part4 a b c d B0 B1) = [part4 a b c d B0 B1 0, part4 a b c d B0 B1 1, part4 a b c d B0 B1 2, part4 a b c d B0 B1 3] := rfl
  rw [el]
  simp [start0, up, compRun, p0, p1, p2, p3, at2_0, n0, boolsD]
def mk4 (a b c d : Nat) (B0 B1 : Br) (r : Nat) : Mach := if r = c ∨ r = d then lpM c d B1 B1 r else lpM a b B0 B0 r
def ms4 (a b c d : Nat) (B0 B1 : Br) : List Mach := (List.range 4).map (mk4 a b c d B0 B1)
theorem machine4 (n : Nat) (h : Two a b c d B0 B1) (r : Nat) (S : Store) : callN tbl (n + 4) 15 [.d (part4 a b c d B0 B1 r)] S = some (.d (Mach.d (mk4 a b c d B0 B1 r)), S) := by
  unfold part4 mk4
  split
  · exact machine_r n h.l1 h.u1 r S
  · exact machine_r n h.l0 h.u0 r S
end
end K58
set_option Elab.async false
set_option linter.all false
set_option maxRecDepth 20000
namespace K58
open PySem L2 MP
/-! Branches by their sizes; searches that find all; powers. -/
def may (G E : Nat) : Br := (List.range (G + E)).map fun (i : Nat) => ((i : Int), decide (i < G))
theorem may_eq (G E : Nat) : may G E = ((List.range G).map fun (i : Nat) => ((i : Int), true)) ++ ((List.range E).map fun (i : Nat) => (((G + i : Nat) : Int), false)) := by
  unfold may
  rw [List.range_add, List.map_append, List.map_map]
  congr 1
  · refine List.map_congr_left fun i hi => ?_
    rw [List.mem_range] at hi
    simp [hi]
  · refine List.map_congr_left fun i hi => ?_
    simp
theorem may_sum (G E : Nat) (f : Bool → Int) : ((may G E).map fun x => f x.2).sum = (G : Int) * f true + (E : Int) * f false := by
  rw [may_eq, List.map_append, List.map_map, List.map_map, List.sum_append]
  have h : ∀ (n : Nat) (g : Nat → Int × Bool) (b : Bool), (∀ i, (g i).2 = b) → ((List.range n).map ((fun x : Int × Bool => f x.2) ∘ g)).sum = (n : Int) * f b := fun n g b hb => by
    induction n with
    | zero => simp
    | succ n ih =>
      rw [List.range_succ, List.map_append, List.sum_append, ih]
      simp [hb, Int.add_mul]
  rw [h G _ true fun _ => rfl, h E _ false fun _ => rfl]
theorem may_len (G E : Nat) : (may G E).length = G + E := by simp [may]
theorem may_fst (G E : Nat) : (may G E).map (·.1) = (List.range (G + E)).map fun (i : Nat) => (i : Int) := by
  unfold may
  rw [List.map_map]
  rfl
theorem may_get {G E i : Nat} (h : i < G + E) : (may G E)[i]? = some ((i : Int), decide (i < G)) := by
  unfold may
  rw [List.getElem?_map, List.getElem?_range h]
  rfl
theorem may_mem {G E : Nat} {l : Int} {f : Bool} : (l, f) ∈ may G E ↔ ∃ i : Nat, i < G + E ∧ l = i ∧ f = decide (i < G) := by
  unfold may
  rw [List.mem_map]
  constructor
  · rintro ⟨i, hi, e⟩
    rw [List.mem_range] at hi
    cases e
    exact ⟨i, hi, rfl, rfl⟩
  · rintro ⟨i, hi, rfl, rfl⟩
    exact ⟨i, List.mem_range.mpr hi, rfl⟩
theorem may_up (G E : Nat) : (may G E).Pairwise fun x y => x.1 < y.1 := by
  unfold may
  rw [List.pairwise_map]
  refine List.pairwise_lt_range.imp fun h => ?_
  show ((_ : Nat) : Int) < ((_ : Nat) : Int)
  omega
theorem may_nd (G E : Nat) : ((may G E).map (·.1)).Nodup := by
  have := may_up G E
  rw [List.Nodup, List.pairwise_map]
  exact this.imp fun h e => by omega
theorem may_ne {G E : Nat} (h : 0 < G) : may G E ≠ [] := by
  intro e
  have := may_len G E
  rw [e] at this
  simp at this
  omega
theorem may_go {G E : Nat} (h : 0 < G) : (0, true) ∈ may G E := may_mem.mpr ⟨0, by omega, rfl, by simp [h]⟩
theorem may_any {G E : Nat} (h : 0 < G) : ((may G E).any fun x => x.2) = true := List.any_eq_true.mpr ⟨_, may_go h, rfl⟩
theorem may_anyE (G E : Nat) : anyE (may G E) = decide (0 < E) := by
  unfold anyE
  rw [Bool.eq_iff_iff, List.any_eq_true, decide_eq_true_eq]
  constructor
  · rintro ⟨⟨l, f⟩, hx, e⟩
    obtain ⟨i, h1, rfl, rfl⟩ := may_mem.mp hx
    simp at e
    omega
  · intro h
    exact ⟨_, may_mem.mpr ⟨G, by omega, rfl, rfl⟩, by simp⟩
section
variable {σ δ τ : Type} [DecidableEq σ]
theorem fold_all {L : List σ} (hL : L.length ≤ 2999) (way : List δ) : ∀ (l : List (δ × σ)) (s : List σ × List (List δ)), s.1.Nodup → (∀ x ∈ s.1, x ∈ L) → (∀ a ∈ l, a.2 ∈ L) →
    (∃ t, (l.foldl (addOne way) s).1 = s.1 ++ t) ∧ (l.foldl (addOne way) s).1.Nodup ∧ (∀ x ∈ (l.foldl (addOne way) s).1, x ∈ L) ∧ ∀ a ∈ l, a.2 ∈ (l.foldl (addOne way) s).1
  | [], s, nd, sub, _ => ⟨⟨[], by simp⟩, nd, sub, fun a ha => nomatch ha⟩
  | a :: l, s, nd, sub, ha => by
    rw [List.foldl_cons]
    have hlen := nodup_sub_len _ _ nd sub
    have haL := ha a List.mem_cons_self
    have key : (∃ t, (addOne way s a).1 = s.1 ++ t) ∧ (addOne way s a).1.Nodup ∧ (∀ x ∈ (addOne way s a).1, x ∈ L) ∧ a.2 ∈ (addOne way s a).1 := by
      unfold addOne
      by_cases hm : a.2 ∈ s.1
      · rw [if_neg (by rintro ⟨h, _⟩; exact h hm)]
        exact ⟨⟨[], by simp⟩, nd, sub, hm⟩
      · rw [if_pos ⟨hm, by omega⟩]
        refine ⟨⟨[a.2], rfl⟩, ?_, fun x hx => ?_, List.mem_append_right _ (List.mem_singleton.mpr rfl)⟩
        · show (s.1 ++ [a.2]).Nodup
          rw [List.nodup_append]
          refine ⟨nd, by simp, fun x hx y hy => ?_⟩
          rw [List.mem_singleton] at hy
          subst hy
          exact fun e => hm (e ▸ hx)
        · rcases List.mem_append.mp hx with z | z
          · exact sub x z
          · rw [List.mem_singleton] at z
            exact z ▸ haL
    obtain ⟨⟨t1, e1⟩, k2, k3, k4⟩ := key
    obtain ⟨⟨t2, e2⟩, q2, q3, q4⟩ := fold_all hL way l (addOne way s a) k2 k3 fun b hb => ha b (List.mem_cons_of_mem _ hb)
    refine ⟨⟨t1 ++ t2, by rw [e2, e1, List.append_assoc]⟩, q2, q3, fun b hb => ?_⟩
    rcases List.mem_cons.mp hb with z | z
    · rw [e2, z]
      exact List.mem_append_left _ k4
    · exact q4 b z
theorem bfs_all {tr : σ → Option τ} {nx : σ → List (δ × σ)} {L : List σ} (hL : L.length ≤ 2999) (ht : ∀ x ∈ L, tr x = none) (hn : ∀ x ∈ L, ∀ a ∈ nx x, a.2 ∈ L) : ∀ (k : Nat) (found : List σ) (ways : List (List δ)) (i : Nat),
    found.Nodup → (∀ x ∈ found, x ∈ L) → i ≤ found.length → (∀ (j : Nat) (x : σ), j < i → found[j]? = some x → ∀ a ∈ nx x, a.2 ∈ found) → L.length + 1 ≤ k + i →
    ∃ fin, bfsRun tr nx k found ways i = some (none, fin) ∧ fin.Nodup ∧ (∀ x ∈ fin, x ∈ L) ∧ (∀ x ∈ fin, ∀ a ∈ nx x, a.2 ∈ fin) ∧ ∀ x ∈ found, x ∈ fin
  | 0, found, ways, i, nd, sub, hi, _, hk => by
    have := nodup_sub_len _ _ nd sub
    omega
  | k + 1, found, ways, i, nd, sub, hi, hc, hk => by
    unfold bfsRun
    cases hx : found[i]? with
    | none =>
      have hil : found.length ≤ i := List.getElem?_eq_none_iff.mp hx
      refine ⟨found, rfl, nd, sub, fun x hxm a ha => ?_, fun x h => h⟩
      obtain ⟨j, hj, e⟩ := List.getElem_of_mem hxm
      exact hc j x (by omega) (by rw [List.getElem?_eq_getElem hj, e]) a ha
    | some x =>
      have hxL := sub x (List.mem_of_getElem? hx)
      simp only [ht x hxL]
      obtain ⟨⟨t, e⟩, q2, q3, q4⟩ := fold_all hL (ways.getD i []) (nx x) (found, ways) nd sub (hn x hxL)
      have hil := (List.getElem?_eq_some_iff.mp hx).1
      generalize (nx x).foldl (addOne (ways.getD i [])) (found, ways) = fw at *
      obtain ⟨f', w'⟩ := fw
      have e : f' = found ++ t := e
      obtain ⟨fin, r1, r2, r3, r4, r5⟩ := bfs_all hL ht hn k f' w' (i + 1) q2 q3 (by rw [e, List.length_append]; omega) (fun j y hj hy a ha => by
        by_cases hji : j = i
        · subst hji
          rw [e, List.getElem?_append_left hil, hx] at hy
          cases hy
          exact q4 a ha
        · have hjl : j < found.length := by omega
          rw [e, List.getElem?_append_left hjl] at hy
          have := hc j y (by omega) hy a ha
          show a.2 ∈ f'
          rw [e]
          exact List.mem_append_left _ this) (by omega)
      refine ⟨fin, r1, r2, r3, r4, fun y hy => r5 y ?_⟩
      show y ∈ f'
      rw [e]
      exact List.mem_append_left _ hy
end
def words (G : Nat) : Nat → List (List Int)
  | 0 => [[]]
  | k + 1 => (List.range G).flatMap fun (g : Nat) => (words G k).map fun w => (g : Int) :: w
def goL (G room : Nat) : List (List Int) := (List.range (room + 1)).flatMap (words G)
def All (G : Nat) (w : List Int) : Prop := ∀ l ∈ w, ∃ i : Nat, i < G ∧ l = i
theorem words_mem {G : Nat} : ∀ {k : Nat} {w : List Int}, w ∈ words G k ↔ w.length = k ∧ All G w
  | 0, w => by
    unfold words
    rw [List.mem_singleton]
    constructor
    · rintro rfl
      exact ⟨rfl, fun l h => nomatch h⟩
    · rintro ⟨h, _⟩
      exact List.eq_nil_of_length_eq_zero h
  | k + 1, w => by
    unfold words
    rw [List.mem_flatMap]
    constructor
    · rintro ⟨g, hg, hw⟩
      obtain ⟨v, hv, rfl⟩ := List.mem_map.mp hw
      rw [List.mem_range] at hg
      obtain ⟨h1, h2⟩ := words_mem.mp hv
      refine ⟨by rw [List.length_cons, h1], fun l hl => ?_⟩
      rcases List.mem_cons.mp hl with e | e
      · exact ⟨g, hg, e⟩
      · exact h2 l e
    · rintro ⟨h1, h2⟩
      cases w with
      | nil => simp at h1
      | cons x w =>
        obtain ⟨i, hi, rfl⟩ := h2 x List.mem_cons_self
        exact ⟨i, List.mem_range.mpr hi, List.mem_map.mpr ⟨w, words_mem.mpr ⟨by simpa using h1, fun l hl => h2 l (List.mem_cons_of_mem _ hl)⟩, rfl⟩⟩
theorem goL_mem {G room : Nat} {w : List Int} : w ∈ goL G room ↔ w.length ≤ room ∧ All G w := by
  unfold goL
  rw [List.mem_flatMap]
  constructor
  · rintro ⟨k, hk, hw⟩
    rw [List.mem_range] at hk
    obtain ⟨h1, h2⟩ := words_mem.mp hw
    exact ⟨by omega, h2⟩
  · rintro ⟨h1, h2⟩
    exact ⟨w.length, List.mem_range.mpr (by omega), words_mem.mpr ⟨rfl, h2⟩⟩
theorem power (n : Nat) {b : Int} (h0 : 0 ≤ b) (h1 : b ≤ 1000) (k : Nat) (hk : k ≤ 1000) {ki : Int} (hki : ki = k) (S : Store) : callN tbl (n + 1) 41 [.d (.int b), .d (.int ki)] S = some (.d (.int (b ^ k)), S) := by
  subst hki
  have sm : smallI b = true := by simp [smallI]; omega
  obtain ⟨ρ2, e, j3, rfl⟩ := forRun_ix (t := .n 3) (b := l0__law_power (callN tbl n)) (S := S) (fun (i : Nat) => PyData.int (i : Int)) (fun i ρ => ∃ j3, ρ = [some (.d (.int b)), some (.d (.int k)), some (.d (.int (b ^ i))), j3]) (List.range k) 0 [some (.d (.int b)), some (.d (.int k)), some (.d (.int 1)), none] ⟨none, by simp⟩ (fun i a ρ hi ⟨j3, hρ⟩ => by
    subst hρ
    rw [Nat.zero_add]
    refine ⟨_, _, rfl, .inl ?_, some (.d (.int a)), rfl⟩
    unfold l0__law_power
    simp [sm, Int.pow_succ])
  rw [Nat.zero_add, List.length_range] at e
  rw [call__law_power]
  unfold b__law_power
  have hb : -1000000 ≤ (k : Int) ∧ (k : Int) ≤ 1000000 := by omega
  have up := upFrom_range k
  generalize (List.range k).map (fun (i : Nat) => PyData.int (i : Int)) = U at e up
  refine runFn_ret ?_
  simp [start0, hb, up, e]
end K58
set_option Elab.async false
set_option linter.all false
set_option maxRecDepth 20000
namespace K58
open PySem L2 MP
theorem tupsD_map : ∀ (ls : List (List Int)), tupsD (ls.map iT) = some ls
  | [] => rfl
  | l :: ls => by
    rw [List.map_cons]
    show (match intsD (l.map PyData.int), tupsD (ls.map iT) with
      | some l, some ls => some (l :: ls)
      | _, _ => none) = _
    rw [intsD_map, tupsD_map ls]
/-! A loop's talk, as the counts see it. -/
section
variable {p q : Nat} {nm : Int} {B : Br}
/-- the talk, or its end -/
def tkD (p q : Nat) (nm : Int) (B : Br) : Bool → D
  | true => loopD p q nm B
  | false => endD
def opT (p q : Nat) (nm : Int) (B : Br) : D := .tuple [.str "say", .int p, .int q, brD (tkD p q nm B) B]
/-- opened -/
def otD (p q : Nat) (nm : Int) (B : Br) : Bool → D
  | true => opT p q nm B
  | false => endD
theorem put_lfT (n : Nat) (g : Bool) (S : Store) : callN tbl (n + 1) 42 [.d (lf nm g), .d (.int nm), .d (loopD p q nm B)] S = some (.d (tkD p q nm B g), S) := by
  rw [call_put_for]
  unfold b_put_for runFn
  cases g <;> simp [start0, lf, tkD, endD, at1_0, at2_0, at2_1, q_again_again, q_end_again, q_end_loop, q_end_say, eq_int]
theorem put_sayT (n : Nat) (S : Store) : callN tbl (n + 2) 42 [.d (sayD p q nm B), .d (.int nm), .d (loopD p q nm B)] S = some (.d (opT p q nm B), S) := by
  rw [call_put_for]
  unfold b_put_for runFn
  have hs : ∀ S : Store, items S (.d (sayD p q nm B)) = some [.str "say", .int p, .int q, .tuple (B.map (pr (lf nm)))] := fun _ => rfl
  have cr : compRun (.t [3, 4]) (eC (.bool true)) (eTup (aCons (eVar 3) (aCons (eCall (callN tbl (n + 1)) 42 (aCons (eVar 4) (aCons (eVar 1) (aCons (eVar 2) (aNil)))) []) (aNil)))) [some (.d (sayD p q nm B)), some (.d (.int nm)), some (.d (loopD p q nm B)), none, none] (B.map (pr (lf nm))) S = some (B.map (pr (tkD p q nm B)), S) := by
    rw [compRun_of (pr (lf nm)) (fun _ => true) (pr (tkD p q nm B)), all_true]
    intro x hx
    refine ⟨_, rfl, rfl, fun _ => ?_⟩
    simp [put_lfT, pr]
  have ct : opSl (.d (sayD p q nm B)) none (some 3) = some (.tuple [.str "say", .int p, .int q]) := rfl
  simp [start0, hs, at4_0, at4_3, q_say_again, q_say_loop, q_say_say, cr, ct]
  rfl
theorem opened_t (n : Nat) (g : Bool) (S : Store) : callN tbl (n + 3) 43 [.d (tkD p q nm B g)] S = some (.d (otD p q nm B g), S) := by
  rw [call_opened]
  unfold b_opened runFn
  cases g with
  | false => simp [start0, sWhile, whileRun, tkD, otD, endD, at1_0, q_end_loop]
  | true =>
    have ps := put_sayT (p := p) (q := q) (nm := nm) (B := B) n S
    have hl : ∀ S : Store, items S (.d (loopD p q nm B)) = some [.str "loop", .int nm, sayD p q nm B] := fun _ => rfl
    have ho : ∀ S : Store, items S (.d (opT p q nm B)) = some [.str "say", .int p, .int q, brD (tkD p q nm B) B] := fun _ => rfl
    simp [start0, sWhile, whileRun, l0_opened, tkD, otD, hl, ho, at3_0, at3_1, at3_2, at4_0, q_loop_loop, q_say_loop, ps]
theorem pd_br (f : Bool → D) (h : ∀ g, pd (f g) = true) : pd (brD f B) = true := by
  unfold brD
  simp only [pd]
  induction B with
  | nil => rfl
  | cons x l ih => simp [pds, pd, pr, h, ih]
theorem dp_br (f : Bool → D) (c : Nat) (h : ∀ g, (f g).depth ≤ c) : (brD f B).depth ≤ c + 2 := by
  unfold brD
  simp only [PyData.depth]
  induction B with
  | nil => simp [PyData.depthAll]
  | cons x l ih =>
    have := h x.2
    simp only [List.map_cons, PyData.depthAll, pr, PyData.depth]
    omega
theorem pd_lf0 (g : Bool) : pd (lf nm g) = true := by cases g <;> rfl
theorem dp_lf0 (g : Bool) : (lf nm g).depth ≤ 1 := by cases g <;> simp [lf, endD, PyData.depth, PyData.depthAll]
theorem pd_tk (g : Bool) : pd (tkD p q nm B g) = true := by
  cases g
  · rfl
  · simp [tkD, loopD, sayD, pd, pds, pd_br (lf nm) pd_lf0]
theorem pd_ot (g : Bool) : pd (otD p q nm B g) = true := by
  cases g
  · rfl
  · simp [otD, opT, pd, pds, pd_br (tkD p q nm B) pd_tk]
theorem dp_tk (g : Bool) : (tkD p q nm B g).depth ≤ 5 := by
  cases g
  · simp [tkD, endD, PyData.depth, PyData.depthAll]
  · have := dp_br (B := B) (lf nm) 1 dp_lf0
    simp only [tkD, loopD, sayD, PyData.depth, PyData.depthAll]
    omega
theorem dp_ot (g : Bool) : (otD p q nm B g).depth ≤ 8 := by
  cases g
  · simp [otD, endD, PyData.depth, PyData.depthAll]
  · have := dp_br (B := B) (tkD p q nm B) 5 dp_tk
    simp only [otD, opT, PyData.depth, PyData.depthAll]
    omega
theorem ot_end (g : Bool) : opEq (otD p q nm B g) (.tuple [.str "end"]) = some (.bool (!g)) :=
  opEq_iff (pd_ot g) rfl (by simp [okD, PyData.depth, PyData.depthAll]) (by cases g <;> simp [otD, opT, endD])
theorem ot_items (g : Bool) (S : Store) : items S (.d (otD p q nm B g)) = some (match g with | true => [.str "say", .int p, .int q, brD (tkD p q nm B) B] | false => [.str "end"]) := by cases g <;> rfl
theorem is_over (n : Nat) (g : Bool) (S : Store) : callN tbl (n + 4) 48 [.d (tkD p q nm B g)] S = some (.d (.bool !g), S) := by
  rw [call_is_over]
  unfold b_is_over runFn
  have op := opened_t (p := p) (q := q) (nm := nm) (B := B) n g S
  have e := ot_end (p := p) (q := q) (nm := nm) (B := B) g
  cases g <;> simp [start0, op, ot_items, at1_0, at4_0, q_say_beside, q_end_beside, e]
/-! what can be said -/
def sayI (p q : Nat) (l : Int) : List Int := [p, q, l]
theorem said_end (n : Nat) (busy seen : List D) (S : Store) : callN tbl (n + 4) 45 [.d (tkD p q nm B false), .d (.list busy), .d (.list seen)] S = some (.d (.list []), S) := by
  rw [call_said_without]
  unfold b_said_without runFn
  have op := opened_t (p := p) (q := q) (nm := nm) (B := B) n false S
  simp [start0, op, ot_items, at1_0, q_end_end]
theorem said_seen (n : Nat) (busy : List D) (S : Store) : callN tbl (n + 4) 45 [.d (tkD p q nm B true), .d (.list busy), .d (.list [opT p q nm B])] S = some (.d (.list []), S) := by
  rw [call_said_without]
  unfold b_said_without runFn
  have op := opened_t (p := p) (q := q) (nm := nm) (B := B) n true S
  have hin : opIn (otD p q nm B true) (.list [opT p q nm B]) = some (.bool true) := opInL_iff (pd_ot true) (fun d hd => by
    rw [List.mem_singleton] at hd
    rw [hd]
    exact pd_ot true) (okD_of (dp_ot true) (by omega)) (by simp [otD])
  simp [start0, op, ot_items, at4_0, q_say_end, hin]
theorem said_ (n : Nat) (hB : B ≠ []) (hl : B.length ≤ 100) (S : Store) : callN tbl (n + 5) 45 [.d (tkD p q nm B true), .d (.list []), .d (.list [])] S = some (.d (.list ((B.map fun x => sayI p q x.1).map iT)), S) := by
  rw [call_said_without]
  unfold b_said_without runFn
  have op := opened_t (p := p) (q := q) (nm := nm) (B := B) (n + 1) true S
  have hin : opIn (otD p q nm B true) (.list []) = some (.bool false) := opInL_iff (pd_ot true) (fun d hd => by cases hd) (okD_of (dp_ot true) (by omega)) (by simp)
  have i0 : ∀ i : Int, opNotIn (.int i) (.list []) = some (.bool true) := fun i => opNotInL_iff (c := false) rfl (fun d hd => by cases hd) (ok_int i) (by simp)
  have st : ∀ ρ : MP.Env, (Tg.t [3, 4, 5, 6]).set (otD p q nm B true) ρ = some (setAll ρ [3, 4, 5, 6] [.d (.str "say"), .d (.int p), .d (.int q), .d (.tuple (B.map (pr (tkD p q nm B))))]) := fun _ => rfl
  have c1 : compRun (.t [12, 3]) (eC (.bool true)) (eTup (aCons (eVar 4) (aCons (eVar 5) (aCons (eVar 12) (aNil))))) [some (.d (otD p q nm B true)), some (.d (.list [])), some (.d (.list [])), none, some (.d (.int p)), some (.d (.int q)), some (.d (.tuple (B.map (pr (tkD p q nm B))))), some (.d (.list [])), none, none, none, none, none, none] (B.map (pr (tkD p q nm B))) S = some ((B.map fun x => sayI p q x.1).map iT, S) := by
    rw [compRun_of (pr (tkD p q nm B)) (fun _ => true) (fun x => iT (sayI p q x.1)), all_true, List.map_map]
    · rfl
    · intro x hx
      exact ⟨_, rfl, rfl, fun _ => rfl⟩
  have c2 : ∀ F : D, compRun (.t [3, 10]) (eC (.bool true)) (eCall (callN tbl (n + 4)) 45 (aCons (eVar 10) (aCons (eBin opAdd (eVar 1) (eLst (aCons (eVar 4) (aCons (eVar 5) (aNil))))) (aCons (eBin opAdd (eVar 2) (eLst (aCons (eVar 0) (aNil)))) (aNil)))) []) [some (.d (otD p q nm B true)), some (.d (.list [])), some (.d (.list [])), none, some (.d (.int p)), some (.d (.int q)), some (.d (.tuple (B.map (pr (tkD p q nm B))))), some (.d F), none, none, none, none, none, none] (B.map (pr (tkD p q nm B))) S = some (B.map fun _ => PyData.list [], S) := fun F => by
    rw [compRun_of (pr (tkD p q nm B)) (fun _ => true) (fun _ => .list []), all_true]
    intro x hx
    refine ⟨_, rfl, rfl, fun _ => ?_⟩
    obtain ⟨l, g⟩ := x
    cases g
    · have := said_end (p := p) (q := q) (nm := nm) (B := B) n [.int p, .int q] [otD p q nm B true] S
      simp [this]
    · have := said_seen (p := p) (q := q) (nm := nm) (B := B) n [.int p, .int q] S
      have e : otD p q nm B true = opT p q nm B := rfl
      simp [this, e]
  have m0 : L2.atI (B.map fun _ => PyData.list []) 0 = some (.list []) := by
    cases B with
    | nil => exact absurd rfl hB
    | cons x B => exact MP.atI_nat (k := 0) rfl
  have hz : (B.map fun x => sayI p q x.1).length ≤ 1000000 := by rw [List.length_map]; omega
  generalize (B.map fun x => sayI p q x.1) = Z at c1 hz ⊢
  generalize (B.map fun _ => PyData.list []) = W at c2 m0
  have it := ot_items (p := p) (q := q) (nm := nm) (B := B) true
  dsimp only at it
  generalize otD p q nm B true = T at op it hin st c1 c2
  have i1 : opIn T (.list []) = some (.bool false) := hin
  simp [start0, op, it, at4_0, q_say_end, q_say_beside, i1, i0, st, c1, c2, m0, compRun, hz]
theorem next_said (n : Nat) (hB : B ≠ []) (hl : B.length < 64) (h1 : (B.map fun x => sayI p q x.1).all (okC 3) = true) (h2 : setC (B.map fun x => sayI p q x.1) = B.map fun x => sayI p q x.1) (S : Store) :
    callN tbl (n + 6) 44 [.d (tkD p q nm B true)] S = some (.d (.list ((B.map fun x => sayI p q x.1).map iT)), S) := by
  rw [call_next_said]
  unfold b_next_said runFn
  have sd := said_ (p := p) (q := q) (nm := nm) n hB (by omega) S
  have hz : (B.map fun x => sayI p q x.1).length < 64 := by rw [List.length_map]; exact hl
  have hd : ((B.map fun x => sayI p q x.1).headD [0]).length = 3 := by
    cases B with
    | nil => exact absurd rfl hB
    | cons x B => rfl
  generalize (B.map fun x => sayI p q x.1) = Z at *
  have st : eSortSetT (eCall (callN tbl (n + 5)) 45 (aCons (eVar 0) (aCons (eLst (aNil)) (aCons (eLst (aNil)) (aNil)))) []) [some (.d (tkD p q nm B true))] S = some (.d (.list (Z.map iT)), S) := by
    unfold eSortSetT
    have e : eCall (callN tbl (n + 5)) 45 (aCons (eVar 0) (aCons (eLst (aNil)) (aCons (eLst (aNil)) (aNil)))) [] [some (.d (tkD p q nm B true))] S = some (.d (.list (Z.map iT)), S) := by simp [sd]
    rw [e]
    simp only [tupsD_map, hd]
    rw [if_pos ⟨hz, by omega, h1⟩, h2]
    rfl
  simp [start0, st]
theorem next_end (n : Nat) (S : Store) : callN tbl (n + 5) 44 [.d (tkD p q nm B false)] S = some (.d (.list []), S) := by
  rw [call_next_said]
  unfold b_next_said runFn
  have sd := said_end (p := p) (q := q) (nm := nm) (B := B) n [] [] S
  have st : eSortSetT (eCall (callN tbl (n + 4)) 45 (aCons (eVar 0) (aCons (eLst (aNil)) (aCons (eLst (aNil)) (aNil)))) []) [some (.d (tkD p q nm B false))] S = some (.d (.list []), S) := by
    unfold eSortSetT
    have e : eCall (callN tbl (n + 4)) 45 (aCons (eVar 0) (aCons (eLst (aNil)) (aCons (eLst (aNil)) (aNil)))) [] [some (.d (tkD p q nm B false))] S = some (.d (.list []), S) := by simp [sd]
    rw [e]
    rfl
  simp [start0, st]
theorem pairs_br (f : Bool → D) : pairsD (B.map (pr f)) = some (B.map fun x => (x.1, f x.2)) := by
  induction B with
  | nil => rfl
  | cons x B ih =>
    rw [List.map_cons, List.map_cons]
    show (match pr f x, B.map (pr f) with | _, _ => pairsD (pr f x :: B.map (pr f))) = _
    dsimp only
    unfold pr at ih ⊢
    unfold pairsD
    rw [ih]
    rfl
theorem find_br (f : Bool → D) (nd : (B.map (·.1)).Nodup) {x : Int × Bool} (hx : x ∈ B) : ((B.map fun x => (x.1, f x.2)).find? fun y => decide (y.1 = x.1)) = some (x.1, f x.2) := by
  induction B with
  | nil => cases hx
  | cons y B ih =>
    rw [List.map_cons, List.nodup_cons] at nd
    rw [List.map_cons, List.find?_cons]
    rcases List.mem_cons.mp hx with e | e
    · subst e; simp
    · have : ¬ y.1 = x.1 := fun z => nd.1 (z ▸ List.mem_map.mpr ⟨x, e, rfl⟩)
      simp only [decide_eq_false this]
      exact ih nd.2 e
theorem after_said (n : Nat) (nd : (B.map (·.1)).Nodup) {x : Int × Bool} (hx : x ∈ B) (S : Store) : callN tbl (n + 4) 46 [.d (tkD p q nm B true), .d (iT (sayI p q x.1))] S = some (.d (tkD p q nm B x.2), S) := by
  rw [call_after_said]
  unfold b_after_said runFn
  have op := opened_t (p := p) (q := q) (nm := nm) (B := B) n true S
  have it := ot_items (p := p) (q := q) (nm := nm) (B := B) true
  dsimp only at it
  have st : ∀ ρ : MP.Env, (Tg.t [2, 3, 4, 5]).set (otD p q nm B true) ρ = some (setAll ρ [2, 3, 4, 5] [.d (.str "say"), .d (.int p), .d (.int q), .d (.tuple (B.map (pr (tkD p q nm B))))]) := fun _ => rfl
  have cut : opSl (.d (iT (sayI p q x.1))) none (some 2) = some (iT [(p : Int), q]) := rfl
  have eq : opEq (iT [(p : Int), q]) (.tuple [.int p, .int q]) = some (.bool true) := opEq_iff (c := true) (pd_iT _) rfl (ok_iT [(p : Int), q]) (by simp [iT])
  have i2 : ∀ S : Store, items S (.d (iT (sayI p q x.1))) = some [.int p, .int q, .int x.1] := fun _ => rfl
  have dx : ∀ ρ : MP.Env, ρ.getD 5 none = some (.d (.tuple (B.map (pr (tkD p q nm B))))) → ρ.getD 1 none = some (.d (iT (sayI p q x.1))) → eDictIx (eVar 5) (eIx (eVar 1) (eC (.int 2))) ρ S = some (.d (tkD p q nm B x.2), S) := fun ρ h5 h1 => by
    unfold eDictIx
    have e5 : eVar 5 ρ S = some (.d (.tuple (B.map (pr (tkD p q nm B)))), S) := by rw [x_var, h5]; rfl
    have e1 : eIx (eVar 1) (eC (.int 2)) ρ S = some (.d (.int x.1), S) := by
      simp only [x_ix, x_var, h1, x_c, Option.map_some]
      simp [i2, at3_2]
    rw [e5]
    simp only [e1, pairs_br]
    rw [if_pos (by rw [List.map_map]; exact nd), find_br _ nd hx]
    rfl
  simp [start0, op, it, at4_0, q_say_beside, st, cut, eq]
  rw [dx _ rfl rfl]
/-- what is written of it -/
theorem written (n : Nat) (g : Bool) (S : Store) : callN tbl (n + 4) 49 [.d (tkD p q nm B g)] S = some (.d (.list (if g then B.map fun x => .tuple [iT (sayI p q x.1), tkD p q nm B x.2] else [])), S) := by
  rw [call_written]
  unfold b_written runFn
  have op := opened_t (p := p) (q := q) (nm := nm) (B := B) n g S
  cases g with
  | false => simp [start0, op, ot_items, at1_0, q_end_end]
  | true =>
    have it := ot_items (p := p) (q := q) (nm := nm) (B := B) true
    dsimp only at it
    have c : compRun (.t [2, 3]) (eC (.bool true)) (eTup (aCons (eTup (aCons (eIx (eVar 0) (eC (.int 1))) (aCons (eIx (eVar 0) (eC (.int 2))) (aCons (eVar 2) (aNil))))) (aCons (eVar 3) (aNil)))) [some (.d (otD p q nm B true)), none, none, none, none] (B.map (pr (tkD p q nm B))) S = some (B.map fun x => .tuple [iT (sayI p q x.1), tkD p q nm B x.2], S) := by
      rw [compRun_of (pr (tkD p q nm B)) (fun _ => true) (fun x => .tuple [iT (sayI p q x.1), tkD p q nm B x.2]), all_true]
      intro x hx
      refine ⟨_, rfl, rfl, fun _ => ?_⟩
      simp [it, at4_1, at4_2]
      rfl
    have hb : brD (tkD p q nm B) B = .tuple (B.map (pr (tkD p q nm B))) := rfl
    simp [start0, op, it, at4_0, at4_3, q_say_end, q_say_beside, hb, c]
end
end K58
set_option Elab.async false
set_option linter.all false
set_option maxRecDepth 20000
namespace K58
open PySem L2 MP
/-! Counting: any talks whose next sayings are known. -/
structure Tk (T : Type) where
  tk : T → D
  nxt : T → List (List Int × T)
  over : T → Bool
  key : T → NestedKey
  all : List T
structure TkOk {T : Type} (K : Tk T) (c : Nat) : Prop where
  isOver : ∀ (n : Nat) (t : T) (S : Store), callN tbl (n + c) 48 [.d (K.tk t)] S = some (.d (.bool (K.over t)), S)
  next : ∀ (n : Nat) (t : T) (S : Store), callN tbl (n + c) 44 [.d (K.tk t)] S = some (.d (.list ((K.nxt t).map fun x => iT x.1)), S)
  after : ∀ (n : Nat) (t : T) (x : List Int × T) (S : Store), x ∈ K.nxt t → callN tbl (n + c) 46 [.d (K.tk t), .d (iT x.1)] S = some (.d (K.tk x.2), S)
  keyIs : ∀ t : T, keyD (K.tk t) = some (K.key t)
  keyDp : ∀ t : T, (K.tk t).depth ≤ 7
  keyInj : ∀ t u : T, K.key t = K.key u → t = u
  mem : ∀ t : T, t ∈ K.all
  few : K.all.length ≤ 10
section
variable {T : Type} {K : Tk T} {c : Nat}
/-- how many rows of m sayings, or how many that end -/
def cnt (K : Tk T) : Nat → T → Bool → Int
  | 0, t, e => if K.over t || !e then 1 else 0
  | m + 1, t, e => ((K.nxt t).map fun x => cnt K m x.2 e).sum
def bN (e : Bool) : Int := if e = true then 1 else 0
theorem bN_inj {e f : Bool} (h : bN e = bN f) : e = f := by cases e <;> cases f <;> simp [bN] at h ⊢
def keyOf (K : Tk T) (t : T) (m : Nat) (e : Bool) : NestedKey := .tup [K.key t, .num m, .num (bN e)]
theorem keyOf_inj (h : TkOk K c) {t u : T} {m m' : Nat} {e e' : Bool} (q : keyOf K t m e = keyOf K u m' e') : t = u ∧ m = m' ∧ e = e' := by
  unfold keyOf at q
  simp only [NestedKey.tup.injEq, List.cons.injEq, NestedKey.num.injEq, and_true] at q
  exact ⟨h.keyInj _ _ q.1, by omega, bN_inj q.2.2⟩
theorem keyOk_of (h : TkOk K c) (t : T) (m : Nat) (e : Bool) : keyOk (.tuple [K.tk t, .int m, .bool e]) = some (keyOf K t m e) := by
  have hk : keyD (.tuple [K.tk t, .int m, .bool e]) = some (keyOf K t m e) := by
    simp only [keyD, keyDs, h.keyIs t]
    rfl
  have hd := key_depth _ _ hk
  have h7 := h.keyDp t
  have : (PyData.tuple [K.tk t, .int m, .bool e]).depth ≤ 8 := by
    simp only [PyData.depth, PyData.depthAll]
    omega
  unfold keyOk
  simp only [hk]
  rw [if_pos (by omega)]
def keysL (K : Tk T) : List NestedKey := K.all.flatMap fun t => (List.range 10).flatMap fun m => [keyOf K t m true, keyOf K t m false]
theorem keysL_mem (h : TkOk K c) (t : T) {m : Nat} (hm : m < 10) (e : Bool) : keyOf K t m e ∈ keysL K := by
  unfold keysL
  refine List.mem_flatMap.mpr ⟨t, h.mem t, List.mem_flatMap.mpr ⟨m, List.mem_range.mpr hm, ?_⟩⟩
  cases e <;> simp
theorem keysL_len (h : TkOk K c) : (keysL K).length ≤ 200 := by
  unfold keysL
  have := flatMap_le (c := 20) (f := fun t => (List.range 10).flatMap fun m => [keyOf K t m true, keyOf K t m false]) (fun t => by
    refine Nat.le_trans (flatMap_le (c := 2) (fun m => by simp) _) (by simp)) K.all
  have := h.few
  omega
/-- what the counter at a, with its dict at b, keeps to -/
def CI (K : Tk T) (S0 : Store) (b : Nat) (S : Store) : Prop := ∃ kvs : List (NestedKey × Int), S = S0.set b (.kept kvs) ∧ (kvs.map (·.1)).Nodup ∧ (∀ k ∈ kvs.map (·.1), k ∈ keysL K) ∧ ∀ t m e i, lookKV kvs (keyOf K t m e) = some i → i = cnt K m t e

section
variable {S0 : Store} {a b : Nat} {t : T} {m : Nat} {mi : Int} {e : Bool} {kvs : List (NestedKey × Int)}
def renv (K : Tk T) (a : Nat) (t : T) (mi : Int) (e : Bool) (j4 j5 : Option Val) : MP.Env := [some (.obj a), some (.d (K.tk t)), some (.d (.int mi)), some (.d (.bool e)), j4, j5]
theorem put_step (ko : keyOk (.tuple [K.tk t, .int mi, .bool e]) = some (keyOf K t m e)) (ga : (S0.set b (.kept kvs))[a]? = some (.inst 1 [.obj b])) (gb : (S0.set b (.kept kvs))[b]? = some (.kept kvs)) (hz : kvs.length ≤ 100000) (v : Int) (j5 : Option Val) :
    sSetK (eFld 1 0 (eVar 0)) (eTup (aCons (eVar 1) (aCons (eVar 2) (aCons (eVar 3) (aNil))))) (eVar 4) (renv K a t mi e (some (.d (.int v))) j5) (S0.set b (.kept kvs)) = some (.nx (renv K a t mi e (some (.d (.int v))) j5) (S0.set b (.kept (putKV kvs (keyOf K t m e) v)))) := by
  generalize hS : S0.set b (.kept kvs) = S at ga gb
  unfold renv
  simp [x_setK, ga, gb, ko, hz]
  rw [← hS, List.set_set]
theorem get_step (ko : keyOk (.tuple [K.tk t, .int mi, .bool e]) = some (keyOf K t m e)) (ga : (S0.set b (.kept kvs))[a]? = some (.inst 1 [.obj b])) (gb : (S0.set b (.kept kvs))[b]? = some (.kept kvs)) {v : Int} (hv : lookKV kvs (keyOf K t m e) = some v) (j4 j5 : Option Val) :
    sRet (eGetK (eFld 1 0 (eVar 0)) (eTup (aCons (eVar 1) (aCons (eVar 2) (aCons (eVar 3) (aNil)))))) (renv K a t mi e j4 j5) (S0.set b (.kept kvs)) = some (.ret (.d (.int v)) (S0.set b (.kept kvs))) := by
  generalize hS : S0.set b (.kept kvs) = S at ga gb
  unfold renv
  simp [x_getK, ga, gb, ko, hv]
theorem notin_step (ko : keyOk (.tuple [K.tk t, .int mi, .bool e]) = some (keyOf K t m e)) (ga : (S0.set b (.kept kvs))[a]? = some (.inst 1 [.obj b])) (gb : (S0.set b (.kept kvs))[b]? = some (.kept kvs)) (j4 j5 : Option Val) :
    eNotInK (eTup (aCons (eVar 1) (aCons (eVar 2) (aCons (eVar 3) (aNil))))) (eFld 1 0 (eVar 0)) (renv K a t mi e j4 j5) (S0.set b (.kept kvs)) = some (.d (.bool (!(lookKV kvs (keyOf K t m e)).isSome)), S0.set b (.kept kvs)) := by
  generalize hS : S0.set b (.kept kvs) = S at ga gb
  unfold renv
  simp [x_notInK, ga, gb, ko]
end
theorem CI.put (h : TkOk K c) {S0 : Store} {b : Nat} {kvs : List (NestedKey × Int)} (hS : CI K S0 b (S0.set b (.kept kvs))) (hb : b < S0.length) (t : T) {m : Nat} (hm : m < 10) (e : Bool) : CI K S0 b (S0.set b (.kept (putKV kvs (keyOf K t m e) (cnt K m t e)))) ∧ kvs.length ≤ 100000 ∧ lookKV (putKV kvs (keyOf K t m e) (cnt K m t e)) (keyOf K t m e) = some (cnt K m t e) := by
  obtain ⟨kvs', e', nd, sub, val⟩ := hS
  have : kvs' = kvs := by
    have h1 := congrArg (fun z : Store => z[b]?) e'
    simp only [List.getElem?_set_self hb] at h1
    injection h1 with h1
    injection h1 with h1
    exact h1.symm
  subst this
  refine ⟨⟨_, rfl, putKV_nodup nd _ _, fun k hk => ?_, fun u m' e'' i hi => ?_⟩, ?_, ?_⟩
  · rw [putKV_keys] at hk
    split at hk
    · exact sub k hk
    · rcases List.mem_append.mp hk with z | z
      · exact sub k z
      · rw [List.mem_singleton] at z
        subst z
        exact keysL_mem h t hm e
  · rw [look_put] at hi
    split at hi
    · rename_i heq
      obtain ⟨rfl, rfl, rfl⟩ := keyOf_inj h heq
      cases hi
      rfl
    · exact val u m' e'' i hi
  · have h1 := nodup_sub_len _ _ nd sub
    have h2 := keysL_len h
    rw [List.length_map] at h1
    omega
  · rw [look_put, if_pos rfl]
theorem rows (h : TkOk K c) {S0 : Store} {a b : Nat} (hab : a ≠ b) (hb : b < S0.length) (ha : S0[a]? = some (.inst 1 [.obj b])) : ∀ (m : Nat), m < 10 → ∀ (mi : Int), mi = m → ∀ (n : Nat) (t : T) (e : Bool) (S : Store), CI K S0 b S →
    ∃ S', callN tbl (n + m + c + 1) 51 [.obj a, .d (K.tk t), .d (.int mi), .d (.bool e)] S = some (.d (.int (cnt K m t e)), S') ∧ CI K S0 b S' := by
  have ga : ∀ kvs : List (NestedKey × Int), (S0.set b (.kept kvs))[a]? = some (.inst 1 [.obj b]) := fun kvs => by rw [List.getElem?_set_ne (Ne.symm hab)]; exact ha
  have gb : ∀ kvs : List (NestedKey × Int), (S0.set b (.kept kvs))[b]? = some (.kept kvs) := fun kvs => List.getElem?_set_self hb
  intro m
  induction m with
  | zero =>
    intro hm mi hmi n t e S hS
    have hS0 := hS
    obtain ⟨kvs, rfl, nd, sub, val⟩ := hS
    have ko : keyOk (.tuple [K.tk t, .int mi, .bool e]) = some (keyOf K t 0 e) := by rw [hmi]; exact keyOk_of h t 0 e
    have st0 : start0 6 [.obj a, .d (K.tk t), .d (.int mi), .d (.bool e)] = renv K a t mi e none none := rfl
    rw [call_Counter_rows]
    unfold b_Counter_rows
    have ni := notin_step ko (ga kvs) (gb kvs) none none
    by_cases hk : (lookKV kvs (keyOf K t 0 e)).isSome = true
    · obtain ⟨i, hi⟩ := Option.isSome_iff_exists.mp hk
      have hv := val t 0 e i hi
      subst hv
      refine ⟨_, runFn_ret ?_, hS0⟩
      rw [st0]
      rw [hk] at ni
      exact seq_go (by simp only [x_sIf, ni]; rfl) (get_step ko (ga kvs) (gb kvs) hi none none)
    · have hk : (lookKV kvs (keyOf K t 0 e)).isSome = false := by simpa using hk
      rw [hk] at ni
      obtain ⟨p1, p2, p3⟩ := hS0.put h hb t (m := 0) (by omega) e
      have io := h.isOver n t (S0.set b (.kept kvs))
      refine ⟨_, runFn_ret ?_, p1⟩
      rw [st0]
      refine seq_go (ρ1 := renv K a t mi e (some (.d (.int (cnt K 0 t e)))) none) (S1 := S0.set b (.kept (putKV kvs (keyOf K t 0 e) (cnt K 0 t e)))) ?_ (get_step ko (ga _) (gb _) p3 _ _)
      simp only [x_sIf, ni]
      refine seq_go (ρ1 := renv K a t mi e (some (.d (.int (cnt K 0 t e)))) none) (S1 := S0.set b (.kept kvs)) ?_ (put_step ko (ga _) (gb _) p2 _ _)
      unfold cnt renv
      have hmi : mi = 0 := hmi
      have oi : ∀ x : Bool, opInt (.d (.bool x)) = some (.int (if x = true then 1 else 0)) := fun x => by cases x <;> rfl
      generalize S0.set b (.kept kvs) = S at io ⊢
      generalize K.over t = o at io ⊢
      cases o <;> cases e <;> simp [hmi, io, eq_int, oi]
  | succ m ih =>
    intro hm mi hmi n t e S hS
    have hS0 := hS
    obtain ⟨kvs, rfl, nd, sub, val⟩ := hS
    have ko : keyOk (.tuple [K.tk t, .int mi, .bool e]) = some (keyOf K t (m + 1) e) := by rw [hmi]; exact keyOk_of h t (m + 1) e
    have st0 : start0 6 [.obj a, .d (K.tk t), .d (.int mi), .d (.bool e)] = renv K a t mi e none none := rfl
    rw [call_Counter_rows]
    unfold b_Counter_rows
    have ni := notin_step ko (ga kvs) (gb kvs) none none
    by_cases hk : (lookKV kvs (keyOf K t (m + 1) e)).isSome = true
    · obtain ⟨i, hi⟩ := Option.isSome_iff_exists.mp hk
      have hv := val t (m + 1) e i hi
      subst hv
      refine ⟨_, runFn_ret ?_, hS0⟩
      rw [st0]
      rw [hk] at ni
      exact seq_go (by simp only [x_sIf, ni]; rfl) (get_step ko (ga kvs) (gb kvs) hi none none)
    · have hk : (lookKV kvs (keyOf K t (m + 1) e)).isSome = false := by simpa using hk
      rw [hk] at ni
      have nx := h.next (n + m + 1) t (S0.set b (.kept kvs))
      obtain ⟨S2, cr, hS2⟩ := compRun_st (t := .n 5) (elt := eMeth (callN tbl (n + (m + 1) + c)) 1 51 (eVar 0) (aCons (eCall (callN tbl (n + (m + 1) + c)) 46 (aCons (eVar 1) (aCons (eVar 5) (aNil))) []) (aCons (eBin opSub (eVar 2) (eC (.int 1))) (aCons (eVar 3) (aNil))))) (ρ := renv K a t mi e none none) (CI K S0 b) (fun x : List Int × T => iT x.1) (fun x => .int (cnt K m x.2 e)) (K.nxt t) (S0.set b (.kept kvs)) hS0 (fun x hx S hS => by
        have af := h.after (n + (m + 1)) t x S hx
        obtain ⟨S', r1, r2⟩ := ih (by omega) (mi - 1) (by omega) n x.2 e S hS
        have ga' : S[a]? = some (.inst 1 [.obj b]) := by
          obtain ⟨kvs', rfl, _⟩ := hS
          exact ga kvs'
        rw [show n + m + c + 1 = n + (m + 1) + c by omega] at r1
        refine ⟨_, S', rfl, ?_, r2⟩
        unfold renv
        simp [ga', af, r1])
      have hS2' := hS2
      obtain ⟨kvs2, rfl, nd2, sub2, val2⟩ := hS2
      obtain ⟨p1, p2, p3⟩ := hS2'.put h hb t (m := m + 1) (by omega) e
      refine ⟨_, runFn_ret ?_, p1⟩
      rw [st0]
      refine seq_go (ρ1 := renv K a t mi e (some (.d (.int (cnt K (m + 1) t e)))) none) (S1 := S0.set b (.kept (putKV kvs2 (keyOf K t (m + 1) e) (cnt K (m + 1) t e)))) ?_ (get_step ko (ga _) (gb _) p3 _ _)
      simp only [x_sIf, ni]
      refine seq_go (ρ1 := renv K a t mi e (some (.d (.int (cnt K (m + 1) t e)))) none) (S1 := S0.set b (.kept kvs2)) ?_ (put_step ko (ga _) (gb _) p2 _ _)
      unfold cnt
      have hmi0 : ¬ mi = 0 := by omega
      have es : (K.nxt t).map (fun x => PyData.int (cnt K m x.2 e)) = ((K.nxt t).map fun x => cnt K m x.2 e).map PyData.int := by rw [List.map_map]; rfl
      rw [es] at cr
      rw [show n + m + 1 + c = n + (m + 1) + c by omega] at nx
      generalize (K.nxt t).map (fun x => cnt K m x.2 e) = Z at cr ⊢
      generalize (K.nxt t).map (fun x => iT x.1) = Y at nx cr
      unfold renv at cr ⊢
      simp [eq_int, hmi0, nx, cr, intsD_map]
end
/-- a new counter -/
theorem made (n : Nat) (S : Store) : callN tbl (n + 1) 50 [.obj S.length] (S ++ [.inst 1 []]) = some (.d .none, S ++ [.inst 1 [.obj (S.length + 1)], .kept []]) := by
  rw [call_Counter_init]
  unfold b_Counter_init runFn
  have g0 : (S ++ ([.inst 1 [], .kept []] : Store))[S.length]? = some (.inst 1 []) := by
    rw [List.getElem?_append_right (Nat.le_refl _), Nat.sub_self]; rfl
  have s0 : ∀ x y z : Ob, (S ++ [x, z]).set S.length y = S ++ [y, z] := fun x y z => by
    rw [List.set_append_right _ _ (Nat.le_refl _), Nat.sub_self]; rfl
  simp only [sFldSet, x_var, start0, x_keptNew]
  simp [g0, MP.putAt, s0]
def mkS (S : Store) : Store := S ++ [.inst 1 [.obj (S.length + 1)], .kept []]
section
variable {T : Type} {K : Tk T} {c : Nat}
theorem CI.zero (S : Store) : CI K (mkS S) (S.length + 1) (mkS S) := by
  refine ⟨[], ?_, List.nodup_nil, ?_, ?_⟩
  rotate_left
  · intro k hk
    cases hk
  · intro t m e i hi
    cases hi
  unfold mkS
  rw [List.set_append_right _ _ (by omega), show S.length + 1 - S.length = 1 by omega]
  rfl
theorem CI.tail {S S' : Store} (h : CI K (mkS S) (S.length + 1) S') : ∃ X, S' = S ++ X := by
  obtain ⟨kvs, rfl, _⟩ := h
  unfold mkS
  rw [List.set_append_right _ _ (by omega)]
  exact ⟨_, rfl⟩
theorem rowsN (h : TkOk K c) (S0 : Store) {m : Nat} (hm : m < 10) {mi : Int} (hmi : mi = m) (n : Nat) (t : T) (e : Bool) (S : Store) (hS : CI K (mkS S0) (S0.length + 1) S) :
    ∃ S', callN tbl (n + m + c + 1) 51 [.obj S0.length, .d (K.tk t), .d (.int mi), .d (.bool e)] S = some (.d (.int (cnt K m t e)), S') ∧ CI K (mkS S0) (S0.length + 1) S' := by
  refine rows h (a := S0.length) (by omega) (by unfold mkS; simp) ?_ m hm mi hmi n t e S hS
  unfold mkS
  rw [List.getElem?_append_right (Nat.le_refl _), Nat.sub_self]; rfl
theorem count (h : TkOk K c) {m : Nat} (hm : m < 10) {mi : Int} (hmi : mi = m) (n : Nat) (t : T) (e : Bool) (S : Store) : ∃ X, callN tbl (n + m + c + 2) 52 [.d (K.tk t), .d (.int mi), .d (.bool e)] S = some (.d (.int (cnt K m t e)), S ++ X) := by
  obtain ⟨S', r1, r2⟩ := rowsN h S hm hmi n t e (mkS S) (CI.zero S)
  obtain ⟨X, rfl⟩ := r2.tail
  refine ⟨X, ?_⟩
  have mk := made (n + m + c) S
  have g0 : (S ++ ([.inst 1 [.obj (S.length + 1)], .kept []] : Store))[S.length]? = some (.inst 1 [.obj (S.length + 1)]) := by
    rw [List.getElem?_append_right (Nat.le_refl _), Nat.sub_self]; rfl
  unfold mkS at r1
  rw [call_count]
  unfold b_count
  refine runFn_ret ?_
  simp [start0, mk, g0, r1]
end
end K58
set_option Elab.async false
set_option linter.all false
set_option maxRecDepth 20000
namespace K58
open PySem L2 MP
/-! The n-th row, and a row's number. -/
section
variable {T : Type} {K : Tk T} {c : Nat}
theorem rowsL (h : TkOk K c) (N : Nat) (S0 : Store) {m : Nat} (hm : m < 10) {mi : Int} (hmi : mi = m) (t : T) (e : Bool) (S : Store) (hS : CI K (mkS S0) (S0.length + 1) S) :
    ∃ S', callN tbl (N + c + 11) 51 [.obj S0.length, .d (K.tk t), .d (.int mi), .d (.bool e)] S = some (.d (.int (cnt K m t e)), S') ∧ CI K (mkS S0) (S0.length + 1) S' := by
  have := rowsN h S0 hm hmi (N + 10 - m) t e S hS
  rwa [show N + 10 - m + m + c + 1 = N + c + 11 by omega] at this
theorem nextL (h : TkOk K c) (N : Nat) (t : T) (S : Store) : callN tbl (N + c + 11) 44 [.d (K.tk t)] S = some (.d (.list ((K.nxt t).map fun x => iT x.1)), S) := by
  have := h.next (N + 11) t S
  rwa [show N + 11 + c = N + c + 11 by omega] at this
theorem afterL (h : TkOk K c) (N : Nat) (t : T) {x : List Int × T} (hx : x ∈ K.nxt t) (S : Store) : callN tbl (N + c + 11) 46 [.d (K.tk t), .d (iT x.1)] S = some (.d (K.tk x.2), S) := by
  have := h.after (N + 11) t x S hx
  rwa [show N + 11 + c = N + c + 11 by omega] at this
theorem CI.inst {S0 S : Store} (hS : CI K (mkS S0) (S0.length + 1) S) : S[S0.length]? = some (.inst 1 [.obj (S0.length + 1)]) := by
  obtain ⟨kvs, rfl, _⟩ := hS
  rw [List.getElem?_set_ne (by omega)]
  unfold mkS
  rw [List.getElem?_append_right (Nat.le_refl _), Nat.sub_self]; rfl
def pick (K : Tk T) (m : Nat) (e : Bool) : List (List Int × T) → Int → Option ((List Int × T) × Int)
  | [], _ => none
  | x :: l, v => if v < cnt K m x.2 e then some (x, v) else pick K m e l (v - cnt K m x.2 e)
def nthA (K : Tk T) (e : Bool) : Nat → T → Int → Option (List (List Int))
  | 0, _, _ => some []
  | m + 1, t, v => match pick K m e (K.nxt t) v with
    | some (x, v') => (nthA K e m x.2 v').map (x.1 :: ·)
    | none => none
def nenv (K : Tk T) (a : Nat) (e : Bool) (many : Int) (t : T) (v : Int) (row : List (List Int)) (j6 j7 j8 : Option Val) : MP.Env :=
  [some (.d (K.tk t)), some (.d (.int many)), some (.d (.int v)), some (.d (.bool e)), some (.obj a), some (.d (.tuple (row.map iT))), j6, j7, j8]
theorem pick_loop (h : TkOk K c) (N : Nat) (S0 : Store) (e : Bool) {m : Nat} (hm : m < 10) {many : Int} {row : List (List Int)} (hmi : many - row.length - 1 = m) (t : T) : ∀ (l : List (List Int × T)) (v : Int) (j6 j7 j8 : Option Val) (S : Store), (∀ x ∈ l, x ∈ K.nxt t) → CI K (mkS S0) (S0.length + 1) S → ∀ (x : List Int × T) (v' : Int), pick K m e l v = some (x, v') →
    ∃ j8' S', forRun (.n 6) (l0_nth (callN tbl (N + c + 11))) (l.map fun x => iT x.1) (nenv K S0.length e many t v row j6 j7 j8) S = some (.nx (nenv K S0.length e many t v' row (some (.d (iT x.1))) (some (.d (K.tk x.2))) j8') S') ∧ CI K (mkS S0) (S0.length + 1) S' ∧ x ∈ l
  | [], _, _, _, _, _, _, _, _, _, hp => by cases hp
  | y :: l, v, j6, j7, j8, S, hl, hS, x, v', hp => by
    unfold pick at hp
    have hy := hl y List.mem_cons_self
    have af := afterL h N t hy S
    obtain ⟨S1, r1, r2⟩ := rowsL h N S0 hm hmi y.2 e S hS
    have gi := hS.inst
    rw [List.map_cons]
    unfold forRun
    by_cases hv : v < cnt K m y.2 e
    · rw [if_pos hv] at hp
      cases hp
      refine ⟨some (.d (.int (cnt K m y.2 e))), S1, ?_, r2, List.mem_cons_self⟩
      unfold l0_nth nenv
      simp [af, gi, r1, hv]
    · rw [if_neg hv] at hp
      obtain ⟨j8', S', q1, q2, q3⟩ := pick_loop h N S0 e hm hmi t l _ (some (.d (iT y.1))) (some (.d (K.tk y.2))) (some (.d (.int (cnt K m y.2 e)))) S1 (fun z hz => hl z (List.mem_cons_of_mem _ hz)) r2 x v' hp
      refine ⟨j8', S', ?_, q2, List.mem_cons_of_mem _ q3⟩
      rw [← q1]
      unfold l0_nth nenv
      simp [af, gi, r1, hv]
theorem nth_loop (h : TkOk K c) (N : Nat) (S0 : Store) (e : Bool) {many : Int} : ∀ (m : Nat), m < 10 → ∀ (fuel : Nat) (row : List (List Int)) (t : T) (v : Int) (j6 j7 j8 : Option Val) (S : Store) (r : List (List Int)), m + 1 ≤ fuel → many = (row.length : Int) + m → row.length + m ≤ 1000 → CI K (mkS S0) (S0.length + 1) S → nthA K e m t v = some r →
    ∃ t' v' j6' j7' j8' S', whileRun (eBin opLt (eU opLen (eVar 5)) (eVar 1)) (l1_nth (callN tbl (N + c + 11))) fuel (nenv K S0.length e many t v row j6 j7 j8) S = some (.nx (nenv K S0.length e many t' v' (row ++ r) j6' j7' j8') S') ∧ CI K (mkS S0) (S0.length + 1) S'
  | 0, _, fuel + 1, row, t, v, j6, j7, j8, S, r, _, hmn, _, hS, hr => by
    cases hr
    refine ⟨t, v, j6, j7, j8, S, ?_, hS⟩
    rw [List.append_nil]
    have hlt : ¬ (row.length : Int) < many := by omega
    rw [whileRun]
    simp [nenv, hlt]
  | m + 1, hm, fuel + 1, row, t, v, j6, j7, j8, S, r, hf, hmn, hz, hS, hr => by
    unfold nthA at hr
    cases hp : pick K m e (K.nxt t) v with
    | none => rw [hp] at hr; cases hr
    | some y =>
      obtain ⟨x, v'⟩ := y
      rw [hp] at hr
      simp only at hr
      cases hr2 : nthA K e m x.2 v' with
      | none => rw [hr2] at hr; cases hr
      | some r' =>
        rw [hr2] at hr
        cases hr
        obtain ⟨k8, S1, q1, q2, _⟩ := pick_loop h N S0 e (m := m) (by omega) (many := many) (row := row) (by omega) t (K.nxt t) v j6 j7 j8 S (fun _ hx => hx) hS x v' hp
        obtain ⟨t', w', j6', j7', j8', S2, p1, p2⟩ := nth_loop h N S0 e (many := many) m (by omega) fuel (row ++ [x.1]) x.2 v' (some (.d (iT x.1))) (some (.d (K.tk x.2))) k8 S1 r' (by omega) (by rw [List.length_append, List.length_singleton]; omega) (by rw [List.length_append, List.length_singleton]; omega) q2 hr2
        refine ⟨t', w', j6', j7', j8', S2, ?_, p2⟩
        rw [show row ++ x.1 :: r' = row ++ [x.1] ++ r' by simp]
        rw [← p1, whileRun]
        have hlt : (row.length : Int) < many := by omega
        have nx := nextL h N t S
        have ht : eBin opLt (eU opLen (eVar 5)) (eVar 1) (nenv K S0.length e many t v row j6 j7 j8) S = some (.d (.bool true), S) := by simp [nenv, hlt]
        have hb : l1_nth (callN tbl (N + c + 11)) (nenv K S0.length e many t v row j6 j7 j8) S = some (.nx (nenv K S0.length e many x.2 v' (row ++ [x.1]) (some (.d (iT x.1))) (some (.d (K.tk x.2))) k8) S1) := by
          unfold l1_nth
          generalize (K.nxt t).map (fun x => iT x.1) = Y at nx q1
          have hz2 : row.length + 1 ≤ 1000000 := by omega
          refine seq_go (ρ1 := nenv K S0.length e many t v' row (some (.d (iT x.1))) (some (.d (K.tk x.2))) k8) (S1 := S1) ?_ ?_
          · rw [← q1]
            have e1 : ∀ j, sSq (eCall (callN tbl (N + c + 11)) 44 (aCons (eVar 0) (aNil)) []) (nenv K S0.length e many t v row j6 j7 j) S = some (Y, S) := fun j => by simp [nenv, nx]
            simp only [x_for, e1]
          · unfold nenv
            simp [sAugT, hz2]
        simp only [ht, hb]
theorem nth (h : TkOk K c) (N : Nat) (e : Bool) {m : Nat} (hm : m < 10) {mi : Int} (hmi : mi = m) (t : T) {v : Int} (h0 : 0 ≤ v) (h1 : v < cnt K m t e) {r : List (List Int)} (hr : nthA K e m t v = some r) (S : Store) :
    ∃ X, callN tbl (N + c + 12) 53 [.d (K.tk t), .d (.int mi), .d (.int v), .d (.bool e)] S = some (.d (.tuple (r.map iT)), S ++ X) := by
  have mk := made (N + c + 10) S
  obtain ⟨S1, r1, r2⟩ := rowsL h N S hm hmi t e (mkS S) (CI.zero S)
  obtain ⟨t', w', j6', j7', j8', S2, p1, p2⟩ := nth_loop h N S e (many := mi) m hm 1000 [] t v none none none S1 r (by omega) (by simpa using hmi) (by simp; omega) r2 hr
  obtain ⟨X, rfl⟩ := p2.tail
  refine ⟨X, ?_⟩
  rw [call_nth]
  unfold b_nth
  refine runFn_ret ?_
  have g0 := (CI.zero (K := K) S).inst
  refine seq_go (ρ1 := [some (.d (K.tk t)), some (.d (.int mi)), some (.d (.int v)), some (.d (.bool e)), some (.obj S.length), none, none, none, none]) (S1 := mkS S) (by
    unfold mkS
    simp [start0, mk]) ?_
  refine seq_go (ρ1 := [some (.d (K.tk t)), some (.d (.int mi)), some (.d (.int v)), some (.d (.bool e)), some (.obj S.length), none, none, none, none]) (S1 := S1) (by
    generalize mkS S = M at g0 r1
    have ch : eChain opLe opLt (eC (.int 0)) (eVar 2) (eMeth (callN tbl (N + c + 11)) 1 51 (eVar 4) (aCons (eVar 0) (aCons (eVar 1) (aCons (eVar 3) (aNil))))) [some (.d (K.tk t)), some (.d (.int mi)), some (.d (.int v)), some (.d (.bool e)), some (.obj S.length), none, none, none, none] M = some (.d (.bool true), S1) := by
      unfold eChain
      simp [h0, h1, g0, r1]
    simp [ch]) ?_
  refine seq_go (ρ1 := nenv K S.length e mi t v [] none none none) (S1 := S1) (by simp [nenv]) ?_
  refine seq_go (ρ1 := nenv K S.length e mi t' w' ([] ++ r) j6' j7' j8') (S1 := S ++ X) p1 ?_
  simp [nenv]
/-! a row's number -/
def sumLt (K : Tk T) (m : Nat) (e : Bool) (s : List Int) : List (List Int × T) → Int
  | [] => 0
  | y :: l => (if HT.lexLt y.1 s then cnt K m y.2 e else 0) + sumLt K m e s l
def numA (K : Tk T) (e : Bool) : List (List Int) → T → Option Int
  | [], _ => some 0
  | s :: r, t => match (K.nxt t).find? fun y => decide (y.1 = s) with
    | none => none
    | some y => (numA K e r y.2).map (sumLt K r.length e s (K.nxt t) + ·)
def oenv (K : Tk T) (a : Nat) (e : Bool) (row : List (List Int)) (t : T) (v : Int) (j5 j6 j7 : Option Val) : MP.Env :=
  [some (.d (K.tk t)), some (.d (.tuple (row.map iT))), some (.d (.bool e)), some (.obj a), some (.d (.int v)), j5, j6, j7]
theorem lt_iT (a b : List Int) : opLt (iT a) (iT b) = some (.bool (HT.lexLt a b)) := by
  unfold iT opLt
  simp only [intsD_map]
theorem sum_loop (h : TkOk K c) (N : Nat) (S0 : Store) (e : Bool) {m : Nat} (hm : m < 10) {row : List (List Int)} {k : Nat} (hmi : (row.length : Int) - k - 1 = m) {s : List Int} (hs : row[k]? = some s) (t : T) (j6 : Option Val) : ∀ (l : List (List Int × T)) (v : Int) (j7 : Option Val) (S : Store), (∀ x ∈ l, x ∈ K.nxt t) → CI K (mkS S0) (S0.length + 1) S →
    ∃ j7' S', forRun (.n 7) (l0_number_of (callN tbl (N + c + 11))) (l.map fun x => iT x.1) (oenv K S0.length e row t v (some (.d (.int k))) j6 j7) S = some (.nx (oenv K S0.length e row t (v + sumLt K m e s l) (some (.d (.int k))) j6 j7') S') ∧ CI K (mkS S0) (S0.length + 1) S'
  | [], v, j7, S, _, hS => ⟨j7, S, by simp [forRun, sumLt], hS⟩
  | y :: l, v, j7, S, hl, hS => by
    have hy := hl y List.mem_cons_self
    have af := afterL h N t hy S
    have gi := hS.inst
    have at1 : L2.atI (row.map iT) (k : Int) = some (iT s) := MP.atI_nat (by rw [List.getElem?_map, hs]; rfl)
    unfold sumLt
    rw [List.map_cons]
    by_cases hlt : HT.lexLt y.1 s = true
    · obtain ⟨S1, r1, r2⟩ := rowsL h N S0 hm hmi y.2 e S hS
      obtain ⟨j7', S', q1, q2⟩ := sum_loop h N S0 e hm hmi hs t j6 l (v + cnt K m y.2 e) (some (.d (iT y.1))) S1 (fun z hz => hl z (List.mem_cons_of_mem _ hz)) r2
      refine ⟨j7', S', ?_, q2⟩
      rw [if_pos hlt, ← Int.add_assoc, ← q1]
      conv => lhs; unfold forRun
      unfold l0_number_of oenv
      simp [at1, lt_iT, hlt, af, gi, r1]
    · obtain ⟨j7', S', q1, q2⟩ := sum_loop h N S0 e hm hmi hs t j6 l v (some (.d (iT y.1))) S (fun z hz => hl z (List.mem_cons_of_mem _ hz)) hS
      refine ⟨j7', S', ?_, q2⟩
      rw [if_neg hlt, Int.zero_add, ← q1]
      conv => lhs; unfold forRun
      have hlt : HT.lexLt y.1 s = false := by simpa using hlt
      unfold l0_number_of oenv
      simp [at1, lt_iT, hlt]
theorem num_loop (h : TkOk K c) (N : Nat) (S0 : Store) (e : Bool) {row : List (List Int)} : ∀ (r : List (List Int)) (k : Nat) (t : T) (v w : Int) (j5 j6 j7 : Option Val) (S : Store), r.length < 10 → row.drop k = r → k + r.length = row.length → CI K (mkS S0) (S0.length + 1) S → numA K e r t = some w →
    ∃ t' j5' j6' j7' S', forRun (.n 5) (l1_number_of (callN tbl (N + c + 11))) ((List.range' k r.length).map fun (i : Nat) => PyData.int (i : Int)) (oenv K S0.length e row t v j5 j6 j7) S = some (.nx (oenv K S0.length e row t' (v + w) j5' j6' j7') S') ∧ CI K (mkS S0) (S0.length + 1) S'
  | [], k, t, v, w, j5, j6, j7, S, _, _, _, hS, hw => by
    cases hw
    exact ⟨t, j5, j6, j7, S, by simp [forRun], hS⟩
  | s :: r, k, t, v, w, j5, j6, j7, S, hr, hd, hk, hS, hw => by
    unfold numA at hw
    rw [List.length_cons] at hr hk
    have hs : row[k]? = some s := by
      have h0 : (row.drop k)[0]? = some s := by rw [hd]; rfl
      rw [List.getElem?_drop] at h0
      exact h0
    have hd2 : row.drop (k + 1) = r := by
      have := congrArg List.tail hd
      rw [List.tail_drop] at this
      exact this
    cases hf : (K.nxt t).find? fun y => decide (y.1 = s) with
    | none => rw [hf] at hw; cases hw
    | some y =>
      rw [hf] at hw
      simp only at hw
      have hy := List.mem_of_find?_eq_some hf
      have hys : y.1 = s := by
        have hq := List.find?_some hf
        exact of_decide_eq_true hq
      cases hn : numA K e r y.2 with
      | none => rw [hn] at hw; cases hw
      | some w' =>
        rw [hn] at hw
        cases hw
        have nx := nextL h N t S
        have at1 : L2.atI (row.map iT) (k : Int) = some (iT s) := MP.atI_nat (by rw [List.getElem?_map, hs]; rfl)
        obtain ⟨k7, S1, q1, q2⟩ := sum_loop h N S0 e (m := r.length) (by omega) (row := row) (k := k) (by omega) hs t (some (.d (.list ((K.nxt t).map fun x => iT x.1)))) (K.nxt t) v j7 S (fun _ hx => hx) hS
        have af := afterL h N t hy S1
        rw [hys] at af
        obtain ⟨t', j5', j6', j7', S', p1, p2⟩ := num_loop h N S0 e r (k + 1) y.2 (v + sumLt K r.length e s (K.nxt t)) w' (some (.d (.int k))) (some (.d (.list ((K.nxt t).map fun x => iT x.1)))) k7 S1 (by omega) hd2 (by omega) q2 hn
        refine ⟨t', j5', j6', j7', S', ?_, p2⟩
        rw [← Int.add_assoc, ← p1, List.length_cons, List.range'_succ, List.map_cons]
        conv => lhs; unfold forRun
        have nin : opNotIn (iT s) (.list ((K.nxt t).map fun x => iT x.1)) = some (.bool false) := by
          have := iT_notMemL s ((K.nxt t).map (·.1))
          rw [List.map_map] at this
          rw [show ((K.nxt t).map fun x => iT x.1) = (K.nxt t).map (iT ∘ fun x => x.1) from rfl, this, decide_eq_true (List.mem_map.mpr ⟨y, hy, hys⟩)]
          rfl
        have hb : l1_number_of (callN tbl (N + c + 11)) (oenv K S0.length e row t v (some (.d (.int k))) j6 j7) S = some (.nx (oenv K S0.length e row y.2 (v + sumLt K r.length e s (K.nxt t)) (some (.d (.int k))) (some (.d (.list ((K.nxt t).map fun x => iT x.1)))) k7) S1) := by
          unfold l1_number_of
          generalize (K.nxt t).map (fun x => iT x.1) = Y at nx q1 nin ⊢
          refine seq_go (ρ1 := oenv K S0.length e row t v (some (.d (.int k))) (some (.d (.list Y))) j7) (S1 := S) (by simp [oenv, nx]) ?_
          refine seq_go (ρ1 := oenv K S0.length e row t v (some (.d (.int k))) (some (.d (.list Y))) j7) (S1 := S) (by simp [oenv, at1, nin]) ?_
          refine seq_go (ρ1 := oenv K S0.length e row t (v + sumLt K r.length e s (K.nxt t)) (some (.d (.int k))) (some (.d (.list Y))) k7) (S1 := S1) (by
            rw [← q1]
            have e1 : sSq (eVar 6) (oenv K S0.length e row t v (some (.d (.int k))) (some (.d (.list Y))) j7) S = some (Y, S) := by simp [oenv]
            simp only [x_for, e1]) ?_
          simp [oenv, at1, af]
        have st : (Tg.n 5).set (PyData.int (k : Int)) (oenv K S0.length e row t v j5 j6 j7) = some (oenv K S0.length e row t v (some (.d (.int k))) j6 j7) := rfl
        simp only [st, hb]
theorem number_of (h : TkOk K c) (N : Nat) {r : List (List Int)} (hr : r.length < 10) (t : T) {w : Int} (hw : numA K false r t = some w) (S : Store) :
    ∃ X, callN tbl (N + c + 12) 54 [.d (K.tk t), .d (.tuple (r.map iT)), .d (.bool false)] S = some (.d (.int w), S ++ X) := by
  have mk := made (N + c + 10) S
  obtain ⟨t', j5', j6', j7', S', p1, p2⟩ := num_loop h N S false (row := r) r 0 t 0 w none none none (mkS S) hr rfl (by omega) (CI.zero S) hw
  obtain ⟨X, rfl⟩ := p2.tail
  refine ⟨X, ?_⟩
  rw [call_number_of]
  unfold b_number_of
  refine runFn_ret ?_
  refine seq_go (ρ1 := [some (.d (K.tk t)), some (.d (.tuple (r.map iT))), some (.d (.bool false)), some (.obj S.length), none, none, none, none]) (S1 := mkS S) (by
    unfold mkS
    simp [start0, mk]) ?_
  refine seq_go (ρ1 := oenv K S.length false r t 0 none none none) (S1 := mkS S) (by simp [oenv]) ?_
  refine seq_go (ρ1 := oenv K S.length false r t' (0 + w) j5' j6' j7') (S1 := S ++ X) (by
    rw [← p1]
    have e1 : sRg1 (eU opLen (eVar 1)) (oenv K S.length false r t 0 none none none) (mkS S) = some ((List.range' 0 r.length).map fun (i : Nat) => PyData.int (i : Int), mkS S) := by
      have hb : -1000000 ≤ (r.length : Int) ∧ (r.length : Int) ≤ 1000000 := by omega
      rw [← List.range_eq_range', ← upFrom_range]
      simp [oenv, hb]
    simp only [x_for, e1]) ?_
  simp [oenv]
end
end K58
set_option Elab.async false
set_option linter.all false
set_option maxRecDepth 20000
namespace K58
open PySem L2 MP
/-! The draws. -/
@[simp] theorem x_slS (ns : List Int) (l h : Option Int) : opSl (.scr ns) l h = some (.list (cutD (ns.map PyData.int) l h)) := rfl
@[simp] theorem x_itemsO (S : Store) (n : Nat) : items S (.obj n) = match S[n]? with
  | some (.cells xs) => some xs
  | _ => none := rfl
theorem x_cell (a i v : Mean) (ρ : MP.Env) (S : Store) : sCell a i v ρ S = match v ρ S with
  | some (.d d, S1) => match a ρ S1 with
    | some (.obj n, S2) => match i ρ S2 with
      | some (.d (.int i), S3) => match S3[n]? with
        | some (.cells xs) => (ixN xs.length i).map fun j => .nx ρ (S3.set n (.cells (xs.set j d)))
        | _ => none
      | _ => none
    | _ => none
  | _ => none := rfl
/-- the pool at a -/
def PoolAt (S : Store) (a : Nat) : Prop := ∃ (cs : List Int) (i : Nat) (x c s : Int), S[a]? = some (.cells [.list (cs.map PyData.int), .int i, .int x, .int c, .int s])
theorem pool (n : Nat) (ns : List Int) (S : Store) : ∃ s : Int, callN tbl (n + 1) 1 [.scr ns] S = some (.obj S.length, S ++ [.cells [.list (ns.map PyData.int), .int 0, .int 0, .int 0, .int s]]) := by
  obtain ⟨ρ2, e, s, j2, rfl⟩ := forRun_ix (t := .n 2) (b := l0__law_pool (callN tbl n)) (S := S) PyData.int (fun k ρ => ∃ s j2, ρ = [some (.scr ns), some (.d (.int s)), j2]) (ns.take 63) 0 [some (.scr ns), some (.d (.int 7)), none] ⟨7, none, rfl⟩ (fun k a ρ hk ⟨s, j2, hρ⟩ => by
    subst hρ
    refine ⟨_, _, rfl, .inl ?_, (s * 31 + a) % 1000003, some (.d (.int a)), rfl⟩
    unfold l0__law_pool
    simp [smallI])
  refine ⟨s, ?_⟩
  rw [call__law_pool]
  unfold b__law_pool runFn
  have c : cutD (ns.map PyData.int) none (some 63) = (ns.take 63).map PyData.int := by
    rw [show (63 : Int) = ((63 : Nat) : Int) from rfl, cut_to, List.map_take]
  simp [start0, eCells, -List.map_take, c, e]
theorem spread (n : Nat) (x : Int) (S : Store) : ∃ z : Int, callN tbl (n + 1) 2 [.d (.int x)] S = some (.d (.int z), S) := by
  obtain ⟨ρ2, e, y, z, j3, rfl⟩ := forRun_ix (t := .n 3) (b := l0__law_spread (callN tbl n)) (S := S) (fun (i : Nat) => PyData.int (i : Int)) (fun k ρ => ∃ y z j3, ρ = [some (.d (.int x)), some (.d (.int y)), some (.d (.int z)), j3]) (List.range 4) 0 [some (.d (.int x)), some (.d (.int (x % 2147483647))), some (.d (.int 1)), none] ⟨_, 1, none, rfl⟩ (fun k a ρ hk ⟨y, z, j3, hρ⟩ => by
    subst hρ
    refine ⟨_, _, rfl, .inl ?_, (y * 48271 + 12345 + a) % 2147483647, z * 2147483647 + (y * 48271 + 12345 + a) % 2147483647, some (.d (.int a)), rfl⟩
    unfold l0__law_spread
    simp [smallI])
  refine ⟨z, ?_⟩
  rw [call__law_spread]
  unfold b__law_spread runFn
  have up : upFrom 0 4 = (List.range 4).map fun (i : Nat) => PyData.int (i : Int) := upFrom_range 4
  generalize (List.range 4).map (fun (i : Nat) => PyData.int (i : Int)) = U at e up
  simp [start0, up, e]
section
variable {x0 x1 x2 x3 x4 : D}
theorem t0 : L2.atI [x0, x1, x2, x3, x4] 0 = some x0 := rfl
theorem t1 : L2.atI [x0, x1, x2, x3, x4] 1 = some x1 := rfl
theorem t2 : L2.atI [x0, x1, x2, x3, x4] 2 = some x2 := rfl
theorem t3 : L2.atI [x0, x1, x2, x3, x4] 3 = some x3 := rfl
theorem t4 : L2.atI [x0, x1, x2, x3, x4] 4 = some x4 := rfl
end
theorem y1 : ixN 5 1 = some 1 := rfl
theorem y2 : ixN 5 2 = some 2 := rfl
theorem y3 : ixN 5 3 = some 3 := rfl
def pl (cs : List Int) (i x c s : Int) : Ob := .cells [.list (cs.map PyData.int), .int i, .int x, .int c, .int s]
theorem draw (n : Nat) {many : Int} (h0 : 0 < many) (h1 : many < 1073741824) (S : Store) {a : Nat} (hp : PoolAt S a) : ∃ (v : Int) (S' : Store), callN tbl (n + 2) 3 [.obj a, .d (.int many)] S = some (.d (.int v), S') ∧ 0 ≤ v ∧ v < many ∧ PoolAt S' a ∧ S'.length = S.length := by
  obtain ⟨cs, i, x, c, s, hS⟩ := hp
  obtain ⟨hl, hg⟩ := List.getElem?_eq_some_iff.mp hS
  have hse : S.set a (pl cs i x c s) = S := by
    apply List.ext_getElem?
    intro k
    by_cases hk : a = k
    · subst hk
      rw [List.getElem?_set_self hl, hS]
      rfl
    · rw [List.getElem?_set_ne hk]
  -- what stands behind the first test
  have first : ∃ (i' : Nat) (x' : Int) (j2 : Option Val), sIf (eAnd (eBin opLe (eIx (eVar 0) (eC (.int 2))) (eC (.int 0))) (eBin opLt (eIx (eVar 0) (eC (.int 1))) (eU opLen (eIx (eVar 0) (eC (.int 0)))))) (sSeq (sSet 2 (eIx (eIx (eVar 0) (eC (.int 0))) (eIx (eVar 0) (eC (.int 1))))) (sSeq (sCell (eVar 0) (eC (.int 1)) (eBin opAdd (eIx (eVar 0) (eC (.int 1))) (eC (.int 1)))) (sSeq (sCell (eVar 0) (eC (.int 2)) (eVar 2)) (sIf (eBin opLt (eVar 2) (eC (.int 1000000000000000000))) (sCell (eVar 0) (eC (.int 2)) (eCall (callN tbl (n + 1)) 2 (aCons (eVar 2) (aNil)) [])) (sSkip))))) (sSkip)
      [some (.obj a), some (.d (.int many)), none, none, none] S = some (.nx [some (.obj a), some (.d (.int many)), j2, none, none] (S.set a (pl cs i' x' c s))) := by
    by_cases hx : x ≤ 0
    · by_cases hi : i < cs.length
      · have at0 : L2.atI (cs.map PyData.int) (i : Int) = some (.int cs[i]) := MP.atI_nat (by rw [List.getElem?_map, List.getElem?_eq_getElem hi]; rfl)
        obtain ⟨z, hz⟩ := spread n cs[i] (S.set a (pl cs (i + 1) cs[i] c s))
        unfold pl at hz
        by_cases hc : cs[i] < 1000000000000000000
        · refine ⟨i + 1, z, some (.d (.int cs[i])), ?_⟩
          simp [x_cell, hg, hl, t0, t1, t2, t3, t4, y1, y2, y3, at0, hx, hi, hz, hc, pl]
        · refine ⟨i + 1, cs[i], some (.d (.int cs[i])), ?_⟩
          simp [x_cell, hg, hl, t0, t1, t2, t3, t4, y1, y2, y3, at0, hx, hi, hz, hc, pl]
      · refine ⟨i, x, none, ?_⟩
        rw [hse]
        simp [x_cell, hg, hl, t0, t1, t2, t3, t4, hx, hi]
    · refine ⟨i, x, none, ?_⟩
      rw [hse]
      simp [x_cell, hg, hl, t0, t1, t2, t3, t4, hx]
  obtain ⟨i', x', j2, e⟩ := first
  have em : (0 : Int) ≤ 5 := by omega
  have v1 : ∀ y : Int, 0 ≤ y % many ∧ y % many < many := fun y => ⟨Int.emod_nonneg _ (by omega), Int.emod_lt_of_pos _ h0⟩
  have hl2 : ∀ o : Ob, a < (S.set a o).length := fun o => by rw [List.length_set]; exact hl
  have se : start0 5 [.obj a, .d (.int many)] = [some (.obj a), some (.d (.int many)), none, none, none] := rfl
  by_cases hx : x' ≤ 0
  · refine ⟨((((s * 48271 + (c + 1) * 69621 + 1) % 2147483647) * 16807 + (c + 1)) % 2147483629 / 5) % many, S.set a (pl cs i' x' (c + 1) s), ?_, (v1 _).1, (v1 _).2, ⟨cs, i', x', c + 1, s, List.getElem?_set_self hl⟩, by rw [List.length_set]⟩
    rw [call__law_draw]
    unfold b__law_draw runFn
    rw [se, sSeq_nx e]
    simp [x_cell, hl, t0, t1, t2, t3, t4, y1, y2, y3, pl, hx, smallI, h0]
  · refine ⟨x' % many, S.set a (pl cs i' (x' / many) (c + 1) s), ?_, (v1 _).1, (v1 _).2, ⟨cs, i', x' / many, c + 1, s, List.getElem?_set_self hl⟩, by rw [List.length_set]⟩
    rw [call__law_draw]
    unfold b__law_draw runFn
    rw [se, sSeq_nx e]
    simp [x_cell, hl, t0, t1, t2, t3, t4, y1, y2, y3, pl, hx, h0, h1]
end K58
set_option Elab.async false
set_option linter.all false
set_option maxRecDepth 20000
namespace K58
open PySem L2 MP
/-! The shuffle; what the law compares. -/
theorem ne_nil (ds : List D) : opNe (.list ds) (.list []) = some (.bool (!ds.isEmpty)) := by
  show (if okD (.list []) || okD (.list ds) then some (PyData.bool (!PyData.eqv (.list ds) (.list []))) else none) = _
  have h : okD (.list []) = true := by simp [okD, PyData.depth, PyData.depthAll]
  rw [h]
  cases ds <;> simp [PyData.eqv, PyData.eqvAll]
theorem er_map {α β : Type} (f : α → β) : ∀ (l : List α) (j : Nat), (l.map f).eraseIdx j = (l.eraseIdx j).map f
  | [], j => by simp
  | x :: l, 0 => by simp
  | x :: l, j + 1 => by simp [er_map f l j]
theorem er_perm {α : Type} : ∀ (l : List α) (j : Nat) (h : j < l.length), (l[j] :: l.eraseIdx j).Perm l
  | x :: l, 0, _ => by simp
  | x :: l, j + 1, h => by
    have ih := er_perm l j (by simpa using h)
    simp only [List.getElem_cons_succ, List.eraseIdx_cons_succ]
    exact (List.Perm.swap _ _ _).trans (List.Perm.cons _ ih)
def shenv (a : Nat) (items left found : List Int) : MP.Env := [some (.obj a), some (.d (.list (items.map PyData.int))), some (.d (.list (left.map PyData.int))), some (.d (.list (found.map PyData.int)))]
theorem shuf_loop (n : Nat) (a : Nat) (items : List Int) : ∀ (k : Nat) (left found : List Int) (S : Store) (fuel : Nat), left.length = k → k + 1 ≤ fuel → k ≤ 1000 → found.length + k ≤ 1000 → PoolAt S a →
    ∃ (res : List Int) (S' : Store), whileRun (eBin opNe (eVar 2) (eLst (aNil))) (l0__law_shuffled (callN tbl (n + 2))) fuel (shenv a items left found) S = some (.nx (shenv a items [] res) S') ∧ res.Perm (found ++ left) ∧ PoolAt S' a ∧ S'.length = S.length
  | 0, left, found, S, fuel + 1, hk, hf, hb, hb2, hp => by
    have : left = [] := List.eq_nil_of_length_eq_zero hk
    subst this
    refine ⟨found, S, ?_, by rw [List.append_nil], hp, rfl⟩
    rw [whileRun]
    simp [shenv, ne_nil]
  | k + 1, left, found, S, fuel + 1, hk, hf, hb, hb2, hp => by
    obtain ⟨v, S1, e, v0, v1, hp1, hl1⟩ := draw n (many := (left.length : Int)) (by omega) (by omega) S hp
    obtain ⟨j, rfl⟩ : ∃ j : Nat, v = (j : Int) := ⟨v.toNat, by omega⟩
    have hj : j < left.length := by omega
    have ix : ixN (left.map PyData.int).length (j : Int) = some j := MP.ixN_nat (by rw [List.length_map]; exact hj)
    have gj : (left.map PyData.int)[j]? = some (.int left[j]) := by rw [List.getElem?_map, List.getElem?_eq_getElem hj]; rfl
    have f1 : (found.map PyData.int).length < 1000000 := by rw [List.length_map]; omega
    have f2 : (left.map PyData.int).length ≤ 1000000 := by rw [List.length_map]; omega
    have body : l0__law_shuffled (callN tbl (n + 2)) (shenv a items left found) S = some (.nx (shenv a items (left.eraseIdx j) (found ++ [left[j]])) S1) := by
      unfold l0__law_shuffled sPopApp
      have ev : eCall (callN tbl (n + 2)) 3 (aCons (eVar 0) (aCons (eU opLen (eVar 2)) (aNil))) [] (shenv a items left found) S = some (.d (.int j), S1) := by
        simp [shenv, e]
      rw [ev]
      have r3 : (shenv a items left found).getD 3 none = some (.d (.list (found.map PyData.int))) := rfl
      have r2 : (shenv a items left found).getD 2 none = some (.d (.list (left.map PyData.int))) := rfl
      simp only [r3, r2, f1, f2, if_true, ix, gj]
      unfold shenv
      simp [er_map]
    have tst : eBin opNe (eVar 2) (eLst (aNil)) (shenv a items left found) S = some (.d (.bool true), S) := by
      have : left.isEmpty = false := by cases left <;> simp_all
      simp [shenv, ne_nil, this]
    have hlen : (left.eraseIdx j).length = k := by rw [List.length_eraseIdx, if_pos hj]; omega
    obtain ⟨res, S2, e2, pm, hp2, hl2⟩ := shuf_loop n a items k (left.eraseIdx j) (found ++ [left[j]]) S1 fuel hlen (by omega) (by omega) (by simp; omega) hp1
    refine ⟨res, S2, ?_, ?_, hp2, hl2.trans hl1⟩
    · rw [whileRun]
      simp only [tst, body]
      exact e2
    · refine pm.trans ?_
      rw [List.append_assoc]
      exact List.Perm.append_left _ (er_perm left j hj)
theorem shuffled (n : Nat) (a : Nat) (items : List Int) (hz : items.length < 100) (S : Store) (hp : PoolAt S a) : ∃ (res : List Int) (S' : Store), callN tbl (n + 3) 4 [.obj a, .d (.list (items.map PyData.int))] S = some (.d (.list (res.map PyData.int)), S') ∧ res.Perm items ∧ PoolAt S' a ∧ S'.length = S.length := by
  obtain ⟨res, S', e, pm, hp', hl⟩ := shuf_loop n a items items.length items [] S 100 rfl (by omega) (by omega) (by simp; omega) hp
  refine ⟨res, S', ?_, by simpa using pm, hp', hl⟩
  rw [call__law_shuffled]
  unfold b__law_shuffled runFn
  simp only [shenv, List.map_nil] at e
  simp [start0, sWhile, e, shenv]
theorem two_roles {res : List Int} (h : res.Perm [0, 1, 2, 3]) : ∃ (p q : Nat) (r : List Int), p < 4 ∧ q < 4 ∧ p ≠ q ∧ res = (p : Int) :: (q : Int) :: r := by
  have hl := h.length_eq
  match res, hl with
  | x :: y :: r, _ =>
    have hx : x ∈ ([0, 1, 2, 3] : List Int) := h.mem_iff.mp List.mem_cons_self
    have hy : y ∈ ([0, 1, 2, 3] : List Int) := h.mem_iff.mp (List.mem_cons_of_mem _ List.mem_cons_self)
    have nd : (x :: y :: r).Nodup := h.nodup_iff.mpr (by decide)
    have hne : x ≠ y := fun e => by
      subst e
      exact (List.nodup_cons.mp nd).1 List.mem_cons_self
    simp only [List.mem_cons, List.not_mem_nil, or_false] at hx hy
    refine ⟨x.toNat, y.toNat, r, by omega, by omega, fun e => hne (by omega), ?_⟩
    rw [show (x.toNat : Int) = x by omega, show (y.toNat : Int) = y by omega]
/-! _law_same of a datum with itself -/
theorem same_seq (n : Nat) (d : D) (ds : List D) (hd : d = .list ds ∨ d = .tuple ds) (hz : ds.length ≤ 1000) (S : Store) (ih : ∀ x ∈ ds, callN tbl n 0 [.d x, .d x] S = some (.d (.bool true), S)) : callN tbl (n + 1) 0 [.d d, .d d] S = some (.d (.bool true), S) := by
  rw [call__law_same]
  unfold b__law_same runFn
  have it : ∀ S : Store, items S (.d d) = some ds := fun S => by rcases hd with rfl | rfl <;> rfl
  have ln : opLen (.d d) = some (.int ds.length) := by rcases hd with rfl | rfl <;> rfl
  have nb : ∀ c : Bool, opNe (.bool c) (.bool c) = some (.bool false) := fun c => by simp [opNe, okD, PyData.depth, PyData.eqv]
  have b1 : -1000000 ≤ (ds.length : Int) ∧ (ds.length : Int) ≤ 1000000 := by omega
  have at1 : ∀ i (h : i < ds.length), L2.atI ds (i : Int) = some ds[i] := fun i h => MP.atI_nat (List.getElem?_eq_getElem h)
  have cr : compRun (.n 2) (eNot (eCall (callN tbl n) 0 (aCons (eIx (eVar 0) (eVar 2)) (aCons (eIx (eVar 1) (eVar 2)) (aNil))) [])) (eVar 2) [some (.d d), some (.d d), none] ((List.range ds.length).map fun (i : Nat) => PyData.int (i : Int)) S = some ([], S) := by
    rw [compRun_of (fun (i : Nat) => PyData.int (i : Int)) (fun _ => false) (fun _ => .none)]
    · simp
    · intro i hi
      rw [List.mem_range] at hi
      refine ⟨_, rfl, ?_, fun z => by cases z⟩
      simp [it, at1 i hi, ih _ (List.getElem_mem hi)]
  have is1 : (isiD d "tuple" = true) ∨ (isiD d "tuple" = false ∧ isiD d "list" = true) := by
    rcases hd with rfl | rfl
    · exact .inr ⟨rfl, rfl⟩
    · exact .inl rfl
  rcases is1 with h | ⟨h1, h2⟩
  · simp [start0, h, nb, ln, ne_int, b1, upFrom_range, cr, eq_int]
  · simp [start0, h1, h2, nb, ln, ne_int, b1, upFrom_range, cr, eq_int]
theorem same_int (n : Nat) (x y : Int) (S : Store) : callN tbl (n + 1) 0 [.d (.int x), .d (.int y)] S = some (.d (.bool (decide (x = y))), S) := by
  have a1 : isiD (.int y) "tuple" = false := by rfl
  have a2 : isiD (.int y) "list" = false := by rfl
  have a3 : isiD (.int y) "bool" = false := by rfl
  have a4 : isiD (.int x) "bool" = false := by rfl
  have a5 : isiD (.int y) "int" = true := by rfl
  have a6 : isiD (.int x) "int" = true := by rfl
  rw [call__law_same]
  unfold b__law_same runFn
  simp [start0, a1, a2, a3, a4, a5, a6, eq_int]
theorem same_self : ∀ (k n : Nat) (d : D) (S : Store), d.depth ≤ k → sk d = true → callN tbl (n + k + 1) 0 [.d d, .d d] S = some (.d (.bool true), S)
  | k, n, .int i, S, _, _ => by
    have := same_int (n + k) i i S
    rwa [decide_eq_true rfl] at this
  | k, n, .none, S, _, _ => by
    have a1 : isiD (.none) "tuple" = false := rfl
    have a2 : isiD (.none) "list" = false := rfl
    rw [call__law_same]
    unfold b__law_same runFn
    simp [start0, a1, a2]
  | k, n, .str x, S, _, _ => by
    have a1 : isiD (.str x) "tuple" = false := rfl
    have a2 : isiD (.str x) "list" = false := rfl
    have a3 : isiD (.str x) "bool" = false := rfl
    have a4 : isiD (.str x) "int" = false := rfl
    have a5 : isiD (.str x) "str" = true := rfl
    rw [call__law_same]
    unfold b__law_same runFn
    simp [start0, a1, a2, a3, a4, a5, eq_str]
  | 0, n, .list ds, S, h, _ => by simp [PyData.depth] at h
  | k + 1, n, .list ds, S, h, hk => by
    simp only [sk, Bool.and_eq_true, decide_eq_true_eq] at hk
    simp only [PyData.depth] at h
    exact same_seq (n + k + 1) _ ds (.inl rfl) hk.1 S fun x hx => same_self k n x S (by have := depthAll_mem hx; omega) (sks_mem hk.2 hx)
  | 0, n, .tuple ds, S, h, _ => by simp [PyData.depth] at h
  | k + 1, n, .tuple ds, S, h, hk => by
    simp only [sk, Bool.and_eq_true, decide_eq_true_eq] at hk
    simp only [PyData.depth] at h
    exact same_seq (n + k + 1) _ ds (.inr rfl) hk.1 S fun x hx => same_self k n x S (by have := depthAll_mem hx; omega) (sks_mem hk.2 hx)
  | k, n, .bool _, S, _, h => by simp [sk] at h
  | k, n, .dict _, S, _, h => by simp [sk] at h
end K58
set_option Elab.async false
set_option linter.all false
set_option maxRecDepth 20000
namespace K58
open PySem L2 MP
/-! What two loops beside each other reach by letters. -/
theorem ms2' {α : Type} (le : α → α → Bool) (a b : α) : [a,b].mergeSort le = if le a b then [a,b] else [b,a] := by
  simp [List.mergeSort, List.merge, List.MergeSort.Internal.splitInTwo]
theorem le_q {x y : Qe} (h : x.a ≠ y.a) : PySem.W.dataLe false id x.d y.d = decide (x.a < y.a) := by
  rw [PySem.W.dataLe_eq]
  show (!PySem.W.dataLt y.d x.d) = _
  unfold Qe.d
  rw [PySem.W.dataLt_tuple, PySem.W.dataLt_cons (by simp [PySem.W.alike])]
  have e : PyData.eqv (.int y.a) (.int x.a) = false := by
    simp only [PyData.eqv]
    exact beq_eq_false_iff_ne.mpr (Ne.symm h)
  rw [e, if_neg (by decide), PySem.W.dataLt_int]
  by_cases hl : x.a < y.a
  · have : ¬ y.a < x.a := by omega
    simp [hl, this]
  · have : y.a < x.a := by omega
    simp [hl, this]
theorem sort_q {x y : Qe} (h : x.a ≠ y.a) : sortBy Qe.d [x, y] = if x.a < y.a then [x, y] else [y, x] := by
  unfold sortBy
  rw [ms2', le_q h]
  by_cases hl : x.a < y.a <;> simp [hl]
def ent (p q : Nat) (row : List Int) : List Qe := if row = [] then [] else [⟨p, q, row⟩]
def q2 (a b c d : Nat) (r0 r1 : List Int) : List Qe := if a < c then ent a b r0 ++ ent c d r1 else ent c d r1 ++ ent a b r0
theorem q2_sym {a b c d : Nat} (h : a ≠ c) (r0 r1 : List Int) : q2 a b c d r0 r1 = q2 c d a b r1 r0 := by
  unfold q2
  by_cases h1 : a < c
  · have : ¬ c < a := by omega
    rw [if_pos h1, if_neg this]
  · have : c < a := by omega
    rw [if_neg h1, if_pos this]
section
variable {a b c d : Nat} {r0 r1 : List Int}
theorem row0 (hac : a ≠ c) : rowOf (q2 a b c d r0 r1) a b = r0 := by
  have h1 : ¬ (c : Int) = (a : Int) := by omega
  unfold rowOf q2 ent
  by_cases h : a < c <;> by_cases h0 : r0 = [] <;> by_cases h2 : r1 = [] <;> simp [h, h0, h2, h1]
theorem row1 (hac : a ≠ c) : rowOf (q2 a b c d r0 r1) c d = r1 := by rw [q2_sym hac, row0 (Ne.symm hac)]
theorem with0 (hac : a ≠ c) (r' : List Int) : MP.withRow (q2 a b c d r0 r1) a b r' = q2 a b c d r' r1 := by
  have h1 : ¬ (c : Int) = (a : Int) := by omega
  have f : (q2 a b c d r0 r1).filter (fun (e : Qe) => !(decide (e.a = (a : Int)) && decide (e.b = (b : Int)))) = ent c d r1 := by
    unfold q2 ent
    by_cases h : a < c <;> by_cases h0 : r0 = [] <;> by_cases h2 : r1 = [] <;> simp [h, h0, h2, h1]
  unfold MP.withRow
  rw [f]
  have sq : sortBy Qe.d [(⟨c, d, r1⟩ : Qe), ⟨a, b, r'⟩] = if a < c then [(⟨a, b, r'⟩ : Qe), ⟨c, d, r1⟩] else [(⟨c, d, r1⟩ : Qe), ⟨a, b, r'⟩] := by
    rw [sort_q (by show (c : Int) ≠ (a : Int); omega)]
    show (if (c : Int) < (a : Int) then _ else _) = _
    by_cases h : a < c
    · have : ¬ (c : Int) < (a : Int) := by omega
      rw [if_pos h, if_neg this]
    · have : (c : Int) < (a : Int) := by omega
      rw [if_neg h, if_pos this]
  cases r' with
  | nil =>
    unfold q2 ent
    by_cases h2 : r1 = []
    · simp [h2, sortBy_nil]
    · simp [h2, sortBy_one]
  | cons x r' =>
    unfold q2 ent
    by_cases h2 : r1 = []
    · simp [h2, sortBy_one]
    · simp [h2, sq]
theorem with1 (hac : a ≠ c) (r' : List Int) : MP.withRow (q2 a b c d r0 r1) c d r' = q2 a b c d r0 r' := by rw [q2_sym hac, with0 (Ne.symm hac), q2_sym (Ne.symm hac)]
end
/-- four roles -/
structure Ro (a b c d : Nat) : Prop where
  a4 : a < 4
  b4 : b < 4
  c4 : c < 4
  d4 : d < 4
  ab : a ≠ b
  ac : a ≠ c
  ad : a ≠ d
  bc : b ≠ c
  bd : b ≠ d
  cd : c ≠ d
def con2 (a b c d : Nat) (r0 r1 : List Int) : Here := ⟨List.replicate 4 0, q2 a b c d r0 r1⟩
section
variable {a b c d : Nat} {B0 B1 : Br} {r0 r1 : List Int}
theorem ms4_len : (ms4 a b c d B0 B1).length = 4 := by simp [ms4]
theorem ms4_get {r : Nat} (hr : r < 4) : (ms4 a b c d B0 B1).getD r (0, []) = mk4 a b c d B0 B1 r := by
  unfold ms4
  rw [List.getD_eq_getElem?_getD, List.getElem?_map, List.getElem?_range hr]
  rfl
theorem z_get (r : Nat) : (List.replicate 4 (0 : Int)).getD r 0 = 0 := by
  rw [List.getD_eq_getElem?_getD, List.getElem?_replicate]
  split <;> rfl
theorem z_set (r : Nat) : (List.replicate 4 (0 : Int)).set r 0 = List.replicate 4 0 := by
  apply List.ext_getElem?
  intro k
  rw [List.getElem?_set]
  split
  · rename_i h
    subst h
    rw [List.length_replicate, List.getElem?_replicate]
  · rfl
theorem fil0 (b : Bool) (o : Nat) (B : Br) : ((B.map (stp b o)).filter fun t => decide (t.src = 0)) = B.map (stp b o) := by
  rw [List.filter_eq_self]
  intro t ht
  obtain ⟨x, _, rfl⟩ := List.mem_map.mp ht
  rfl
theorem st4 {r : Nat} (hr : r < 4) : MP.stepsAt (ms4 a b c d B0 B1) (List.replicate 4 0) r = (mk4 a b c d B0 B1 r).2.filter fun t => decide (t.src = 0) := by
  unfold MP.stepsAt
  rw [ms4_get hr, z_get]
theorem st_a (h : Ro a b c d) : MP.stepsAt (ms4 a b c d B0 B1) (List.replicate 4 0) a = B0.map (stp true b) := by
  have h1 : ¬ (a = c ∨ a = d) := by rintro (e | e); exact h.ac e; exact h.ad e
  rw [st4 h.a4]
  unfold mk4 lpM mach
  rw [if_neg h1, if_pos rfl]
  exact fil0 _ _ _
theorem st_b (h : Ro a b c d) : MP.stepsAt (ms4 a b c d B0 B1) (List.replicate 4 0) b = B0.map (stp false a) := by
  have h1 : ¬ (b = c ∨ b = d) := by rintro (e | e); exact h.bc e; exact h.bd e
  rw [st4 h.b4]
  unfold mk4 lpM mach
  rw [if_neg h1, if_neg (Ne.symm h.ab), if_pos rfl]
  exact fil0 _ _ _
theorem st_c (h : Ro a b c d) : MP.stepsAt (ms4 a b c d B0 B1) (List.replicate 4 0) c = B1.map (stp true d) := by
  rw [st4 h.c4]
  unfold mk4 lpM mach
  rw [if_pos (.inl rfl), if_pos rfl]
  exact fil0 _ _ _
theorem st_d (h : Ro a b c d) : MP.stepsAt (ms4 a b c d B0 B1) (List.replicate 4 0) d = B1.map (stp false c) := by
  rw [st4 h.d4]
  unfold mk4 lpM mach
  rw [if_pos (.inr rfl), if_neg (Ne.symm h.cd), if_pos rfl]
  exact fil0 _ _ _
theorem four (h : Ro a b c d) {r : Nat} (hr : r < 4) : r = a ∨ r = b ∨ r = c ∨ r = d := by
  have := h.a4; have := h.b4; have := h.c4; have := h.d4
  have := h.ab; have := h.ac; have := h.ad; have := h.bc; have := h.bd; have := h.cd
  omega
theorem stp_go (b : Bool) (o : Nat) {x : Int × Bool} (h : x.2 = true) : stp b o x = ⟨0, b, o, x.1, 0⟩ := by
  unfold stp
  rw [h]
  rfl
/-- all go on -/
def Go (B : Br) : Prop := ∀ x ∈ B, x.2 = true
theorem deeds4 (h : Ro a b c d) (k0 : Go B0) (k1 : Go B1) {room : Int} {x : Deed} : x ∈ deedsAt (ms4 a b c d B0 B1) (con2 a b c d r0 r1) room ↔
    ((r0.length : Int) < room ∧ ∃ y ∈ B0, x = ⟨a, true, b, y.1, con2 a b c d (r0 ++ [y.1]) r1⟩) ∨ (∃ y ∈ B0, r0.take 1 = [y.1] ∧ x = ⟨b, false, a, y.1, con2 a b c d (r0.drop 1) r1⟩) ∨
    ((r1.length : Int) < room ∧ ∃ y ∈ B1, x = ⟨c, true, d, y.1, con2 a b c d r0 (r1 ++ [y.1])⟩) ∨ (∃ y ∈ B1, r1.take 1 = [y.1] ∧ x = ⟨d, false, c, y.1, con2 a b c d r0 (r1.drop 1)⟩) := by
  unfold deedsAt
  rw [List.mem_flatMap, ms4_len]
  have hst : (con2 a b c d r0 r1).st = List.replicate 4 0 := rfl
  have hqe : (con2 a b c d r0 r1).q = q2 a b c d r0 r1 := rfl
  have b4 : ((b : Int) < (4 : Nat)) := by have := h.b4; omega
  have d4 : ((d : Int) < (4 : Nat)) := by have := h.d4; omega
  have nab : (b : Int) ≠ (a : Int) := by have := h.ab; omega
  have ncd : (d : Int) ≠ (c : Int) := by have := h.cd; omega
  constructor
  · rintro ⟨r, hr, hx⟩
    rw [List.mem_range] at hr
    rw [List.mem_flatMap, hst] at hx
    obtain ⟨s, hs, hx⟩ := hx
    rcases four h hr with rfl | rfl | rfl | rfl
    · rw [st_a h] at hs
      obtain ⟨y, hy, rfl⟩ := List.mem_map.mp hs
      unfold stepDeed at hx
      rw [hqe, hst, ms4_len, stp_go _ _ (k0 y hy)] at hx
      simp only [if_true, row0 h.ac, with0 h.ac, z_set] at hx
      split at hx
      · rename_i hc
        rw [List.mem_singleton] at hx
        exact .inl ⟨hc.2.2, y, hy, hx⟩
      · cases hx
    · rw [st_b h] at hs
      obtain ⟨y, hy, rfl⟩ := List.mem_map.mp hs
      unfold stepDeed at hx
      rw [hqe, hst, stp_go _ _ (k0 y hy)] at hx
      simp only [Bool.false_eq_true, if_false, row0 h.ac, with0 h.ac, z_set] at hx
      split at hx
      · rename_i hc
        rw [List.mem_singleton] at hx
        exact .inr (.inl ⟨y, hy, hc, hx⟩)
      · cases hx
    · rw [st_c h] at hs
      obtain ⟨y, hy, rfl⟩ := List.mem_map.mp hs
      unfold stepDeed at hx
      rw [hqe, hst, ms4_len, stp_go _ _ (k1 y hy)] at hx
      simp only [if_true, row1 h.ac, with1 h.ac, z_set] at hx
      split at hx
      · rename_i hc
        rw [List.mem_singleton] at hx
        exact .inr (.inr (.inl ⟨hc.2.2, y, hy, hx⟩))
      · cases hx
    · rw [st_d h] at hs
      obtain ⟨y, hy, rfl⟩ := List.mem_map.mp hs
      unfold stepDeed at hx
      rw [hqe, hst, stp_go _ _ (k1 y hy)] at hx
      simp only [Bool.false_eq_true, if_false, row1 h.ac, with1 h.ac, z_set] at hx
      split at hx
      · rename_i hc
        rw [List.mem_singleton] at hx
        exact .inr (.inr (.inr ⟨y, hy, hc, hx⟩))
      · cases hx
  · rintro (⟨hl, y, hy, rfl⟩ | ⟨y, hy, ht, rfl⟩ | ⟨hl, y, hy, rfl⟩ | ⟨y, hy, ht, rfl⟩)
    · refine ⟨a, List.mem_range.mpr h.a4, ?_⟩
      rw [List.mem_flatMap, hst, st_a h]
      refine ⟨stp true b y, List.mem_map.mpr ⟨y, hy, rfl⟩, ?_⟩
      unfold stepDeed
      rw [hqe, hst, ms4_len, stp_go _ _ (k0 y hy)]
      simp only [if_true, row0 h.ac, with0 h.ac, z_set]
      rw [if_pos ⟨b4, nab, hl⟩]
      exact List.mem_singleton.mpr rfl
    · refine ⟨b, List.mem_range.mpr h.b4, ?_⟩
      rw [List.mem_flatMap, hst, st_b h]
      refine ⟨stp false a y, List.mem_map.mpr ⟨y, hy, rfl⟩, ?_⟩
      unfold stepDeed
      rw [hqe, hst, stp_go _ _ (k0 y hy)]
      simp only [Bool.false_eq_true, if_false, row0 h.ac, with0 h.ac, z_set]
      rw [if_pos ht]
      exact List.mem_singleton.mpr rfl
    · refine ⟨c, List.mem_range.mpr h.c4, ?_⟩
      rw [List.mem_flatMap, hst, st_c h]
      refine ⟨stp true d y, List.mem_map.mpr ⟨y, hy, rfl⟩, ?_⟩
      unfold stepDeed
      rw [hqe, hst, ms4_len, stp_go _ _ (k1 y hy)]
      simp only [if_true, row1 h.ac, with1 h.ac, z_set]
      rw [if_pos ⟨d4, ncd, hl⟩]
      exact List.mem_singleton.mpr rfl
    · refine ⟨d, List.mem_range.mpr h.d4, ?_⟩
      rw [List.mem_flatMap, hst, st_d h]
      refine ⟨stp false c y, List.mem_map.mpr ⟨y, hy, rfl⟩, ?_⟩
      unfold stepDeed
      rw [hqe, hst, stp_go _ _ (k1 y hy)]
      simp only [Bool.false_eq_true, if_false, row1 h.ac, with1 h.ac, z_set]
      rw [if_pos ht]
      exact List.mem_singleton.mpr rfl
/-- the states -/
def In (B : Br) (row : List Int) : Prop := ∀ l ∈ row, l ∈ B.map (·.1)
def P2 (a b c d : Nat) (B0 B1 : Br) (room : Int) (x : Here) : Prop := ∃ r0 r1, x = con2 a b c d r0 r1 ∧ In B0 r0 ∧ In B1 r1 ∧ (r0.length : Int) ≤ room ∧ (r1.length : Int) ≤ room
theorem In.snoc {B : Br} {row : List Int} (h : In B row) {y : Int × Bool} (hy : y ∈ B) : In B (row ++ [y.1]) := fun l hl => by
  rcases List.mem_append.mp hl with e | e
  · exact h l e
  · rw [List.mem_singleton] at e
    subst e
    exact List.mem_map.mpr ⟨y, hy, rfl⟩
theorem In.drop {B : Br} {row : List Int} (h : In B row) : In B (row.drop 1) := fun l hl => h l (List.mem_of_mem_drop hl)
theorem P2.next (h : Ro a b c d) (k0 : Go B0) (k1 : Go B1) {room : Int} {x : Here} (hx : P2 a b c d B0 B1 room x) : ∀ z ∈ nextT (ms4 a b c d B0 B1) room x, P2 a b c d B0 B1 room z.2 := by
  obtain ⟨r0, r1, rfl, i0, i1, l0, l1⟩ := hx
  intro z hz
  obtain ⟨e, he, rfl⟩ := List.mem_map.mp hz
  unfold deedsT sortBy at he
  rw [List.mem_mergeSort, deeds4 h k0 k1] at he
  rcases he with ⟨hl, y, hy, rfl⟩ | ⟨y, hy, ht, rfl⟩ | ⟨hl, y, hy, rfl⟩ | ⟨y, hy, ht, rfl⟩
  · exact ⟨_, _, rfl, i0.snoc hy, i1, by simp; omega, l1⟩
  · exact ⟨_, _, rfl, i0.drop, i1, by simp; omega, l1⟩
  · exact ⟨_, _, rfl, i0, i1.snoc hy, l0, by simp; omega⟩
  · exact ⟨_, _, rfl, i0, i1.drop, l0, by simp; omega⟩
theorem P2.wf (lB : B0.length ≤ 60) (lB' : B1.length ≤ 60) {room : Int} (hr : room ≤ 1000) {x : Here} (hx : P2 a b c d B0 B1 room x) : WF (ms4 a b c d B0 B1) room x := by
  obtain ⟨r0, r1, rfl, i0, i1, l0, l1⟩ := hx
  refine ⟨by rw [ms4_len]; rfl, by rw [ms4_len]; omega, fun m hm => ?_, ?_, fun e he => ?_⟩
  · obtain ⟨r, _, rfl⟩ := List.mem_map.mp hm
    unfold mk4 lpM mach
    split <;> split
    · simpa using lB'
    · split
      · simpa using lB'
      · simp
    · simpa using lB
    · split
      · simpa using lB
      · simp
  · show (q2 a b c d r0 r1).length ≤ 100
    unfold q2 ent
    split <;> split <;> split <;> simp
  · have he : e ∈ q2 a b c d r0 r1 := he
    have : e ∈ ent a b r0 ∨ e ∈ ent c d r1 := by
      unfold q2 at he
      split at he
      · exact List.mem_append.mp he
      · exact (List.mem_append.mp he).symm
    unfold ent at this
    rcases this with h | h
    · split at h
      · cases h
      · rw [List.mem_singleton] at h
        subst h
        show r0.length ≤ 1000
        omega
    · split at h
      · cases h
      · rw [List.mem_singleton] at h
        subst h
        show r1.length ≤ 1000
        omega
theorem unheard4 {o r : Nat} {B : Br} {q : List Qe} {row : List Int} (hq : rowOf q o r = row) (hi : In B row) : isUnheard (B.map (stp false o)) q r = false := by
  unfold isUnheard
  rw [Bool.eq_false_iff]
  intro hz
  obtain ⟨x, hx, e⟩ := List.any_eq_true.mp hz
  rw [setI_mem, List.map_map] at hx
  obtain ⟨y, hy, rfl⟩ := List.mem_map.mp hx
  have ho : (Step.other ∘ stp false o) y = (o : Int) := rfl
  rw [ho, hq] at e
  have ef : ((B.map (stp false o)).filter fun s => decide (s.other = (o : Int))) = B.map (stp false o) := by
    rw [List.filter_eq_self]
    intro t ht
    obtain ⟨x, _, rfl⟩ := List.mem_map.mp ht
    exact decide_eq_true rfl
  rw [ef, List.map_map] at e
  cases row with
  | nil => simp at e
  | cons k row =>
    simp only [List.getD_cons_zero, Bool.and_eq_true, Bool.not_eq_true'] at e
    have hk : (B.map (Step.letter ∘ stp false o)).contains k = true := by
      rw [List.contains_iff_mem]
      exact hi k List.mem_cons_self
    rw [hk] at e
    cases e.2
theorem no_trouble4 (h : Ro a b c d) (k0 : Go B0) (k1 : Go B1) (hB : B0 ≠ []) {room : Int} (hr : 1 ≤ room) {x : Here} (hx : P2 a b c d B0 B1 room x) : troubleT (ms4 a b c d B0 B1) x room = none := by
  obtain ⟨r0, r1, rfl, i0, i1, l0, l1⟩ := hx
  have hst : (con2 a b c d r0 r1).st = List.replicate 4 0 := rfl
  have hqe : (con2 a b c d r0 r1).q = q2 a b c d r0 r1 := rfl
  unfold troubleT
  rw [ms4_len, hst, hqe]
  have a1 : ((List.range 4).any fun r => decide (0 < (MP.stepsAt (ms4 a b c d B0 B1) (List.replicate 4 0) r).length) && (MP.stepsAt (ms4 a b c d B0 B1) (List.replicate 4 0) r).all (fun s => !s.snd) && isUnheard (MP.stepsAt (ms4 a b c d B0 B1) (List.replicate 4 0) r) (q2 a b c d r0 r1) r) = false := by
    rw [Bool.eq_false_iff]
    intro hz
    obtain ⟨r, hr, e⟩ := List.any_eq_true.mp hz
    rw [List.mem_range] at hr
    simp only [Bool.and_eq_true] at e
    have snd : ∀ (B : Br) (o : Nat), 0 < (B.map (stp true o)).length → (B.map (stp true o)).all (fun s => !s.snd) = true → False := fun B o hl hall => by
      cases B with
      | nil => simp at hl
      | cons x B => simp [stp] at hall
    rcases four h hr with rfl | rfl | rfl | rfl
    · rw [st_a h] at e
      exact snd _ _ (of_decide_eq_true e.1.1) e.1.2
    · rw [st_b h, unheard4 (row0 h.ac) i0] at e
      cases e.2
    · rw [st_c h] at e
      exact snd _ _ (of_decide_eq_true e.1.1) e.1.2
    · rw [st_d h, unheard4 (row1 h.ac) i1] at e
      cases e.2
  rw [a1]
  simp only [Bool.false_eq_true, if_false]
  rw [if_pos]
  cases r0 with
  | nil =>
    cases B0 with
    | nil => exact absurd rfl hB
    | cons y B0 => exact List.length_pos_of_mem ((deeds4 h k0 k1).mpr (.inl ⟨by show (0 : Int) < room; omega, y, List.mem_cons_self, rfl⟩))
  | cons k r0 =>
    obtain ⟨y, hy, e⟩ := List.mem_map.mp (i0 k List.mem_cons_self)
    exact List.length_pos_of_mem ((deeds4 h k0 k1).mpr (.inr (.inl ⟨y, hy, by rw [e]; rfl, rfl⟩)))
theorem here4 : here0 (ms4 a b c d B0 B1) = con2 a b c d [] [] := by
  unfold here0 con2
  rw [ms4_len]
  congr 1
  unfold q2 ent
  split <;> rfl
theorem P2.zero {room : Int} (hr : 1 ≤ room) : P2 a b c d B0 B1 room (here0 (ms4 a b c d B0 B1)) := ⟨[], [], here4, (fun l h => by cases h), (fun l h => by cases h), by show (0 : Int) ≤ room; omega, by show (0 : Int) ≤ room; omega⟩
end
end K58
set_option Elab.async false
set_option linter.all false
set_option maxRecDepth 20000
namespace K58
open PySem L2 MP
/-! How much two loops beside each other reach by letters. -/
def prodL (G0 G1 room : Nat) : List (List Int × List Int) := (goL G0 room).flatMap fun w => (goL G1 room).map fun v => (w, v)
def dueS (G room : Nat) : Int := ((List.range (room + 1)).map fun k => (G : Int) ^ k).sum
theorem prod_facts : ∀ G0 < 4, ∀ G1 < 4, ∀ room < 3, (decide (prodL G0 G1 room).Nodup && decide (((prodL G0 G1 room).length : Int) = dueS G0 room * dueS G1 room) && decide ((prodL G0 G1 room).length ≤ 2999)) = true := by decide +kernel
theorem prod_mem {G0 G1 room : Nat} {w v : List Int} : (w, v) ∈ prodL G0 G1 room ↔ (w.length ≤ room ∧ All G0 w) ∧ (v.length ≤ room ∧ All G1 v) := by
  unfold prodL
  rw [List.mem_flatMap]
  constructor
  · rintro ⟨w', hw, hx⟩
    obtain ⟨v', hv, e⟩ := List.mem_map.mp hx
    cases e
    exact ⟨goL_mem.mp hw, goL_mem.mp hv⟩
  · rintro ⟨h1, h2⟩
    exact ⟨w, goL_mem.mpr h1, List.mem_map.mpr ⟨v, goL_mem.mpr h2, rfl⟩⟩
theorem in_all {G : Nat} {w : List Int} : In (may G 0) w ↔ All G w := by
  unfold In All
  rw [may_fst]
  constructor
  · intro h l hl
    obtain ⟨i, hi, e⟩ := List.mem_map.mp (h l hl)
    rw [List.mem_range] at hi
    exact ⟨i, by omega, e.symm⟩
  · intro h l hl
    obtain ⟨i, hi, rfl⟩ := h l hl
    exact List.mem_map.mpr ⟨i, List.mem_range.mpr (by omega), rfl⟩
theorem may_allgo (G : Nat) : Go (may G 0) := fun x hx => by
  obtain ⟨l, f⟩ := x
  obtain ⟨i, hi, _, e⟩ := may_mem.mp hx
  show f = true
  rw [e]
  exact decide_eq_true (by omega)
section
variable {a b c d : Nat} {G0 G1 room : Nat}
theorem con2_inj (h : Ro a b c d) {w v w' v' : List Int} (e : con2 a b c d w v = con2 a b c d w' v') : (w, v) = (w', v') := by
  unfold con2 at e
  injection e with _ e
  have e1 := congrArg (fun l : List Qe => rowOf l a b) e
  have e2 := congrArg (fun l : List Qe => rowOf l c d) e
  simp only [row0 h.ac, row1 h.ac] at e1 e2
  rw [e1, e2]
theorem next4 {B0 B1 : Br} {rm : Int} {x : Here} {e : Deed} (he : e ∈ deedsAt (ms4 a b c d B0 B1) x rm) : ∃ z ∈ nextT (ms4 a b c d B0 B1) rm x, z.2 = e.behind := by
  refine ⟨_, List.mem_map.mpr ⟨e, ?_, rfl⟩, rfl⟩
  unfold deedsT sortBy
  rw [List.mem_mergeSort]
  exact he
theorem reached_fin (h : Ro a b c d) (g0 : 0 < G0) (g04 : G0 < 4) (g14 : G1 < 4) (hr1 : 1 ≤ room) (hr : room < 3) :
    ∃ fin : List Here, bfsRun (fun h => troubleT (ms4 a b c d (may G0 0) (may G1 0)) h (room : Int)) (nextT (ms4 a b c d (may G0 0) (may G1 0)) (room : Int)) 4000 [here0 (ms4 a b c d (may G0 0) (may G1 0))] [[]] 0 = some (none, fin) ∧ (fin.length : Int) = dueS G0 room * dueS G1 room := by
  have pf := prod_facts G0 g04 G1 g14 room hr
  simp only [Bool.and_eq_true, decide_eq_true_eq] at pf
  obtain ⟨⟨f1, f2⟩, f3⟩ := pf
  have k0 := may_allgo G0
  have k1 := may_allgo G1
  have hroom : (1 : Int) ≤ (room : Int) := by omega
  have memL : ∀ x : Here, x ∈ (prodL G0 G1 room).map (fun z => con2 a b c d z.1 z.2) ↔ P2 a b c d (may G0 0) (may G1 0) (room : Int) x := fun x => by
    rw [List.mem_map]
    constructor
    · rintro ⟨⟨w, v⟩, hz, rfl⟩
      obtain ⟨⟨h1, h2⟩, h3, h4⟩ := prod_mem.mp hz
      exact ⟨w, v, rfl, in_all.mpr h2, in_all.mpr h4, by omega, by omega⟩
    · rintro ⟨w, v, rfl, h1, h2, h3, h4⟩
      exact ⟨(w, v), prod_mem.mpr ⟨⟨by omega, in_all.mp h1⟩, by omega, in_all.mp h2⟩, rfl⟩
  have ndL : ((prodL G0 G1 room).map fun z => con2 a b c d z.1 z.2).Nodup := by
    rw [List.Nodup, List.pairwise_map]
    exact f1.imp fun {x y} hne e => hne (con2_inj h e)
  have h0 : P2 a b c d (may G0 0) (may G1 0) (room : Int) (here0 (ms4 a b c d (may G0 0) (may G1 0))) := P2.zero hroom
  obtain ⟨fin, b1, b2, b3, b4, b5⟩ := bfs_all (tr := fun h => troubleT (ms4 a b c d (may G0 0) (may G1 0)) h (room : Int)) (nx := nextT (ms4 a b c d (may G0 0) (may G1 0)) (room : Int)) (L := (prodL G0 G1 room).map fun z => con2 a b c d z.1 z.2) (by rw [List.length_map]; exact f3)
    (fun x hx => no_trouble4 h k0 k1 (may_ne g0) hroom ((memL x).mp hx)) (fun x hx z hz => (memL _).mpr (((memL x).mp hx).next h k0 k1 z hz)) 4000 [here0 (ms4 a b c d (may G0 0) (may G1 0))] [[]] 0 (by simp) (fun x hx => by
      rw [List.mem_singleton] at hx
      subst hx
      exact (memL _).mpr h0) (by simp) (fun j x hj => by omega) (by rw [List.length_map]; omega)
  refine ⟨fin, b1, ?_⟩
  have z0 : con2 a b c d [] [] ∈ fin := by
    have := b5 _ (List.mem_singleton.mpr rfl)
    rwa [here4] at this
  have s0 : ∀ (k : Nat) (w : List Int), w.length = k → k ≤ room → All G0 w → con2 a b c d w [] ∈ fin := by
    intro k
    induction k with
    | zero =>
      intro w hw _ _
      have : w = [] := List.eq_nil_of_length_eq_zero hw
      rw [this]
      exact z0
    | succ k ih =>
      intro w hw hk ha
      have hne : w ≠ [] := fun e => by rw [e] at hw; simp at hw
      have es := List.dropLast_concat_getLast hne
      have hin := ih w.dropLast (by rw [List.length_dropLast]; omega) (by omega) fun l hl => ha l (List.dropLast_subset w hl)
      obtain ⟨i, hi, e⟩ := ha (w.getLast hne) (List.getLast_mem hne)
      obtain ⟨z, hz1, hz2⟩ := next4 ((deeds4 h k0 k1).mpr (.inl ⟨by rw [List.length_dropLast]; omega, (w.getLast hne, true), may_mem.mpr ⟨i, by omega, e, (decide_eq_true hi).symm⟩, rfl⟩) : (⟨a, true, b, w.getLast hne, con2 a b c d (w.dropLast ++ [w.getLast hne]) []⟩ : Deed) ∈ deedsAt (ms4 a b c d (may G0 0) (may G1 0)) (con2 a b c d w.dropLast []) (room : Int))
      have := b4 _ hin z hz1
      rw [hz2, es] at this
      exact this
  have s1 : ∀ (k : Nat) (w v : List Int), w.length ≤ room → All G0 w → v.length = k → k ≤ room → All G1 v → con2 a b c d w v ∈ fin := by
    intro k
    induction k with
    | zero =>
      intro w v hw ha hv _ _
      have : v = [] := List.eq_nil_of_length_eq_zero hv
      rw [this]
      exact s0 _ w rfl hw ha
    | succ k ih =>
      intro w v hw ha0 hv hk ha
      have hne : v ≠ [] := fun e => by rw [e] at hv; simp at hv
      have es := List.dropLast_concat_getLast hne
      have hin := ih w v.dropLast hw ha0 (by rw [List.length_dropLast]; omega) (by omega) fun l hl => ha l (List.dropLast_subset v hl)
      obtain ⟨i, hi, e⟩ := ha (v.getLast hne) (List.getLast_mem hne)
      obtain ⟨z, hz1, hz2⟩ := next4 ((deeds4 h k0 k1).mpr (.inr (.inr (.inl ⟨by rw [List.length_dropLast]; omega, (v.getLast hne, true), may_mem.mpr ⟨i, by omega, e, (decide_eq_true hi).symm⟩, rfl⟩))) : (⟨c, true, d, v.getLast hne, con2 a b c d w (v.dropLast ++ [v.getLast hne])⟩ : Deed) ∈ deedsAt (ms4 a b c d (may G0 0) (may G1 0)) (con2 a b c d w v.dropLast) (room : Int))
      have := b4 _ hin z hz1
      rw [hz2, es] at this
      exact this
  have all : ∀ x ∈ (prodL G0 G1 room).map (fun z => con2 a b c d z.1 z.2), x ∈ fin := by
    intro x hx
    obtain ⟨⟨w, v⟩, hz, rfl⟩ := List.mem_map.mp hx
    obtain ⟨⟨h1, h2⟩, h3, h4⟩ := prod_mem.mp hz
    exact s1 _ w v h1 h2 rfl h3 h4
  have l1 := nodup_sub_len _ _ b2 b3
  have l2 := nodup_sub_len _ _ ndL all
  rw [List.length_map] at l1 l2
  rw [← f2]
  omega
theorem letters4 (h : Ro a b c d) (g0 : 0 < G0) (g04 : G0 < 4) (g14 : G1 < 4) (hr1 : 1 ≤ room) (hr : room < 3) (n : Nat) (S : Store) :
    (∃ ds : List D, callN tbl (n + 5) 34 [.d (msD (ms4 a b c d (may G0 0) (may G1 0))), .d (.int (room : Int))] S = some (.d (.list ds), S) ∧ (ds.length : Int) = dueS G0 room * dueS G1 room) ∧
    callN tbl (n + 5) 24 [.d (msD (ms4 a b c d (may G0 0) (may G1 0))), .d (.int (room : Int))] S = some (.d .none, S) := by
  obtain ⟨fin, h1, h2⟩ := reached_fin h g0 g04 g14 hr1 hr
  have k0 := may_allgo G0
  have k1 := may_allgo G1
  have lB0 : (may G0 0).length ≤ 60 := by rw [may_len]; omega
  have lB1 : (may G1 0).length ≤ 60 := by rw [may_len]; omega
  constructor
  · have e := search_ n (P := P2 a b c d (may G0 0) (may G1 0) (room : Int)) (fun x hx => hx.wf lB0 lB1 (by omega)) (fun x hx => hx.next h k0 k1) (P2.zero (by omega)) S h1
    refine ⟨fin.map Here.d, ?_, by rw [List.length_map]; exact h2⟩
    rw [call_reached_2]
    unfold b_reached_2
    refine runFn_ret ?_
    have at1 : ∀ x y : D, L2.atI [x, y] 1 = some y := fun _ _ => rfl
    generalize (.int (room : Int) : D) = R at e ⊢
    simp [start0, e, at1]
  · exact trouble_none n (P := P2 a b c d (may G0 0) (may G1 0) (room : Int)) (fun x hx => hx.wf lB0 lB1 (by omega)) (fun x hx => hx.next h k0 k1) (P2.zero (by omega)) S h1
end
end K58
set_option Elab.async false
set_option linter.all false
set_option maxRecDepth 20000
namespace K58
open PySem L2 MP
/-! Two loops beside each other, hand in hand. -/
section
variable {a b c d : Nat} {B0 B1 : Br}
def zz : List Int := List.replicate 4 0
def PZ (st : List Int) : Prop := st = zz
theorem dst0 (h : Ro a b c d) (k0 : Go B0) (k1 : Go B1) (r : Nat) : ∀ s ∈ MP.stepsAt (ms4 a b c d B0 B1) zz r, s.dst = 0 := by
  intro s hs
  by_cases hr : r < 4
  · rcases four h hr with rfl | rfl | rfl | rfl
    · rw [show zz = List.replicate 4 0 from rfl, st_a h] at hs
      obtain ⟨x, hx, rfl⟩ := List.mem_map.mp hs
      rw [stp_go _ _ (k0 x hx)]
    · rw [show zz = List.replicate 4 0 from rfl, st_b h] at hs
      obtain ⟨x, hx, rfl⟩ := List.mem_map.mp hs
      rw [stp_go _ _ (k0 x hx)]
    · rw [show zz = List.replicate 4 0 from rfl, st_c h] at hs
      obtain ⟨x, hx, rfl⟩ := List.mem_map.mp hs
      rw [stp_go _ _ (k1 x hx)]
    · rw [show zz = List.replicate 4 0 from rfl, st_d h] at hs
      obtain ⟨x, hx, rfl⟩ := List.mem_map.mp hs
      rw [stp_go _ _ (k1 x hx)]
  · exfalso
    have e : (ms4 a b c d B0 B1).getD r (0, []) = (0, []) := by
      rw [List.getD_eq_getElem?_getD, List.getElem?_eq_none (by rw [ms4_len]; omega)]
      rfl
    unfold MP.stepsAt at hs
    rw [e] at hs
    cases hs
theorem meets0 (h : Ro a b c d) (k0 : Go B0) (k1 : Go B1) {m : Meet} (hm : m ∈ meetsAt (ms4 a b c d B0 B1) zz) : m.behind = zz := by
  unfold meetsAt at hm
  obtain ⟨r, _, hm⟩ := List.mem_flatMap.mp hm
  obtain ⟨s, hs, hm⟩ := List.mem_flatMap.mp hm
  unfold meetStep at hm
  split at hm
  · unfold meetL at hm
    obtain ⟨u, hu, rfl⟩ := List.mem_map.mp hm
    have hu := (List.mem_filter.mp hu).1
    show (zz.set r s.dst).set s.other.toNat u.dst = zz
    rw [dst0 h k0 k1 r s hs, dst0 h k0 k1 _ u hu]
    unfold zz
    rw [z_set, z_set]
  · cases hm
theorem PZ.wf (h : Ro a b c d) (lB : B0.length ≤ 60) (lB' : B1.length ≤ 60) {st : List Int} (hs : PZ st) : WH (ms4 a b c d B0 B1) st := by
  refine ⟨?_, by rw [ms4_len]; omega, fun m hm => ?_, fun m hm s hs => ?_⟩
  · rw [ms4_len, hs]
    rfl
  · obtain ⟨r, _, rfl⟩ := List.mem_map.mp hm
    unfold mk4 lpM mach
    split <;> split
    · simpa using lB'
    · split
      · simpa using lB'
      · simp
    · simpa using lB
    · split
      · simpa using lB
      · simp
  · obtain ⟨r, _, rfl⟩ := List.mem_map.mp hm
    have key : ∀ (t : Bool) (o : Nat) (B : Br), s ∈ B.map (stp t o) → 0 ≤ s.other := fun t o B hs => by
      obtain ⟨x, _, rfl⟩ := List.mem_map.mp hs
      show (0 : Int) ≤ (o : Int)
      omega
    unfold mk4 lpM mach at hs
    split at hs <;> split at hs
    · exact key _ _ _ hs
    · split at hs
      · exact key _ _ _ hs
      · cases hs
    · exact key _ _ _ hs
    · split at hs
      · exact key _ _ _ hs
      · cases hs
theorem PZ.next (h : Ro a b c d) (k0 : Go B0) (k1 : Go B1) {x : List Int} (hx : PZ x) : ∀ m ∈ meetsT (ms4 a b c d B0 B1) x, PZ m.behind := by
  intro m hm
  rw [hx, meetsT_mem] at hm
  exact meets0 h k0 k1 hm
theorem zero4 : PZ (List.replicate (ms4 a b c d B0 B1).length 0) := by
  rw [ms4_len]
  rfl
theorem reach1 (h : Ro a b c d) (k0 : Go B0) (k1 : Go B1) : reachRun (ms4 a b c d B0 B1) 4000 [List.replicate (ms4 a b c d B0 B1).length 0] 0 = some [zz] := by
  rw [ms4_len]
  show reachRun (ms4 a b c d B0 B1) (3999 + 1) [zz] 0 = _
  unfold reachRun
  rw [if_pos ⟨by simp, by simp⟩]
  have hf : ∀ l : List Meet, (∀ m ∈ l, m.behind = zz) → l.foldl addM [zz] = [zz] := fun l => by
    induction l with
    | nil => intro _; rfl
    | cons m l ih =>
      intro hl
      rw [List.foldl_cons]
      have : addM [zz] m = [zz] := by
        unfold addM
        rw [hl m List.mem_cons_self, if_neg (by simp)]
      rw [this]
      exact ih fun m' hm' => hl m' (List.mem_cons_of_mem _ hm')
  have e0 : [zz].getD 0 [] = zz := rfl
  rw [e0, hf _ fun m hm => meets0 h k0 k1 (meetsT_mem.mp hm)]
  show reachRun (ms4 a b c d B0 B1) (3998 + 1) [zz] 1 = _
  unfold reachRun
  rw [if_neg (by simp)]
theorem hands (h : Ro a b c d) (k0 : Go B0) (k1 : Go B1) (hB : B0 ≠ []) (lB : B0.length ≤ 60) (lB' : B1.length ≤ 60) (n : Nat) (S : Store) :
    callN tbl (n + 4) 38 [.d (msD (ms4 a b c d B0 B1))] S = some (.d (.list [iT zz]), S) ∧
    callN tbl (n + 4) 40 [.d (msD (ms4 a b c d B0 B1))] S = some (.d .none, S) ∧
    callN tbl (n + 4) 39 [.d (msD (ms4 a b c d B0 B1)), .d (iT zz)] S = some (.d (.bool false), S) := by
  refine ⟨reached_ (n + 1) (P := PZ) (fun x hx => hx.wf h lB lB') (fun x hx => hx.next h k0 k1) zero4 S (reach1 h k0 k1), ?_, ?_⟩
  · refine dead_end_none n (P := PZ) (fun x hx => hx.wf h lB lB') (fun x hx => hx.next h k0 k1) zero4 (fun x hx => ?_) S
    rw [hx]
    refine .inl fun e => ?_
    cases B0 with
    | nil => exact hB rfl
    | cons y B0 =>
      have : (⟨a, b, y.1, (zz.set a 0).set b 0⟩ : Meet) ∈ meetsAt (ms4 a b c d (y :: B0) B1) zz := by
        unfold meetsAt
        rw [List.mem_flatMap]
        refine ⟨a, List.mem_range.mpr (by rw [ms4_len]; exact h.a4), ?_⟩
        rw [List.mem_flatMap, show zz = List.replicate 4 0 from rfl, st_a h]
        refine ⟨stp true b y, List.mem_map.mpr ⟨y, List.mem_cons_self, rfl⟩, ?_⟩
        unfold meetStep
        have h4 := h.b4
        have hab := h.ab
        rw [stp_go _ _ (k0 y List.mem_cons_self), ms4_len, if_pos ⟨rfl, by show (b : Int) < (4 : Nat); omega, by show (b : Int) ≠ (a : Int); omega⟩]
        dsimp only
        rw [Int.toNat_natCast, st_b h]
        unfold meetL
        refine List.mem_map.mpr ⟨stp false a y, List.mem_filter.mpr ⟨List.mem_map.mpr ⟨y, List.mem_cons_self, rfl⟩, decide_eq_true ⟨rfl, rfl, rfl⟩⟩, ?_⟩
        rw [stp_go _ _ (k0 y List.mem_cons_self)]
      rw [e] at this
      cases this
  · have hz0 : PZ zz := rfl
    have w : WH (ms4 a b c d B0 B1) zz := hz0.wf h lB lB'
    have io : callN tbl (n + 4) 39 [.d (msD (ms4 a b c d B0 B1)), .d (iT zz)] S = some (.d (.bool (overT (ms4 a b c d B0 B1) zz)), S) := is_overH (n + 2) w S
    have ov : overT (ms4 a b c d B0 B1) zz = false := by
      unfold overT
      rw [Bool.eq_false_iff]
      intro hz
      rw [List.all_eq_true] at hz
      have := hz a (List.mem_range.mpr (by rw [ms4_len]; exact h.a4))
      rw [show zz = List.replicate 4 0 from rfl, st_a h] at this
      cases B0 with
      | nil => exact hB rfl
      | cons y B0 => simp at this
    rw [io, ov]
end
end K58
set_option Elab.async false
set_option linter.all false
set_option maxRecDepth 20000
namespace MP
open PySem L2
theorem lt_iTs (x y : List Int) : PySem.W.dataLt (iT x) (iT y) = decide (x < y) := by
  unfold iT
  rw [PySem.W.dataLt_tuple]
  exact PySem.W.dataLt_ints x y
theorem le_iTs (x y : List Int) : PySem.W.dataLe false id (iT x) (iT y) = decide (x ≤ y) := by
  rw [PySem.W.dataLe_eq]
  show (!PySem.W.dataLt (iT y) (iT x)) = _
  rw [lt_iTs]
  by_cases h : y < x
  · have : ¬ x ≤ y := fun z => List.not_lt.mpr z h
    simp [h, this]
  · have : x ≤ y := List.not_lt.mp h
    simp [h, this]
theorem sort_rows {l m : List (List Int)} (h : m.Pairwise (· ≤ ·)) (hp : l.Perm m) : sortBy iT l = m := by
  unfold sortBy
  have e : (fun x y => PySem.W.dataLe false id (iT x) (iT y)) = fun (x y : List Int) => decide (x ≤ y) := by
    funext x y
    exact le_iTs x y
  rw [e]
  refine List.Perm.eq_of_pairwise (le := fun a b : List Int => a ≤ b) (fun a b _ _ h1 h2 => List.le_antisymm h1 h2) ?_ h ((List.mergeSort_perm l _).trans hp)
  have := List.pairwise_mergeSort (le := fun (x y : List Int) => decide (x ≤ y)) (fun a b c h1 h2 => by simp at *; exact List.le_trans h1 h2) (fun a b => by simp; exact List.le_total a b) l
  simpa using this
theorem sortOk_rows (l : List (List Int)) (h : ∀ x ∈ l, x ≠ []) : sortOk (l.map iT) = true := alike_iTs l h
end MP
namespace K58
open PySem L2 MP
/-! Two loops beside each other, as the counts see them. -/
section
variable {a b c d : Nat} {B0 B1 : Br}
theorem opened_bs (n : Nat) (S : Store) : callN tbl (n + 1) 43 [.d (bsD a b c d B0 B1)] S = some (.d (bsD a b c d B0 B1), S) := by
  rw [call_opened]
  unfold b_opened
  refine runFn_ret ?_
  have it := bs_items (a := a) (b := b) (c := c) (d := d) (B0 := B0) (B1 := B1)
  generalize bsD a b c d B0 B1 = T at it ⊢
  simp [start0, sWhile, whileRun, it, at3_0, q_beside_loop]
theorem pd_bs : pd (bsD a b c d B0 B1) = true := by
  have h0 := pd_tk (p := a) (q := b) (nm := 0) (B := B0) true
  have h1 := pd_tk (p := c) (q := d) (nm := 1) (B := B1) true
  simp only [tkD] at h0 h1
  simp [bsD, pd, pds, h0, h1]
theorem dp_bs : (bsD a b c d B0 B1).depth ≤ 6 := by
  have h0 := dp_tk (p := a) (q := b) (nm := 0) (B := B0) true
  have h1 := dp_tk (p := c) (q := d) (nm := 1) (B := B1) true
  simp only [tkD] at h0 h1
  simp only [bsD, PyData.depth, PyData.depthAll]
  omega
theorem is_over_bs (n : Nat) (S : Store) : callN tbl (n + 5) 48 [.d (bsD a b c d B0 B1)] S = some (.d (.bool false), S) := by
  rw [call_is_over]
  unfold b_is_over
  refine runFn_ret ?_
  have op := opened_bs (a := a) (b := b) (c := c) (d := d) (B0 := B0) (B1 := B1) (n + 3) S
  have it := bs_items (a := a) (b := b) (c := c) (d := d) (B0 := B0) (B1 := B1)
  have io := is_over (p := a) (q := b) (nm := 0) (B := B0) n true S
  simp only [tkD] at io
  generalize bsD a b c d B0 B1 = T at op it ⊢
  simp [start0, op, it, at3_0, at3_1, q_beside_beside, io]
/-- what is said in the two -/
def says (a b c d : Nat) (B0 B1 : Br) : List (List Int) := (B0.map fun x => sayI a b x.1) ++ (B1.map fun x => sayI c d x.1)
theorem said_bs (n : Nat) (h0 : B0 ≠ []) (h1 : B1 ≠ []) (l0 : B0.length ≤ 100) (l1 : B1.length ≤ 100) (S : Store) : callN tbl (n + 6) 45 [.d (bsD a b c d B0 B1), .d (.list []), .d (.list [])] S = some (.d (.list ((says a b c d B0 B1).map iT)), S) := by
  rw [call_said_without]
  unfold b_said_without
  refine runFn_ret ?_
  have op := opened_bs (a := a) (b := b) (c := c) (d := d) (B0 := B0) (B1 := B1) (n + 4) S
  have it := bs_items (a := a) (b := b) (c := c) (d := d) (B0 := B0) (B1 := B1)
  have s0 := said_ (p := a) (q := b) (nm := 0) (B := B0) n h0 l0 S
  have s1 := said_ (p := c) (q := d) (nm := 1) (B := B1) n h1 l1 S
  simp only [tkD] at s0 s1
  have hin : opIn (bsD a b c d B0 B1) (.list []) = some (.bool false) := opInL_iff pd_bs (fun d hd => by cases hd) (okD_of dp_bs (by omega)) (by simp)
  have e : (says a b c d B0 B1).map iT = (B0.map fun x => sayI a b x.1).map iT ++ (B1.map fun x => sayI c d x.1).map iT := by unfold says; rw [List.map_append]
  have z0 : ((B0.map fun x => sayI a b x.1).map iT).length = B0.length := by simp
  have z1 : ((B1.map fun x => sayI c d x.1).map iT).length = B1.length := by simp
  have z2 : B0.length + B1.length ≤ 1000000 := by omega
  rw [e]
  generalize (B0.map fun x => sayI a b x.1).map iT = Y0 at *
  generalize (B1.map fun x => sayI c d x.1).map iT = Y1 at *
  generalize bsD a b c d B0 B1 = T at op it hin ⊢
  simp [start0, op, it, at3_0, at3_1, at3_2, q_beside_end, q_beside_beside, hin, s0, s1, z0, z1, z2]
theorem next_bs (n : Nat) (h0 : B0 ≠ []) (h1 : B1 ≠ []) (hz : B0.length + B1.length < 64) {ev : List (List Int)} (o1 : (says a b c d B0 B1).all (okC 3) = true) (o2 : setC (says a b c d B0 B1) = ev) (S : Store) :
    callN tbl (n + 7) 44 [.d (bsD a b c d B0 B1)] S = some (.d (.list (ev.map iT)), S) := by
  rw [call_next_said]
  unfold b_next_said
  refine runFn_ret ?_
  have sd := said_bs (a := a) (b := b) (c := c) (d := d) (B0 := B0) (B1 := B1) n h0 h1 (by omega) (by omega) S
  have hz : (says a b c d B0 B1).length < 64 := by unfold says; rw [List.length_append, List.length_map, List.length_map]; exact hz
  have hd : ((says a b c d B0 B1).headD [0]).length = 3 := by
    unfold says
    cases B0 with
    | nil => exact absurd rfl h0
    | cons x B => rfl
  generalize says a b c d B0 B1 = Z at *
  have st : eSortSetT (eCall (callN tbl (n + 6)) 45 (aCons (eVar 0) (aCons (eLst (aNil)) (aCons (eLst (aNil)) (aNil)))) []) [some (.d (bsD a b c d B0 B1))] S = some (.d (.list (ev.map iT)), S) := by
    unfold eSortSetT
    have e : eCall (callN tbl (n + 6)) 45 (aCons (eVar 0) (aCons (eLst (aNil)) (aCons (eLst (aNil)) (aNil)))) [] [some (.d (bsD a b c d B0 B1))] S = some (.d (.list (Z.map iT)), S) := by simp [sd]
    rw [e]
    simp only [tupsD_map, hd]
    rw [if_pos ⟨hz, by omega, o1⟩, o2]
    rfl
  simp [start0, st]
theorem beside_ (n : Nat) (S : Store) : callN tbl (n + 4) 47 [.d (loopD a b 0 B0), .d (loopD c d 1 B1)] S = some (.d (bsD a b c d B0 B1), S) := by
  rw [call_beside]
  unfold b_beside
  refine runFn_ret ?_
  have o0 := opened_t (p := a) (q := b) (nm := 0) (B := B0) n true S
  have o1 := opened_t (p := c) (q := d) (nm := 1) (B := B1) n true S
  simp only [tkD] at o0 o1
  have e0 := ot_end (p := a) (q := b) (nm := 0) (B := B0) true
  have e1 := ot_end (p := c) (q := d) (nm := 1) (B := B1) true
  generalize otD a b 0 B0 true = X0 at o0 e0
  generalize otD c d 1 B1 true = X1 at o1 e1
  simp [start0, o0, o1, e0, e1]
  rfl
theorem tk_go {p q : Nat} {nm : Int} {B : Br} (g : Bool) (h : g = true) : tkD p q nm B g = loopD p q nm B := by rw [h]; rfl
theorem after_bs (n : Nat) (hac : a ≠ c) (h0 : B0 ≠ []) (z0 : B0.length < 64) (k0 : ∀ x ∈ B0, x.2 = true) (k1 : ∀ x ∈ B1, x.2 = true) (n0 : (B0.map (·.1)).Nodup) (n1 : (B1.map (·.1)).Nodup) (o1 : (B0.map fun x => sayI a b x.1).all (okC 3) = true) (o2 : setC (B0.map fun x => sayI a b x.1) = B0.map fun x => sayI a b x.1)
    {s : List Int} (hs : s ∈ says a b c d B0 B1) (S : Store) : callN tbl (n + 8) 46 [.d (bsD a b c d B0 B1), .d (iT s)] S = some (.d (bsD a b c d B0 B1), S) := by
  rw [call_after_said]
  unfold b_after_said
  refine runFn_ret ?_
  have op := opened_bs (a := a) (b := b) (c := c) (d := d) (B0 := B0) (B1 := B1) (n + 6) S
  have it := bs_items (a := a) (b := b) (c := c) (d := d) (B0 := B0) (B1 := B1)
  have nx := next_said (p := a) (q := b) (nm := 0) (B := B0) (n + 1) h0 z0 o1 o2 S
  have bs := beside_ (a := a) (b := b) (c := c) (d := d) (B0 := B0) (B1 := B1) (n + 3) S
  have mem := iT_memL s (B0.map fun x => sayI a b x.1)
  simp only [tkD] at nx
  by_cases hm : s ∈ B0.map fun x => sayI a b x.1
  · obtain ⟨x, hx, rfl⟩ := List.mem_map.mp hm
    have af := after_said (p := a) (q := b) (nm := 0) (B := B0) (n + 3) n0 hx S
    rw [tk_go x.2 (k0 x hx)] at af
    simp only [tkD] at af
    rw [decide_eq_true hm] at mem
    generalize iT (sayI a b x.1) = X at *
    generalize (B0.map fun x => sayI a b x.1).map iT = Y at *
    generalize bsD a b c d B0 B1 = T at op it bs ⊢
    simp [start0, op, it, at3_0, at3_1, at3_2, q_beside_beside, nx, mem, af, bs]
  · have hm1 : s ∈ B1.map fun x => sayI c d x.1 := by
      unfold says at hs
      rcases List.mem_append.mp hs with e | e
      · exact absurd e hm
      · exact e
    obtain ⟨x, hx, rfl⟩ := List.mem_map.mp hm1
    have af := after_said (p := c) (q := d) (nm := 1) (B := B1) (n + 3) n1 hx S
    rw [tk_go x.2 (k1 x hx)] at af
    simp only [tkD] at af
    rw [decide_eq_false hm] at mem
    generalize iT (sayI c d x.1) = X at *
    generalize (B0.map fun x => sayI a b x.1).map iT = Y at *
    generalize bsD a b c d B0 B1 = T at op it bs ⊢
    simp [start0, op, it, at3_0, at3_1, at3_2, q_beside_beside, nx, mem, af, bs]
theorem written_bs (n : Nat) (k0 : ∀ x ∈ B0, x.2 = true) (k1 : ∀ x ∈ B1, x.2 = true) (l0 : B0.length ≤ 100) (l1 : B1.length ≤ 100) (S : Store) :
    callN tbl (n + 5) 49 [.d (bsD a b c d B0 B1)] S = some (.d (.list ((says a b c d B0 B1).map fun s => .tuple [iT s, bsD a b c d B0 B1])), S) := by
  rw [call_written]
  unfold b_written
  refine runFn_ret ?_
  have op := opened_bs (a := a) (b := b) (c := c) (d := d) (B0 := B0) (B1 := B1) (n + 3) S
  have it := bs_items (a := a) (b := b) (c := c) (d := d) (B0 := B0) (B1 := B1)
  have w0 := written (p := a) (q := b) (nm := 0) (B := B0) n true S
  have w1 := written (p := c) (q := d) (nm := 1) (B := B1) n true S
  rw [if_pos rfl] at w0 w1
  simp only [tkD] at w0 w1
  have bs := beside_ (a := a) (b := b) (c := c) (d := d) (B0 := B0) (B1 := B1) n S
  have c0 : ∀ j1 j2, compRun (.t [4, 3]) (eC (.bool true)) (eTup (aCons (eVar 4) (aCons (eCall (callN tbl (n + 4)) 47 (aCons (eVar 3) (aCons (eIx (eVar 0) (eC (.int 2))) (aNil))) []) (aNil)))) [some (.d (bsD a b c d B0 B1)), j1, j2, none, none] (B0.map fun x => PyData.tuple [iT (sayI a b x.1), tkD a b 0 B0 x.2]) S = some ((B0.map fun x => sayI a b x.1).map fun s => .tuple [iT s, bsD a b c d B0 B1], S) := fun j1 j2 => by
    rw [compRun_of (fun x : Int × Bool => PyData.tuple [iT (sayI a b x.1), tkD a b 0 B0 x.2]) (fun _ => true) (fun x => .tuple [iT (sayI a b x.1), bsD a b c d B0 B1]), all_true, List.map_map]
    · rfl
    · intro x hx
      refine ⟨_, rfl, rfl, fun _ => ?_⟩
      rw [tk_go x.2 (k0 x hx)]
      simp [it, at3_2, bs]
  have c1 : ∀ j1 j2, compRun (.t [4, 3]) (eC (.bool true)) (eTup (aCons (eVar 4) (aCons (eCall (callN tbl (n + 4)) 47 (aCons (eIx (eVar 0) (eC (.int 1))) (aCons (eVar 3) (aNil))) []) (aNil)))) [some (.d (bsD a b c d B0 B1)), j1, j2, none, none] (B1.map fun x => PyData.tuple [iT (sayI c d x.1), tkD c d 1 B1 x.2]) S = some ((B1.map fun x => sayI c d x.1).map fun s => .tuple [iT s, bsD a b c d B0 B1], S) := fun j1 j2 => by
    rw [compRun_of (fun x : Int × Bool => PyData.tuple [iT (sayI c d x.1), tkD c d 1 B1 x.2]) (fun _ => true) (fun x => .tuple [iT (sayI c d x.1), bsD a b c d B0 B1]), all_true, List.map_map]
    · rfl
    · intro x hx
      refine ⟨_, rfl, rfl, fun _ => ?_⟩
      rw [tk_go x.2 (k1 x hx)]
      simp [it, at3_1, bs]
  have e : (says a b c d B0 B1).map (fun s => PyData.tuple [iT s, bsD a b c d B0 B1]) = ((B0.map fun x => sayI a b x.1).map fun s => .tuple [iT s, bsD a b c d B0 B1]) ++ ((B1.map fun x => sayI c d x.1).map fun s => .tuple [iT s, bsD a b c d B0 B1]) := by unfold says; rw [List.map_append]
  have z0 : ((B0.map fun x => sayI a b x.1).map fun s => PyData.tuple [iT s, bsD a b c d B0 B1]).length = B0.length := by simp
  have z1 : ((B1.map fun x => sayI c d x.1).map fun s => PyData.tuple [iT s, bsD a b c d B0 B1]).length = B1.length := by simp
  have z2 : B0.length + B1.length ≤ 1000000 := by omega
  rw [e]
  generalize ((B0.map fun x => sayI a b x.1).map fun s => PyData.tuple [iT s, bsD a b c d B0 B1]) = Y0 at *
  generalize ((B1.map fun x => sayI c d x.1).map fun s => PyData.tuple [iT s, bsD a b c d B0 B1]) = Y1 at *
  simp only [tkD] at w0 w1 c0 c1
  generalize (B0.map fun x => PyData.tuple [iT (sayI a b x.1), tkD a b 0 B0 x.2]) = V0 at *
  generalize (B1.map fun x => PyData.tuple [iT (sayI c d x.1), tkD c d 1 B1 x.2]) = V1 at *
  generalize bsD a b c d B0 B1 = T at *
  simp [start0, op, it, at3_0, at3_1, at3_2, q_beside_end, q_beside_beside, w0, w1, c0, c1, z0, z1, z2]
/-! the shortest; how many states -/
theorem notin_bs : opNotIn (bsD a b c d B0 B1) (.list [bsD a b c d B0 B1]) = some (.bool false) := opNotInL_iff (c := true) pd_bs (fun d hd => by
  rw [List.mem_singleton] at hd
  subst hd
  exact pd_bs) (okD_of dp_bs (by omega)) (by simp)
theorem shortest_bs (n : Nat) (k0 : ∀ x ∈ B0, x.2 = true) (k1 : ∀ x ∈ B1, x.2 = true) (l0 : B0.length ≤ 100) (l1 : B1.length ≤ 100) (S : Store) : callN tbl (n + 6) 55 [.d (bsD a b c d B0 B1)] S = some (.d .none, S) := by
  rw [call_shortest]
  unfold b_shortest
  refine runFn_ret ?_
  have io := is_over_bs (a := a) (b := b) (c := c) (d := d) (B0 := B0) (B1 := B1) n S
  have wr := written_bs (a := a) (b := b) (c := c) (d := d) n k0 k1 l0 l1 S
  have ni := notin_bs (a := a) (b := b) (c := c) (d := d) (B0 := B0) (B1 := B1)
  generalize bsD a b c d B0 B1 = T at *
  obtain ⟨ρ2, e, j4, j5, rfl⟩ := forRun_ix (t := .t [4, 5]) (b := l0_shortest (callN tbl (n + 5))) (S := S) (fun s : List Int => PyData.tuple [iT s, T]) (fun k ρ => ∃ j4 j5, ρ = [some (.d T), some (.d (.list [T])), some (.d (.list [.int 0])), some (.d (.int 0)), j4, j5]) (says a b c d B0 B1) 0 [some (.d T), some (.d (.list [T])), some (.d (.list [.int 0])), some (.d (.int 0)), none, none] ⟨none, none, rfl⟩ (fun k x ρ hk ⟨j4, j5, hρ⟩ => by
    subst hρ
    refine ⟨_, _, rfl, .inl ?_, some (.d (iT x)), some (.d T), rfl⟩
    unfold l0_shortest
    simp [ni])
  generalize (says a b c d B0 B1).map (fun s : List Int => PyData.tuple [iT s, T]) = W at wr e
  have lp : sWhile 1000 (eBin opLt (eVar 3) (eU opLen (eVar 1))) (l1_shortest (callN tbl (n + 5))) [some (.d T), some (.d (.list [T])), some (.d (.list [.int 0])), some (.d (.int 0)), none, none] S = some (.nx [some (.d T), some (.d (.list [T])), some (.d (.list [.int 0])), some (.d (.int 1)), j4, j5] S) := by
    unfold sWhile
    rw [show (1000 : Nat) = 998 + 1 + 1 from rfl, whileRun]
    have hb : l1_shortest (callN tbl (n + 5)) [some (.d T), some (.d (.list [T])), some (.d (.list [.int 0])), some (.d (.int 0)), none, none] S = some (.nx [some (.d T), some (.d (.list [T])), some (.d (.list [.int 0])), some (.d (.int 1)), j4, j5] S) := by
      unfold l1_shortest
      have at0 : L2.atI [T] 0 = some T := rfl
      simp [at0, io, wr, e]
    simp [hb]
    rw [show (999 : Nat) = 998 + 1 from rfl, whileRun]
    simp
  refine seq_go (ρ1 := [some (.d T), some (.d (.list [T])), none, none, none, none]) (S1 := S) (by simp [start0]) ?_
  refine seq_go (ρ1 := [some (.d T), some (.d (.list [T])), some (.d (.list [.int 0])), none, none, none]) (S1 := S) (by simp) ?_
  refine seq_go (ρ1 := [some (.d T), some (.d (.list [T])), some (.d (.list [.int 0])), some (.d (.int 0)), none, none]) (S1 := S) (by simp) ?_
  refine seq_go lp ?_
  simp
theorem states_bs (n : Nat) (k0 : ∀ x ∈ B0, x.2 = true) (k1 : ∀ x ∈ B1, x.2 = true) (l0 : B0.length ≤ 100) (l1 : B1.length ≤ 100) (S : Store) : callN tbl (n + 6) 32 [.d (bsD a b c d B0 B1)] S = some (.d (.int 1), S) := by
  rw [call_states_in]
  unfold b_states_in
  refine runFn_ret ?_
  have wr := written_bs (a := a) (b := b) (c := c) (d := d) n k0 k1 l0 l1 S
  have ni := notin_bs (a := a) (b := b) (c := c) (d := d) (B0 := B0) (B1 := B1)
  generalize bsD a b c d B0 B1 = T at *
  obtain ⟨ρ2, e, j3, j4, rfl⟩ := forRun_ix (t := .t [3, 4]) (b := l0_states_in (callN tbl (n + 5))) (S := S) (fun s : List Int => PyData.tuple [iT s, T]) (fun k ρ => ∃ j3 j4, ρ = [some (.d T), some (.d (.list [T])), some (.d (.int 0)), j3, j4]) (says a b c d B0 B1) 0 [some (.d T), some (.d (.list [T])), some (.d (.int 0)), none, none] ⟨none, none, rfl⟩ (fun k x ρ hk ⟨j3, j4, hρ⟩ => by
    subst hρ
    refine ⟨_, _, rfl, .inl ?_, some (.d (iT x)), some (.d T), rfl⟩
    unfold l0_states_in
    simp [ni])
  generalize (says a b c d B0 B1).map (fun s : List Int => PyData.tuple [iT s, T]) = W at wr e
  have lp : sWhile 1000 (eBin opLt (eVar 2) (eU opLen (eVar 1))) (l1_states_in (callN tbl (n + 5))) [some (.d T), some (.d (.list [T])), some (.d (.int 0)), none, none] S = some (.nx [some (.d T), some (.d (.list [T])), some (.d (.int 1)), j3, j4] S) := by
    unfold sWhile
    rw [show (1000 : Nat) = 998 + 1 + 1 from rfl, whileRun]
    have hb : l1_states_in (callN tbl (n + 5)) [some (.d T), some (.d (.list [T])), some (.d (.int 0)), none, none] S = some (.nx [some (.d T), some (.d (.list [T])), some (.d (.int 1)), j3, j4] S) := by
      unfold l1_states_in
      have at0 : L2.atI [T] 0 = some T := rfl
      simp [at0, wr, e]
    simp [hb]
    rw [show (999 : Nat) = 998 + 1 from rfl, whileRun]
    simp
  refine seq_go (ρ1 := [some (.d T), some (.d (.list [T])), none, none, none]) (S1 := S) (by simp [start0]) ?_
  refine seq_go (ρ1 := [some (.d T), some (.d (.list [T])), some (.d (.int 0)), none, none]) (S1 := S) (by simp) ?_
  refine seq_go lp ?_
  simp
/-! the size -/
theorem sum_ones (l : Br) : (l.map fun _ => (1 : Int)).sum = l.length := by
  induction l with
  | nil => rfl
  | cons y l ih => rw [List.map_cons, List.sum_cons, ih, List.length_cons]; omega
theorem tsize_lf (n : Nat) (nm : Int) (g : Bool) (S : Store) : callN tbl (n + 2) 5 [.d (lf nm g)] S = some (.d (.int 1), S) := by
  rw [call_size]
  unfold b_size
  refine runFn_ret ?_
  have il := inner_lf (nm := nm) n g S
  simp [start0, il, compRun, intsD]
theorem tsize_say {p q : Nat} {nm : Int} {B : Br} (n : Nat) (S : Store) : callN tbl (n + 3) 5 [.d (sayD p q nm B)] S = some (.d (.int (1 + (B.length : Int))), S) := by
  rw [call_size]
  unfold b_size
  refine runFn_ret ?_
  have il := inner_say (p := p) (q := q) (nm := nm) (B := B) (n + 1) S
  have cr : compRun (.n 1) (eC (.bool true)) (eCall (callN tbl (n + 2)) 5 (aCons (eVar 1) (aNil)) []) [some (.d (sayD p q nm B)), none] (B.map fun x => lf nm x.2) S = some ((B.map fun _ => (1 : Int)).map PyData.int, S) := by
    rw [compRun_of (fun x : Int × Bool => lf nm x.2) (fun _ => true) (fun _ => .int 1), all_true, List.map_map]
    · rfl
    · intro x hx
      refine ⟨_, rfl, rfl, fun _ => ?_⟩
      simp [tsize_lf]
  have is := intsD_map (B.map fun _ => (1 : Int))
  rw [← sum_ones]
  generalize (B.map fun _ => (1 : Int)) = W at cr is ⊢
  generalize (B.map fun x => lf nm x.2) = V at il cr
  simp [start0, il, cr, is]
theorem tsize_loop {p q : Nat} {nm : Int} {B : Br} (n : Nat) (S : Store) : callN tbl (n + 4) 5 [.d (loopD p q nm B)] S = some (.d (.int (1 + (1 + (B.length : Int)))), S) := by
  rw [call_size]
  unfold b_size
  refine runFn_ret ?_
  have il := inner_loop (p := p) (q := q) (nm := nm) (B := B) (n + 2) S
  have ss := tsize_say (p := p) (q := q) (nm := nm) (B := B) n S
  simp [start0, il, compRun, ss, intsD]
theorem tsize_bs (n : Nat) (S : Store) : callN tbl (n + 5) 5 [.d (bsD a b c d B0 B1)] S = some (.d (.int (5 + ((B0.length : Int) + (B1.length : Int)))), S) := by
  rw [call_size]
  unfold b_size
  refine runFn_ret ?_
  have il : callN tbl (n + 4) 25 [.d (bsD a b c d B0 B1)] S = some (.d (.list [loopD a b 0 B0, loopD c d 1 B1]), S) := by
    rw [call_inner]
    unfold b_inner
    refine runFn_ret ?_
    have it := bs_items (a := a) (b := b) (c := c) (d := d) (B0 := B0) (B1 := B1)
    generalize bsD a b c d B0 B1 = T at it ⊢
    simp [start0, it, at3_0, at3_1, at3_2, q_beside_say, q_beside_beside]
  have s0 := tsize_loop (p := a) (q := b) (nm := 0) (B := B0) n S
  have s1 := tsize_loop (p := c) (q := d) (nm := 1) (B := B1) n S
  generalize bsD a b c d B0 B1 = T at il ⊢
  simp [start0, il, compRun, s0, s1, intsD]
  omega
end
end K58
set_option Elab.async false
set_option linter.all false
set_option maxRecDepth 20000
namespace K58
open PySem L2 MP
/-! The counts of two loops beside each other, reckoned out. -/
theorem may_say : ∀ p < 4, ∀ q < 4, ∀ n < 7, (((List.range n).map fun i : Nat => sayI p q (i : Int)).all (okC 3) && decide (setC ((List.range n).map fun i : Nat => sayI p q (i : Int)) = (List.range n).map fun i : Nat => sayI p q (i : Int))) = true := by decide +kernel
theorem may_says (p q G E : Nat) : (may G E).map (fun x => sayI p q x.1) = (List.range (G + E)).map fun i : Nat => sayI p q (i : Int) := by
  unfold may
  rw [List.map_map]
  rfl
/-- the key of a talk -/
theorem key_br (nm : Int) (B : Br) : ∃ ks, keyDs (B.map (pr (lf nm))) = some ks := by
  induction B with
  | nil => exact ⟨[], rfl⟩
  | cons x B ih =>
    obtain ⟨ks, e⟩ := ih
    obtain ⟨l, g⟩ := x
    cases g <;> exact ⟨_, by rw [List.map_cons]; simp only [keyDs, e, pr, lf, endD, keyD, Option.map_some]; rfl⟩
theorem pick_at {T : Type} (K : Tk T) (m : Nat) (e : Bool) (w : Nat) (hw : 0 < w) : ∀ (l : List (List Int × T)) (k x : Nat), k ≤ l.length → (∀ i < k, ∀ y, l[i]? = some y → cnt K m y.2 e = w) → x < k * w → ∃ y, l[x / w]? = some y ∧ pick K m e l x = some (y, ((x % w : Nat) : Int))
  | [], k, x, hk, _, hx => by
    simp at hk
    subst hk
    omega
  | y :: l, k, x, hk, h, hx => by
    have hk0 : 0 < k := by
      rcases Nat.eq_zero_or_pos k with e | e
      · subst e; omega
      · exact e
    have h0 := h 0 hk0 y rfl
    unfold pick
    rw [h0]
    by_cases hlt : x < w
    · rw [if_pos (by omega), Nat.div_eq_of_lt hlt, Nat.mod_eq_of_lt hlt]
      exact ⟨y, rfl, rfl⟩
    · rw [if_neg (by omega)]
      obtain ⟨k', rfl⟩ : ∃ k', k = k' + 1 := ⟨k - 1, by omega⟩
      have hx' : x - w < k' * w := by
        have e9 : (k' + 1) * w = k' * w + w := Nat.succ_mul k' w
        omega
      obtain ⟨z, z1, z2⟩ := pick_at K m e w hw l k' (x - w) (by simpa using hk) (fun i hi u hu => h (i + 1) (by omega) u (by simpa using hu)) hx'
      refine ⟨z, ?_, ?_⟩
      · rw [Nat.div_eq_sub_div hw (by omega)]
        simpa using z1
      · rw [show (x : Int) - (w : Int) = ((x - w : Nat) : Int) by omega, z2]
        have e3 := Nat.mod_eq_sub_mod (show x ≥ w by omega)
        rw [e3]

def L1 (p q G : Nat) : List (List Int) := (List.range G).map fun i : Nat => sayI p q (i : Int)
def evL (a b c d G0 G1 : Nat) : List (List Int) := if a < c then L1 a b G0 ++ L1 c d G1 else L1 c d G1 ++ L1 a b G0
def evB (a b c d G0 G1 : Nat) : Bool := decide (a = c) || (decide (setC (L1 a b G0 ++ L1 c d G1) = evL a b c d G0 G1) && (L1 a b G0 ++ L1 c d G1).all (okC 3) && (List.range (G0 + G1)).all fun i => (List.range (G0 + G1)).all fun j => decide (HT.lexLt ((evL a b c d G0 G1).getD i []) ((evL a b c d G0 G1).getD j []) = decide (i < j)))
theorem ev_facts : ∀ a < 4, ∀ b < 4, ∀ c < 4, ∀ d < 4, ((List.range 4).all fun G0 => (List.range 4).all fun G1 => evB a b c d G0 G1) = true := by decide +kernel
theorem says_eq (a b c d G0 G1 : Nat) : says a b c d (may G0 0) (may G1 0) = L1 a b G0 ++ L1 c d G1 := by
  unfold says L1
  rw [may_says, may_says]
  rfl
theorem ev_perm (a b c d G0 G1 : Nat) : (L1 a b G0 ++ L1 c d G1).Perm (evL a b c d G0 G1) := by
  unfold evL
  split
  · exact .refl _
  · exact List.perm_append_comm
theorem ev_len (a b c d G0 G1 : Nat) : (evL a b c d G0 G1).length = G0 + G1 := by
  rw [← (ev_perm a b c d G0 G1).length_eq, List.length_append]
  simp [L1]
structure EvOk (a b c d G0 G1 : Nat) : Prop where
  st : setC (L1 a b G0 ++ L1 c d G1) = evL a b c d G0 G1
  ok : (L1 a b G0 ++ L1 c d G1).all (okC 3) = true
  lx : ∀ i < G0 + G1, ∀ j < G0 + G1, HT.lexLt ((evL a b c d G0 G1).getD i []) ((evL a b c d G0 G1).getD j []) = decide (i < j)
theorem ev_ok {a b c d G0 G1 : Nat} (h : Ro a b c d) (g0 : G0 < 4) (g1 : G1 < 4) : EvOk a b c d G0 G1 := by
  have e := ev_facts a h.a4 b h.b4 c h.c4 d h.d4
  rw [List.all_eq_true] at e
  have e := e G0 (List.mem_range.mpr g0)
  rw [List.all_eq_true] at e
  have e := e G1 (List.mem_range.mpr g1)
  unfold evB at e
  rw [decide_eq_false h.ac, Bool.false_or] at e
  simp only [Bool.and_eq_true, decide_eq_true_eq] at e
  refine ⟨e.1.1, e.1.2, fun i hi j hj => ?_⟩
  have e2 := e.2
  rw [List.all_eq_true] at e2
  have e2 := e2 i (List.mem_range.mpr hi)
  rw [List.all_eq_true] at e2
  exact of_decide_eq_true (e2 j (List.mem_range.mpr hj))
def key8 (a b c d : Nat) (B0 B1 : Br) : NestedKey := (keyD (bsD a b c d B0 B1)).getD .none
theorem key8_is (a b c d : Nat) (B0 B1 : Br) : keyD (bsD a b c d B0 B1) = some (key8 a b c d B0 B1) := by
  obtain ⟨k0, e0⟩ := key_br 0 B0
  obtain ⟨k1, e1⟩ := key_br 1 B1
  unfold key8
  simp [bsD, loopD, sayD, brD, keyD, keyDs, e0, e1]
def K8 (a b c d G0 G1 : Nat) : Tk Unit := ⟨fun _ => bsD a b c d (may G0 0) (may G1 0), fun _ => (evL a b c d G0 G1).map fun s => (s, ()), fun _ => false, fun _ => key8 a b c d (may G0 0) (may G1 0), [()]⟩
theorem go0 (G : Nat) : ∀ x ∈ may G 0, x.2 = true := fun x hx => by
  obtain ⟨l, f⟩ := x
  obtain ⟨i, hi, _, e⟩ := may_mem.mp hx
  show f = true
  rw [e]
  exact decide_eq_true (by omega)
theorem K8_ok {a b c d G0 G1 : Nat} (h : Ro a b c d) (p0 : 0 < G0) (p1 : 0 < G1) (g0 : G0 < 4) (g1 : G1 < 4) : TkOk (K8 a b c d G0 G1) 8 where
  isOver n t S := is_over_bs (n + 3) S
  next n t S := by
    have e := ev_ok h g0 g1
    have := next_bs (a := a) (b := b) (c := c) (d := d) (B0 := may G0 0) (B1 := may G1 0) (n + 1) (may_ne p0) (may_ne p1) (by rw [may_len, may_len]; omega) (ev := evL a b c d G0 G1) (by rw [says_eq]; exact e.ok) (by rw [says_eq]; exact e.st) S
    show callN tbl (n + 8) 44 [.d (bsD a b c d (may G0 0) (may G1 0))] S = some (.d (.list (((evL a b c d G0 G1).map fun s => (s, ())).map fun x => iT x.1)), S)
    rw [List.map_map]
    exact this
  after n t x S hx := by
    obtain ⟨s, hs, rfl⟩ := List.mem_map.mp hx
    have hs2 : s ∈ says a b c d (may G0 0) (may G1 0) := by
      rw [says_eq]
      exact (ev_perm a b c d G0 G1).mem_iff.mpr hs
    have m := may_say a h.a4 b h.b4 (G0 + 0) (by omega)
    rw [Bool.and_eq_true, decide_eq_true_eq, ← may_says] at m
    exact after_bs n h.ac (may_ne p0) (by rw [may_len]; omega) (go0 G0) (go0 G1) (may_nd G0 0) (may_nd G1 0) m.1 m.2 hs2 S
  keyIs t := key8_is a b c d _ _
  keyDp t := Nat.le_trans dp_bs (by omega)
  keyInj t u _ := rfl
  mem t := List.mem_singleton.mpr rfl
  few := by simp [K8]
section
variable {a b c d G0 G1 : Nat}
theorem sum_const {α : Type} (l : List α) (x : Int) : (l.map fun _ => x).sum = (l.length : Int) * x := by
  induction l with
  | nil => simp
  | cons y l ih => rw [List.map_cons, List.sum_cons, ih, List.length_cons]; push_cast; rw [Int.add_mul]; omega
theorem cnt8_up (m : Nat) (e : Bool) : cnt (K8 a b c d G0 G1) (m + 1) () e = ((G0 + G1 : Nat) : Int) * cnt (K8 a b c d G0 G1) m () e := by
  conv => lhs; unfold cnt
  show (((evL a b c d G0 G1).map fun s => (s, ())).map fun x : List Int × Unit => cnt (K8 a b c d G0 G1) m x.2 e).sum = _
  rw [List.map_map]
  have : ((fun x : List Int × Unit => cnt (K8 a b c d G0 G1) m x.2 e) ∘ fun s => (s, ())) = fun _ => cnt (K8 a b c d G0 G1) m () e := rfl
  rw [this, sum_const, ev_len]
theorem cnt8 (m : Nat) : cnt (K8 a b c d G0 G1) m () false = (((G0 + G1) ^ m : Nat) : Int) := by
  induction m with
  | zero => rfl
  | succ m ih =>
    rw [cnt8_up, ih, Nat.pow_succ, Nat.mul_comm]
    push_cast
    rfl
theorem cnt8e (m : Nat) : cnt (K8 a b c d G0 G1) m () true = 0 := by
  induction m with
  | zero => rfl
  | succ m ih => rw [cnt8_up, ih, Int.mul_zero]
def fig8 (K : Nat) : Nat → Nat → List Nat
  | 0, _ => []
  | m + 1, x => (x / K ^ m) :: fig8 K m (x % K ^ m)
theorem fig8_len (K : Nat) : ∀ m x, (fig8 K m x).length = m
  | 0, _ => rfl
  | m + 1, x => by
    unfold fig8
    rw [List.length_cons, fig8_len]
def ev8 (a b c d G0 G1 : Nat) (i : Nat) : List Int := (evL a b c d G0 G1).getD i []
theorem ev8_get {i : Nat} (h : i < G0 + G1) : (evL a b c d G0 G1)[i]? = some (ev8 a b c d G0 G1 i) := by
  unfold ev8
  rw [List.getD_eq_getElem?_getD, List.getElem?_eq_getElem (by rw [ev_len]; exact h)]
  rfl
theorem nth8 (hK : 0 < G0 + G1) : ∀ (m x : Nat), x < (G0 + G1) ^ m → nthA (K8 a b c d G0 G1) false m () x = some ((fig8 (G0 + G1) m x).map (ev8 a b c d G0 G1))
  | 0, _, _ => rfl
  | m + 1, x, hx => by
    have hc : 0 < (G0 + G1) ^ m := Nat.pow_pos hK
    rw [Nat.pow_succ, Nat.mul_comm] at hx
    obtain ⟨y, y1, y2⟩ := pick_at (K8 a b c d G0 G1) m false ((G0 + G1) ^ m) hc ((K8 a b c d G0 G1).nxt ()) (G0 + G1) x (by
      show G0 + G1 ≤ ((evL a b c d G0 G1).map fun s => (s, ())).length
      rw [List.length_map, ev_len]
      exact Nat.le_refl _) (fun i hi y hy => cnt8 m) hx
    have hd : x / (G0 + G1) ^ m < G0 + G1 := by
      rw [Nat.div_lt_iff_lt_mul hc]
      exact hx
    have y1 : ((evL a b c d G0 G1).map fun s => (s, ()))[x / (G0 + G1) ^ m]? = some y := y1
    rw [List.getElem?_map, ev8_get hd] at y1
    cases y1
    unfold nthA
    rw [y2]
    simp only
    rw [nth8 hK m _ (Nat.mod_lt _ hc)]
    rfl
theorem sum8 {m D : Nat} (hD : D < G0 + G1) (e : EvOk a b c d G0 G1) (w : Nat) (hw : cnt (K8 a b c d G0 G1) m () false = w) : ∀ (n j : Nat), j + n ≤ G0 + G1 → sumLt (K8 a b c d G0 G1) m false (ev8 a b c d G0 G1 D) ((List.range' j n).map fun i : Nat => (ev8 a b c d G0 G1 i, ())) = (((min D (j + n) - j) * w : Nat) : Int)
  | 0, j, _ => by
    have : min D (j + 0) - j = 0 := by omega
    rw [this, Nat.zero_mul]
    rfl
  | n + 1, j, hj => by
    rw [List.range'_succ, List.map_cons]
    unfold sumLt
    rw [sum8 hD e w hw n (j + 1) (by omega)]
    have hl : HT.lexLt (ev8 a b c d G0 G1 j) (ev8 a b c d G0 G1 D) = decide (j < D) := e.lx j (by omega) D hD
    by_cases hjd : j < D
    · rw [hl, if_pos (decide_eq_true hjd), hw]
      have : min D (j + (n + 1)) - j = (min D (j + 1 + n) - (j + 1)) + 1 := by omega
      rw [this, Nat.succ_mul]
      push_cast
      omega
    · rw [hl, if_neg (by rw [decide_eq_true_eq]; exact hjd)]
      have e1 : min D (j + (n + 1)) - j = 0 := by omega
      have e2 : min D (j + 1 + n) - (j + 1) = 0 := by omega
      rw [e1, e2]
      simp
theorem nxt8 : (K8 a b c d G0 G1).nxt () = (List.range (G0 + G1)).map fun i : Nat => (ev8 a b c d G0 G1 i, ()) := by
  show (evL a b c d G0 G1).map (fun s => (s, ())) = _
  apply List.ext_getElem?
  intro k
  rw [List.getElem?_map, List.getElem?_map]
  by_cases hk : k < G0 + G1
  · rw [ev8_get hk, List.getElem?_range hk]
    rfl
  · rw [List.getElem?_eq_none (by rw [ev_len]; omega), List.getElem?_eq_none (by rw [List.length_range]; omega)]
    rfl
theorem num8 (e : EvOk a b c d G0 G1) (hK : 0 < G0 + G1) : ∀ (m x : Nat), x < (G0 + G1) ^ m → numA (K8 a b c d G0 G1) false ((fig8 (G0 + G1) m x).map (ev8 a b c d G0 G1)) () = some (x : Int)
  | 0, x, hx => by
    have : x = 0 := by
      have : x < 1 := hx
      omega
    subst this
    rfl
  | m + 1, x, hx => by
    have hc : 0 < (G0 + G1) ^ m := Nat.pow_pos hK
    rw [Nat.pow_succ, Nat.mul_comm] at hx
    have hd : x / (G0 + G1) ^ m < G0 + G1 := by
      rw [Nat.div_lt_iff_lt_mul hc]
      exact hx
    unfold fig8
    rw [List.map_cons]
    unfold numA
    cases hf : ((K8 a b c d G0 G1).nxt ()).find? fun y => decide (y.1 = ev8 a b c d G0 G1 (x / (G0 + G1) ^ m)) with
    | none =>
      exfalso
      rw [List.find?_eq_none] at hf
      have := hf (ev8 a b c d G0 G1 (x / (G0 + G1) ^ m), ()) (by rw [nxt8]; exact List.mem_map.mpr ⟨_, List.mem_range.mpr hd, rfl⟩)
      simp at this
    | some y =>
      simp only
      have hy : y.2 = () := rfl
      rw [hy, num8 e hK m _ (Nat.mod_lt _ hc), List.length_map, fig8_len, nxt8, List.range_eq_range', sum8 hd e ((G0 + G1) ^ m) (cnt8 m) (G0 + G1) 0 (by omega), Option.map_some]
      congr 1
      have : min (x / (G0 + G1) ^ m) (0 + (G0 + G1)) - 0 = x / (G0 + G1) ^ m := by rw [Nat.zero_add, Nat.min_eq_left (Nat.le_of_lt hd), Nat.sub_zero]
      rw [this]
      have := Nat.div_add_mod x ((G0 + G1) ^ m)
      rw [Nat.mul_comm] at this
      omega
end
/-- the figures as the law reckons them -/
def figC (K x : Nat) : Nat → List Nat × Nat
  | 0 => ([], x)
  | k + 1 => ((figC K x k).2 % K :: (figC K x k).1, (figC K x k).2 / K)
theorem figC_left (K x : Nat) : ∀ k, (figC K x k).2 = x / K ^ k
  | 0 => by simp [figC]
  | k + 1 => by
    show (figC K x k).2 / K = _
    rw [figC_left K x k, Nat.div_div_eq_div_mul, Nat.pow_succ]
theorem figC_fig (K x : Nat) : ∀ k, (figC K x k).1 = fig8 K k (x % K ^ k)
  | 0 => rfl
  | k + 1 => by
    show (figC K x k).2 % K :: (figC K x k).1 = _
    have e : fig8 K (k + 1) (x % K ^ (k + 1)) = (x % K ^ (k + 1) / K ^ k) :: fig8 K k (x % K ^ (k + 1) % K ^ k) := rfl
    rw [e, figC_left, figC_fig K x k, Nat.pow_succ, Nat.mod_mul_right_div_self, Nat.mod_mul_right_mod]
theorem figC_is {K x k : Nat} (h : x < K ^ k) : (figC K x k).1 = fig8 K k x := by rw [figC_fig, Nat.mod_eq_of_lt h]
end K58
set_option Elab.async false
set_option linter.all false
set_option maxRecDepth 20000
namespace K58
open PySem L2 MP
/-! The law. -/
theorem PoolAt.more {S : Store} {a : Nat} (h : PoolAt S a) (T : Store) : PoolAt (S ++ T) a := by
  obtain ⟨cs, i, x, c, s, e⟩ := h
  exact ⟨cs, i, x, c, s, by rw [List.getElem?_append_left (List.getElem?_eq_some_iff.mp e).1]; exact e⟩
def lw (ns : List Int) (xs : MP.Env) : MP.Env := some (.scr ns) :: some (.obj 0) :: xs
theorem for_go {src : MSrc} {t : Tg} {b : SMean} {ρ : MP.Env} {S S1 : Store} {ds : List D} {R : Option Out} (h : src ρ S = some (ds, S1)) (k : forRun t b ds ρ S1 = R) : sFor src t b ρ S = R := by
  unfold sFor
  rw [h]
  exact k
theorem comp_go {src : MSrc} {t : Tg} {vs : List Nat} {tst elt : Mean} {ρ : MP.Env} {S S1 S2 : Store} {ds ys : List D} (h : src ρ S = some (ds, S1)) (k : compRun t tst elt (wipeE ρ vs) ds S1 = some (ys, S2)) : eComp src t vs tst elt ρ S = some (.d (.list ys), S2) := by
  rw [x_comp, h]
  simp only [k]
theorem sum_go {m : Mean} {ρ : MP.Env} {S S1 : Store} {is : List Int} (h : m ρ S = some (.d (.list (is.map PyData.int)), S1)) : eU opSum m ρ S = some (.d (.int is.sum), S1) := by
  simp only [x_u, h, x_sum, intsD_map, Option.map_some]
theorem rg_go {m : Mean} {ρ : MP.Env} {S : Store} {l : Nat} {li : Int} (hl : li = l) (hz : l ≤ 1000000) (h : m ρ S = some (.d (.int li), S)) : sRg1 m ρ S = some ((List.range l).map fun (i : Nat) => PyData.int (i : Int), S) := by
  subst hl
  have hb : -1000000 ≤ (l : Int) ∧ (l : Int) ≤ 1000000 := by omega
  rw [x_rg1, h]
  simp only [hb, and_self, if_true, Int.toNat_natCast, upFrom_range]
theorem for_two {t : Nat} {b : SMean} {ρ ρ1 ρ2 : MP.Env} {S : Store} (h0 : b (ρ.set t (some (.d (.int 0)))) S = some (.nx ρ1 S)) (h1 : b (ρ1.set t (some (.d (.int 1)))) S = some (.nx ρ2 S)) : sFor (sRg1 (eC (.int 2))) (.n t) b ρ S = some (.nx ρ2 S) := by
  refine for_go (rg_go (l := 2) rfl (by omega) rfl) ?_
  show forRun (.n t) b [PyData.int 0, PyData.int 1] ρ S = _
  simp only [forRun, x_tgn, h0, h1]
theorem four_roles {res : List Int} (h : res.Perm [0, 1, 2, 3]) : ∃ (a b c d : Nat), Ro a b c d ∧ res = [(a : Int), b, c, d] := by
  have hl := h.length_eq
  match res, hl with
  | [w, x, y, z], _ =>
    have hm : ∀ u, u ∈ [w, x, y, z] → u = 0 ∨ u = 1 ∨ u = 2 ∨ u = 3 := fun u hu => by
      have := h.mem_iff.mp hu
      simpa using this
    have nd : [w, x, y, z].Nodup := h.nodup_iff.mpr (by decide)
    simp only [List.nodup_cons, List.mem_cons, List.not_mem_nil, or_false, not_or, List.nodup_nil, and_true, not_false_eq_true] at nd
    obtain ⟨⟨n1, n2, n3⟩, ⟨n4, n5⟩, n6⟩ := nd
    have hw := hm w (by simp)
    have hx := hm x (by simp)
    have hy := hm y (by simp)
    have hz := hm z (by simp)
    refine ⟨w.toNat, x.toNat, y.toNat, z.toNat, ⟨by omega, by omega, by omega, by omega, by omega, by omega, by omega, by omega, by omega, by omega⟩, ?_⟩
    rw [show (w.toNat : Int) = w by omega, show (x.toNat : Int) = x by omega, show (y.toNat : Int) = y by omega, show (z.toNat : Int) = z by omega]
theorem may0 (G : Nat) : may G 0 = (List.range G).map fun (i : Nat) => ((i : Int), true) := by
  rw [may_eq]
  simp
/-- the branches of a loop -/
theorem br_comp (ρ : MP.Env) (hl : ρ.length = 19) (k : Int) (h5 : ρ.getD 5 none = some (.d (.int k))) (G : Nat) (S : Store) : compRun (.n 17) (eC (.bool true)) (eTup (aCons (eVar 17) (aCons (eTup (aCons (eC (.str "again")) (aCons (eVar 5) (aNil)))) (aNil)))) ρ ((List.range G).map fun (i : Nat) => PyData.int (i : Int)) S = some ((may G 0).map (pr (lf k)), S) := by
  rw [may0, compRun_of (fun (i : Nat) => PyData.int (i : Int)) (fun _ => true) (fun i : Nat => pr (lf k) ((i : Int), true)), all_true, List.map_map]
  · rfl
  · intro i hi
    refine ⟨_, rfl, rfl, fun _ => ?_⟩
    have g17 : (ρ.set 17 (some (.d (.int (i : Int))))).getD 17 none = some (.d (.int i)) := by
      rw [List.getD_eq_getElem?_getD, List.getElem?_set_self (by rw [hl]; omega)]
      rfl
    have g5 : (ρ.set 17 (some (.d (.int (i : Int))))).getD 5 none = some (.d (.int k)) := by
      rw [List.getD_eq_getElem?_getD, List.getElem?_set_ne (by omega), ← List.getD_eq_getElem?_getD]
      exact h5
    simp only [x_tup, x_cons, x_var, g17, g5, x_c, Option.map_some, x_nil]
    rfl
/-- the branches that lead to the loop itself -/
theorem op_comp (ρ : MP.Env) (hl : ρ.length = 19) {p q : Nat} {nm : Int} (G : Nat) {ds : List D} {k : Int} (h4 : ρ.getD 4 none = some (.d (.list ds))) (h5 : ρ.getD 5 none = some (.d (.int k))) (hat : L2.atI ds k = some (loopD p q nm (may G 0))) (S : Store) :
    compRun (.n 17) (eC (.bool true)) (eTup (aCons (eVar 17) (aCons (eIx (eVar 4) (eVar 5)) (aNil)))) ρ ((List.range G).map fun (i : Nat) => PyData.int (i : Int)) S = some ((may G 0).map (pr (tkD p q nm (may G 0))), S) := by
  conv => rhs; rw [may0]
  rw [compRun_of (fun (i : Nat) => PyData.int (i : Int)) (fun _ => true) (fun i : Nat => PyData.tuple [.int (i : Int), loopD p q nm (may G 0)]), all_true, List.map_map]
  · rw [← may0]
    rfl
  · intro i hi
    refine ⟨_, rfl, rfl, fun _ => ?_⟩
    have g17 : (ρ.set 17 (some (.d (.int (i : Int))))).getD 17 none = some (.d (.int i)) := by
      rw [List.getD_eq_getElem?_getD, List.getElem?_set_self (by rw [hl]; omega)]
      rfl
    have g5 : (ρ.set 17 (some (.d (.int (i : Int))))).getD 5 none = some (.d (.int k)) := by
      rw [List.getD_eq_getElem?_getD, List.getElem?_set_ne (by omega), ← List.getD_eq_getElem?_getD]
      exact h5
    have g4 : (ρ.set 17 (some (.d (.int (i : Int))))).getD 4 none = some (.d (.list ds)) := by
      rw [List.getD_eq_getElem?_getD, List.getElem?_set_ne (by omega), ← List.getD_eq_getElem?_getD]
      exact h4
    simp only [x_tup, x_cons, x_ix, x_var, g17, g5, g4, Option.map_some, x_nil]
    simp [hat]
/-- the sayings of a loop -/
theorem sy_comp (ρ : MP.Env) (hl : ρ.length = 19) {p q : Nat} (G : Nat) {ds : List D} {k : Int} (h2 : ρ.getD 2 none = some (.d (.list ds))) (h5 : ρ.getD 5 none = some (.d (.int k))) (a1 : L2.atI ds (2 * k) = some (.int p)) (a2 : L2.atI ds (2 * k + 1) = some (.int q)) (sm : smallI 2 = true) (S : Store) :
    compRun (.n 17) (eC (.bool true)) (eTup (aCons (eIx (eVar 2) (eBin opMul (eC (.int 2)) (eVar 5))) (aCons (eIx (eVar 2) (eBin opAdd (eBin opMul (eC (.int 2)) (eVar 5)) (eC (.int 1)))) (aCons (eVar 17) (aNil))))) ρ ((List.range G).map fun (i : Nat) => PyData.int (i : Int)) S = some ((L1 p q G).map iT, S) := by
  unfold L1
  rw [compRun_of (fun (i : Nat) => PyData.int (i : Int)) (fun _ => true) (fun i : Nat => iT (sayI p q (i : Int))), all_true, List.map_map]
  · rfl
  · intro i hi
    refine ⟨_, rfl, rfl, fun _ => ?_⟩
    have g17 : (ρ.set 17 (some (.d (.int (i : Int))))).getD 17 none = some (.d (.int i)) := by
      rw [List.getD_eq_getElem?_getD, List.getElem?_set_self (by rw [hl]; omega)]
      rfl
    have g5 : (ρ.set 17 (some (.d (.int (i : Int))))).getD 5 none = some (.d (.int k)) := by
      rw [List.getD_eq_getElem?_getD, List.getElem?_set_ne (by omega), ← List.getD_eq_getElem?_getD]
      exact h5
    have g2 : (ρ.set 17 (some (.d (.int (i : Int))))).getD 2 none = some (.d (.list ds)) := by
      rw [List.getD_eq_getElem?_getD, List.getElem?_set_ne (by omega), ← List.getD_eq_getElem?_getD]
      exact h2
    simp only [x_tup, x_cons, x_ix, x_bin, x_var, g17, g5, g2, Option.map_some, x_nil, x_c]
    simp [sm, a1, a2, sayI, iT]
/-- the figures -/
theorem figs {a b c d G0 G1 : Nat} (hK : 0 < G0 + G1) (hK9 : G0 + G1 < 1000) (ns : List Int) (x l : Nat) (hl : l ≤ 1000) (x2 x4 x5 x6 x7 x9 : Option Val) (S : Store) :
    ∃ y5, forRun (.n 5) (l3_law (callN tbl 39)) ((List.range l).map fun (i : Nat) => PyData.int (i : Int)) (lw ns [x2, some (.d (.list [.int G0, .int G1])), x4, x5, x6, x7, some (.d (.list ((evL a b c d G0 G1).map iT))), x9, some (.d (.tuple [])), some (.d (.int x)), none, none, none, none, none, none, none]) S =
      some (.nx (lw ns [x2, some (.d (.list [.int G0, .int G1])), x4, y5, x6, x7, some (.d (.list ((evL a b c d G0 G1).map iT))), x9, some (.d (.tuple (((figC (G0 + G1) x l).1.map (ev8 a b c d G0 G1)).map iT))), some (.d (.int (figC (G0 + G1) x l).2)), none, none, none, none, none, none, none]) S) := by
  have fl : ∀ k, (figC (G0 + G1) x k).1.length = k := fun k => by
    induction k with
    | zero => rfl
    | succ k ih => unfold figC; rw [List.length_cons, ih]
  obtain ⟨ρ2, e, y5, rfl⟩ := forRun_ix (t := .n 5) (b := l3_law (callN tbl 39)) (S := S) (fun (i : Nat) => PyData.int (i : Int)) (fun k ρ => ∃ y5, ρ = lw ns [x2, some (.d (.list [.int G0, .int G1])), x4, y5, x6, x7, some (.d (.list ((evL a b c d G0 G1).map iT))), x9, some (.d (.tuple (((figC (G0 + G1) x (min k l)).1.map (ev8 a b c d G0 G1)).map iT))), some (.d (.int (figC (G0 + G1) x (min k l)).2)), none, none, none, none, none, none, none]) (List.range l) 0 _ ⟨x5, by rw [Nat.zero_min]⟩ (fun k z ρ hk ⟨y5, hρ⟩ => by
    subst hρ
    have hkl := (List.getElem?_eq_some_iff.mp hk).1
    rw [List.length_range] at hkl
    rw [Nat.zero_add, Nat.min_eq_left (by omega), Nat.min_eq_left (by omega)]
    refine ⟨_, _, rfl, .inl ?_, some (.d (.int z)), rfl⟩
    have f0 := fl k
    have es : figC (G0 + G1) x (k + 1) = ((figC (G0 + G1) x k).2 % (G0 + G1) :: (figC (G0 + G1) x k).1, (figC (G0 + G1) x k).2 / (G0 + G1)) := rfl
    rw [es]
    generalize figC (G0 + G1) x k = F at f0 ⊢
    obtain ⟨F, w⟩ := F
    have f0 : F.length = k := f0
    have hm : w % (G0 + G1) < G0 + G1 := Nat.mod_lt _ hK
    have at1 : L2.atI ((evL a b c d G0 G1).map iT) ((w : Int) % ((G0 : Int) + (G1 : Int))) = some (iT (ev8 a b c d G0 G1 (w % (G0 + G1)))) := by
      rw [show (w : Int) % ((G0 : Int) + (G1 : Int)) = ((w % (G0 + G1) : Nat) : Int) by push_cast; rfl]
      exact MP.atI_nat (by rw [List.getElem?_map, ev8_get hm]; rfl)
    have sm : opSum (.d (.list [.int G0, .int G1])) = some (.int ((G0 : Int) + (G1 : Int))) := by simp [intsD]
    have h3 : (0 : Int) < (G0 : Int) + (G1 : Int) ∧ (G0 : Int) + (G1 : Int) < 1073741824 := by omega
    have h4 : 1 + F.length ≤ 1000000 := by omega
    have h5 : F.length + 1 ≤ 1000000 := by omega
    generalize (evL a b c d G0 G1).map iT = Y at at1 ⊢
    unfold l3_law lw
    simp [-x_sum, sm, h3, h4, h5, at1])
  rw [Nat.zero_add, List.length_range, Nat.min_self] at e
  exact ⟨y5, e⟩
theorem pw_comp (t : Int) (h0 : 0 ≤ t) (h1 : t ≤ 1000) (ρ : MP.Env) (hl : ρ.length = 19) (h15 : ρ.getD 15 none = some (.d (.int t))) (r : Nat) (hr : r ≤ 100) (S : Store) : compRun (.n 5) (eC (.bool true)) (eCall (callN tbl 39) 41 (aCons (eVar 15) (aCons (eVar 5) (aNil))) []) ρ ((List.range r).map fun (i : Nat) => PyData.int (i : Int)) S = some (((List.range r).map fun k => t ^ k).map PyData.int, S) := by
  rw [compRun_of (fun (i : Nat) => PyData.int (i : Int)) (fun _ => true) (fun k => .int (t ^ k)), all_true, List.map_map]
  · rfl
  · intro i hi
    rw [List.mem_range] at hi
    refine ⟨_, rfl, rfl, fun _ => ?_⟩
    have g5 : (ρ.set 5 (some (.d (.int (i : Int))))).getD 5 none = some (.d (.int i)) := by
      rw [List.getD_eq_getElem?_getD, List.getElem?_set_self (by rw [hl]; omega)]
      rfl
    have g15 : (ρ.set 5 (some (.d (.int (i : Int))))).getD 15 none = some (.d (.int t)) := by
      rw [List.getD_eq_getElem?_getD, List.getElem?_set_ne (by omega), ← List.getD_eq_getElem?_getD]
      exact h15
    simp only [x_call, x_cons, x_var, g5, g15, Option.map_some, x_nil]
    exact power 38 h0 h1 i (by omega) rfl S
theorem mk4_one {a b c d G0 G1 r : Nat} : (mk4 a b c d (may G0 0) (may G1 0) r).1 = 1 := by
  have e : ∀ G, anyE (may G 0) = false := fun G => by rw [may_anyE]; rfl
  unfold mk4 lpM mach
  rw [e, e]
  split <;> split
  · rfl
  · split <;> rfl
  · rfl
  · split <;> rfl
theorem sk_br {B : Br} (f : Bool → D) (h : ∀ g, sk (f g) = true) (hz : B.length ≤ 1000) : sk (brD f B) = true := by
  unfold brD
  simp only [sk, Bool.and_eq_true, decide_eq_true_eq]
  refine ⟨by rw [List.length_map]; exact hz, ?_⟩
  clear hz
  induction B with
  | nil => rfl
  | cons x B ih => simp [sks, sk, pr, h, ih]
theorem sk_op {p q : Nat} {nm : Int} {B : Br} (hz : B.length ≤ 1000) : sk (opT p q nm B) = true := by
  have h0 : ∀ g, sk (lf nm g) = true := fun g => by cases g <;> rfl
  have h1 : ∀ g, sk (tkD p q nm B g) = true := fun g => by
    cases g
    · rfl
    · have := sk_br (lf nm) h0 hz
      simp [tkD, loopD, sayD, sk, sks, this]
  have := sk_br (tkD p q nm B) h1 hz
  simp [opT, sk, sks, this]
end K58
set_option Elab.async false
set_option linter.all false
set_option maxRecDepth 20000
namespace K58
open PySem L2 MP
theorem lex_lt : ∀ a b : List Int, HT.lexLt a b = decide (a < b)
  | [], [] => by simp [HT.lexLt]
  | [], y :: ys => by simp [HT.lexLt]
  | x :: xs, [] => by simp [HT.lexLt]
  | x :: xs, y :: ys => by
    rw [HT.lexLt_cons, lex_lt xs ys]
    by_cases h : x = y
    · subst h
      simp [List.cons_lt_cons_iff]
    · simp [List.cons_lt_cons_iff, h]
theorem dueS_small : ∀ G < 4, ∀ r < 3, smallI (dueS G r) = true := by decide +kernel
theorem getS {ρ : MP.Env} {i : Nat} {v : Option Val} (h : i < ρ.length) : (ρ.set i v).getD i none = v := by
  rw [List.getD_eq_getElem?_getD, List.getElem?_set_self h]
  rfl
theorem getN {ρ : MP.Env} {i j : Nat} {v w : Option Val} (h : i ≠ j) (k : ρ.getD j none = w) : (ρ.set i v).getD j none = w := by
  rw [List.getD_eq_getElem?_getD, List.getElem?_set_ne h, ← List.getD_eq_getElem?_getD]
  exact k
theorem law_true : ∀ ns : List Int, ns.length ≤ 63 → ∃ S, callN tbl 40 6 [.scr ns] [] = some (.d (.bool true), S) := by
  intro ns _
  obtain ⟨sa, e1⟩ := pool 38 ns []
  have e1 : callN tbl 39 1 [.scr ns] [] = some (.obj 0, [.cells [.list (ns.map PyData.int), .int 0, .int 0, .int 0, .int sa]]) := e1
  have hp1 : PoolAt [.cells [.list (ns.map PyData.int), .int 0, .int 0, .int 0, .int sa]] 0 := ⟨ns, 0, 0, 0, sa, rfl⟩
  generalize ([.cells [.list (ns.map PyData.int), .int 0, .int 0, .int 0, .int sa]] : Store) = S1 at e1 hp1
  obtain ⟨res, S2, e2, pm, hp2, _⟩ := shuffled 36 0 [0, 1, 2, 3] (by simp) S1 hp1
  have e2 : callN tbl 39 4 [.obj 0, .d (.list [.int 0, .int 1, .int 2, .int 3])] S1 = some (.d (.list (res.map PyData.int)), S2) := e2
  obtain ⟨a, b, c, d, ro, rfl⟩ := four_roles pm
  have e2 : callN tbl 39 4 [.obj 0, .d (.list [.int 0, .int 1, .int 2, .int 3])] S1 = some (.d (.list [.int (a : Int), .int (b : Int), .int (c : Int), .int (d : Int)]), S2) := e2
  obtain ⟨v0, S3, e3, x0, x1, hp3, _⟩ := draw 37 (many := 3) (by omega) (by omega) S2 hp2
  have e3 : callN tbl 39 3 [.obj 0, .d (.int 3)] S2 = some (.d (.int v0), S3) := e3
  obtain ⟨v1, S4, e4, y0, y1, hp4, _⟩ := draw 37 (many := 3) (by omega) (by omega) S3 hp3
  have e4 : callN tbl 39 3 [.obj 0, .d (.int 3)] S3 = some (.d (.int v1), S4) := e4
  obtain ⟨G0, hG0⟩ : ∃ G : Nat, 1 + v0 = (G : Int) := ⟨(1 + v0).toNat, by omega⟩
  obtain ⟨G1, hG1⟩ : ∃ G : Nat, 1 + v1 = (G : Int) := ⟨(1 + v1).toNat, by omega⟩
  have p0 : 0 < G0 := by omega
  have p1 : 0 < G1 := by omega
  have q0 : G0 < 4 := by omega
  have q1 : G1 < 4 := by omega
  obtain ⟨vl, S5, e5, l0, l1, hp5, _⟩ := draw 37 (many := 7) (by omega) (by omega) S4 hp4
  have e5 : callN tbl 39 3 [.obj 0, .d (.int 7)] S4 = some (.d (.int vl), S5) := e5
  obtain ⟨l, rfl⟩ : ∃ l : Nat, vl = (l : Int) := ⟨vl.toNat, by omega⟩
  have hl7 : l < 7 := by omega
  have K := K8_ok ro p0 p1 q0 q1
  have m0 : (may G0 0).length ≤ 60 := by rw [may_len]; omega
  have m1 : (may G1 0).length ≤ 60 := by rw [may_len]; omega
  have lenB0 : (may G0 0).length ≤ 100 := by rw [may_len]; omega
  have lenB1 : (may G1 0).length ≤ 100 := by rw [may_len]; omega
  obtain ⟨X6, c1⟩ := count K (m := l) (by omega) (mi := (l : Int)) rfl (29 - l) () false S5
  obtain ⟨X7, c2⟩ := count K (m := l) (by omega) (mi := (l : Int)) rfl (29 - l) () true (S5 ++ X6)
  rw [show 29 - l + l + 8 + 2 = 39 by omega] at c1 c2
  rw [cnt8] at c1
  rw [cnt8e] at c2
  have c1' : callN tbl 39 52 [.d (bsD a b c d (may G0 0) (may G1 0)), .d (.int (l : Int)), .d (.bool false)] S5 = some (.d (.int (((G0 + G1) ^ l : Nat) : Int)), S5 ++ X6) := c1
  have c2' : callN tbl 39 52 [.d (bsD a b c d (may G0 0) (may G1 0)), .d (.int (l : Int)), .d (.bool true)] (S5 ++ X6) = some (.d (.int 0), S5 ++ X6 ++ X7) := c2
  have hp7 : PoolAt (S5 ++ X6 ++ X7) 0 := (hp5.more X6).more X7
  generalize S5 ++ X6 ++ X7 = S7 at c2' hp7
  generalize S5 ++ X6 = S6 at c1' c2'
  have sh : ∀ S, callN tbl 39 55 [.d (bsD a b c d (may G0 0) (may G1 0))] S = some (.d .none, S) := fun S => shortest_bs 33 (go0 G0) (go0 G1) lenB0 lenB1 S
  have sz : ∀ S, callN tbl 39 5 [.d (bsD a b c d (may G0 0) (may G1 0))] S = some (.d (.int (5 + ((G0 : Int) + (G1 : Int)))), S) := fun S => by
    have := tsize_bs (a := a) (b := b) (c := c) (d := d) (B0 := may G0 0) (B1 := may G1 0) 34 S
    rw [may_len, may_len] at this
    exact this
  have ss : ∀ S, callN tbl 39 32 [.d (bsD a b c d (may G0 0) (may G1 0))] S = some (.d (.int 1), S) := fun S => states_bs 33 (go0 G0) (go0 G1) lenB0 lenB1 S
  have pI : (((G0 + G1) ^ l : Nat) : Int) = ((G0 : Int) + (G1 : Int)) ^ l := by push_cast; rfl
  have pw : ∀ S, callN tbl 39 41 [.d (.int ((G0 : Int) + (G1 : Int))), .d (.int (l : Int))] S = some (.d (.int (((G0 + G1) ^ l : Nat) : Int)), S) := fun S => by
    rw [pI]
    exact power 38 (by omega) (by omega) l (by omega) rfl S
  have hKp : 0 < G0 + G1 := by omega
  have hpow : (G0 + G1) ^ l ≤ 6 ^ 6 := Nat.le_trans (Nat.pow_le_pow_left (show G0 + G1 ≤ 6 by omega) l) (Nat.pow_le_pow_right (by omega) (by omega))
  have hpow2 : 0 < (G0 + G1) ^ l := Nat.pow_pos hKp
  have h66 : 6 ^ 6 = 46656 := by decide
  have sm4 : ∀ (i j : Int) S, callN tbl 39 0 [.d (.list [.int i, .int 0, .none, .int j]), .d (.list [.int i, .int 0, .none, .int j])] S = some (.d (.bool true), S) := fun i j S => same_self 1 37 _ S (by simp [PyData.depth, PyData.depthAll]) (by simp [sk, sks])
  have op0 : ∀ S, callN tbl 39 43 [.d (loopD a b 0 (may G0 0))] S = some (.d (opT a b 0 (may G0 0)), S) := fun S => opened_t (p := a) (q := b) (nm := 0) (B := may G0 0) 36 true S
  have op1 : ∀ S, callN tbl 39 43 [.d (loopD c d 1 (may G1 0))] S = some (.d (opT c d 1 (may G1 0)), S) := fun S => opened_t (p := c) (q := d) (nm := 1) (B := may G1 0) 36 true S
  have so0 : ∀ S, callN tbl 39 0 [.d (opT a b 0 (may G0 0)), .d (opT a b 0 (may G0 0))] S = some (.d (.bool true), S) := fun S => same_self 8 30 _ S (dp_ot (p := a) (q := b) (nm := 0) (B := may G0 0) true) (sk_op (by omega))
  have so1 : ∀ S, callN tbl 39 0 [.d (opT c d 1 (may G1 0)), .d (opT c d 1 (may G1 0))] S = some (.d (.bool true), S) := fun S => same_self 8 30 _ S (dp_ot (p := c) (q := d) (nm := 1) (B := may G1 0) true) (sk_op (by omega))
  obtain ⟨vn, S8, e8, n0, n1, hp8, _⟩ := draw 37 (many := (((G0 + G1) ^ l : Nat) : Int)) (by omega) (by omega) S7 hp7
  have e8 : callN tbl 39 3 [.obj 0, .d (.int (((G0 + G1) ^ l : Nat) : Int))] S7 = some (.d (.int vn), S8) := e8
  obtain ⟨x, rfl⟩ : ∃ x : Nat, vn = (x : Int) := ⟨vn.toNat, by omega⟩
  have hx : x < (G0 + G1) ^ l := by omega
  have ev := ev_ok ro q0 q1
  obtain ⟨X9, nt0⟩ := nth K 19 false (m := l) (by omega) (mi := (l : Int)) rfl () (v := (x : Int)) (by omega) (by rw [cnt8]; omega) (nth8 hKp l x hx) S8
  obtain ⟨X10, nu0⟩ := number_of K 19 (r := (fig8 (G0 + G1) l x).map (ev8 a b c d G0 G1)) (by rw [List.length_map, fig8_len]; omega) () (num8 ev hKp l x hx) (S8 ++ X9)
  have nt : callN tbl 39 53 [.d (bsD a b c d (may G0 0) (may G1 0)), .d (.int (l : Int)), .d (.int x), .d (.bool false)] S8 = some (.d (.tuple (((fig8 (G0 + G1) l x).map (ev8 a b c d G0 G1)).map iT)), S8 ++ X9) := nt0
  have nu : callN tbl 39 54 [.d (bsD a b c d (may G0 0) (may G1 0)), .d (.tuple (((fig8 (G0 + G1) l x).map (ev8 a b c d G0 G1)).map iT)), .d (.bool false)] (S8 ++ X9) = some (.d (.int x), S8 ++ X9 ++ X10) := nu0
  have hp10 : PoolAt (S8 ++ X9 ++ X10) 0 := (hp8.more X9).more X10
  have srow : ∀ S, callN tbl 39 0 [.d (.list [.tuple (((fig8 (G0 + G1) l x).map (ev8 a b c d G0 G1)).map iT), .int x]), .d (.list [.tuple (((fig8 (G0 + G1) l x).map (ev8 a b c d G0 G1)).map iT), .int x])] S = some (.d (.bool true), S) := fun S => by
    have dp : ∀ L : List (List Int), PyData.depthAll (L.map iT) ≤ 1 := fun L => by
      induction L with
      | nil => simp [PyData.depthAll]
      | cons z L ih => simp only [List.map_cons, PyData.depthAll, iT, PyData.depth, dp_ints]; omega
    have sks' : ∀ L : List (List Int), (∀ z ∈ L, z.length ≤ 1000) → sks (L.map iT) = true := fun L => by
      induction L with
      | nil => intro _; rfl
      | cons z L ih =>
        intro h
        rw [List.map_cons]
        simp only [sks, Bool.and_eq_true]
        exact ⟨sk_iT (h z List.mem_cons_self), ih fun y hy => h y (List.mem_cons_of_mem _ hy)⟩
    have d1 := dp ((fig8 (G0 + G1) l x).map (ev8 a b c d G0 G1))
    have k1 := sks' ((fig8 (G0 + G1) l x).map (ev8 a b c d G0 G1)) fun z hz => by
      obtain ⟨i, _, rfl⟩ := List.mem_map.mp hz
      have : ∀ s ∈ evL a b c d G0 G1, s.length = 3 := fun s hs => by
        have hs := (ev_perm a b c d G0 G1).mem_iff.mpr hs
        rcases List.mem_append.mp hs with q | q
        · obtain ⟨_, _, rfl⟩ := List.mem_map.mp q
          rfl
        · obtain ⟨_, _, rfl⟩ := List.mem_map.mp q
          rfl
      unfold ev8
      rw [List.getD_eq_getElem?_getD]
      cases he : (evL a b c d G0 G1)[i]? with
      | none => simp
      | some s =>
        have := this s (List.mem_of_getElem? he)
        show s.length ≤ 1000
        omega
    have k2 : (((fig8 (G0 + G1) l x).map (ev8 a b c d G0 G1)).map iT).length ≤ 1000 := by rw [List.length_map, List.length_map, fig8_len]; omega
    generalize ((fig8 (G0 + G1) l x).map (ev8 a b c d G0 G1)).map iT = Z at d1 k1 k2
    refine same_self 3 35 _ S ?_ ?_
    · simp only [PyData.depth, PyData.depthAll]
      omega
    · simp [sk, sks, k1, k2]
  obtain ⟨y5, fg⟩ := figs (a := a) (b := b) (c := c) (d := d) (G0 := G0) (G1 := G1) hKp (by omega) ns x l (by omega) (some (.d (.list [.int (a : Int), .int (b : Int), .int (c : Int), .int (d : Int)]))) (some (.d (.list [loopD a b 0 (may G0 0), loopD c d 1 (may G1 0)]))) (some (.d (.int 1))) (some (.d (bsD a b c d (may G0 0) (may G1 0)))) (some (.d (.int (l : Int)))) (some (.d (.int x))) S8
  rw [figC_is hx] at fg
  generalize ((fig8 (G0 + G1) l x).map (ev8 a b c d G0 G1)).map iT = R at nt nu srow fg
  generalize S8 ++ X9 ++ X10 = S10 at nu hp10
  generalize S8 ++ X9 = S9 at nt nu
  -- the machines
  have two : Two a b c d (may G0 0) (may G1 0) := ⟨ro.ab, ro.cd, by omega, by omega, may_any p0, may_any p1, may_up G0 0, may_up G1 0⟩
  have pt : callN tbl 39 12 [.d (bsD a b c d (may G0 0) (may G1 0))] S10 = some (.d (.list ((List.range 4).map (part4 a b c d (may G0 0) (may G1 0)))), S10 ++ [pO 0] ++ [pO 1] ++ [pO 2] ++ [pO 3]) := parts4 30 two S10
  have hp11 : PoolAt (S10 ++ [pO 0] ++ [pO 1] ++ [pO 2] ++ [pO 3]) 0 := (((hp10.more _).more _).more _).more _
  generalize S10 ++ [pO 0] ++ [pO 1] ++ [pO 2] ++ [pO 3] = S11 at pt hp11
  have mc : ∀ (ρ : MP.Env) (S : Store), ρ.length = 19 → compRun (.n 16) (eC (.bool true)) (eCall (callN tbl 39) 15 (aCons (eVar 16) (aNil)) []) ρ ((List.range 4).map (part4 a b c d (may G0 0) (may G1 0))) S = some ((ms4 a b c d (may G0 0) (may G1 0)).map Mach.d, S) := fun ρ S hl => by
    rw [compRun_of (part4 a b c d (may G0 0) (may G1 0)) (fun _ => true) (fun r => Mach.d (mk4 a b c d (may G0 0) (may G1 0) r)), all_true]
    · unfold ms4
      rw [List.map_map]
      rfl
    · intro r hr
      refine ⟨_, rfl, rfl, fun _ => ?_⟩
      have g16 : (ρ.set 16 (some (.d (part4 a b c d (may G0 0) (may G1 0) r)))).getD 16 none = some (.d (part4 a b c d (may G0 0) (may G1 0) r)) := by
        rw [List.getD_eq_getElem?_getD, List.getElem?_set_self (by rw [hl]; omega)]
        rfl
      simp only [x_call, x_cons, x_var, g16, Option.map_some, x_nil]
      exact machine4 35 two r S
  obtain ⟨vr, S12, e12, r0, r1, hp12, _⟩ := draw 37 (many := 2) (by omega) (by omega) S11 hp11
  have e12 : callN tbl 39 3 [.obj 0, .d (.int 2)] S11 = some (.d (.int vr), S12) := e12
  obtain ⟨rm, hrm⟩ : ∃ z : Nat, 1 + vr = (z : Int) := ⟨(1 + vr).toNat, by omega⟩
  have lt := letters4 ro p0 q0 q1 (room := rm) (by omega) (by omega) 34 S12
  obtain ⟨⟨ds, lt1, lt2⟩, lt3⟩ := lt
  have lt1 : callN tbl 39 34 [.d (msD (ms4 a b c d (may G0 0) (may G1 0))), .d (.int (rm : Int))] S12 = some (.d (.list ds), S12) := lt1
  have lt3 : callN tbl 39 24 [.d (msD (ms4 a b c d (may G0 0) (may G1 0))), .d (.int (rm : Int))] S12 = some (.d .none, S12) := lt3
  obtain ⟨hs1, hs2, hs3⟩ := hands ro (may_allgo G0) (may_allgo G1) (may_ne p0) (by omega) (by omega) 35 S12
  have hs1 : callN tbl 39 38 [.d (msD (ms4 a b c d (may G0 0) (may G1 0)))] S12 = some (.d (.list [iT zz]), S12) := hs1
  have hs2 : callN tbl 39 40 [.d (msD (ms4 a b c d (may G0 0) (may G1 0)))] S12 = some (.d .none, S12) := hs2
  have hs3 : callN tbl 39 39 [.d (msD (ms4 a b c d (may G0 0) (may G1 0))), .d (iT zz)] S12 = some (.d (.bool false), S12) := hs3
  have du : ∀ (G : Nat) (hG : G < 1000) (ρ : MP.Env) (S : Store), ρ.length = 19 → ρ.getD 15 none = some (.d (.int G)) → ρ.getD 13 none = some (.d (.int (rm : Int))) → eU opSum (eComp (sRg1 (eBin opAdd (eVar 13) (eC (.int 1)))) (.n 5) [5] (eC (.bool true)) (eCall (callN tbl 39) 41 (aCons (eVar 15) (aCons (eVar 5) (aNil))) [])) ρ S = some (.d (.int (dueS G rm)), S) := fun G hG ρ S hl h15 h13 => by
    refine sum_go (comp_go (rg_go (l := rm + 1) (li := (rm : Int) + 1) (by omega) (by omega) ?_) (pw_comp (G : Int) (by omega) (by omega) _ ?_ ?_ (rm + 1) (by omega) S))
    · simp only [x_bin, x_var, h13, Option.map_some, x_c, x_addI]
    · simpa using hl
    · simp only [x_wipe, x_wipe0]
      rw [List.getD_eq_getElem?_getD, List.getElem?_set_ne (by omega), ← List.getD_eq_getElem?_getD]
      exact h15
  have ones : ∀ (ρ : MP.Env) (S : Store), ρ.length = 19 → compRun (.n 18) (eC (.bool true)) (eIx (eVar 18) (eC (.int 0))) ρ ((ms4 a b c d (may G0 0) (may G1 0)).map Mach.d) S = some ([.int 1, .int 1, .int 1, .int 1], S) := fun ρ S hl => by
    rw [compRun_of Mach.d (fun _ => true) (fun m => .int m.1), all_true]
    · show some ([PyData.int (mk4 a b c d (may G0 0) (may G1 0) 0).1, .int (mk4 a b c d (may G0 0) (may G1 0) 1).1, .int (mk4 a b c d (may G0 0) (may G1 0) 2).1, .int (mk4 a b c d (may G0 0) (may G1 0) 3).1], S) = _
      rw [mk4_one, mk4_one, mk4_one, mk4_one]
    · intro m hm
      refine ⟨_, rfl, rfl, fun _ => ?_⟩
      have g18 : (ρ.set 18 (some (.d (Mach.d m)))).getD 18 none = some (.d (Mach.d m)) := by
        rw [List.getD_eq_getElem?_getD, List.getElem?_set_self (by rw [hl]; omega)]
        rfl
      have im : ∀ S : Store, items S (.d (Mach.d m)) = some [.int m.1, .tuple (m.2.map MP.Step.d)] := fun _ => rfl
      simp only [x_ix, x_var, g18, Option.map_some, x_c]
      simp [im, at2_0]
  have slast : ∀ (i : Int) S, callN tbl 39 0 [.d (.list [.list [.int 1, .int 1, .int 1, .int 1], .int 1, .int i, .none, .none]), .d (.list [.list [.int 1, .int 1, .int 1, .int 1], .int 1, .int i, .none, .none])] S = some (.d (.bool true), S) := fun i S => same_self 2 36 _ S (by simp [PyData.depth, PyData.depthAll]) (by simp [sk, sks])
  have msT : (PyData.tuple ((ms4 a b c d (may G0 0) (may G1 0)).map Mach.d) : D) = msD (ms4 a b c d (may G0 0) (may G1 0)) := rfl
  have msI : ∀ S : Store, items S (.d (msD (ms4 a b c d (may G0 0) (may G1 0)))) = some ((ms4 a b c d (may G0 0) (may G1 0)).map Mach.d) := fun _ => rfl
  have srt : sortBy iT (L1 a b G0 ++ L1 c d G1) = evL a b c d G0 G1 := by
    refine sort_rows ?_ (ev_perm a b c d G0 G1)
    rw [List.pairwise_iff_getElem]
    intro i j hi hj hij
    rw [ev_len] at hi hj
    have h1 := ev.lx j hj i hi
    have h2 : ¬ j < i := by omega
    rw [decide_eq_false h2] at h1
    have g1 := ev8_get (a := a) (b := b) (c := c) (d := d) (G0 := G0) (G1 := G1) hi
    have g2 := ev8_get (a := a) (b := b) (c := c) (d := d) (G0 := G0) (G1 := G1) hj
    rw [List.getElem?_eq_getElem (by rw [ev_len]; exact hi)] at g1
    rw [List.getElem?_eq_getElem (by rw [ev_len]; exact hj)] at g2
    injection g1 with g1
    injection g2 with g2
    rw [g1, g2]
    refine List.not_lt.mp fun hlt => ?_
    have h3 : HT.lexLt (ev8 a b c d G0 G1 j) (ev8 a b c d G0 G1 i) = false := h1
    rw [lex_lt] at h3
    exact of_decide_eq_false h3 hlt
  have srtD := sortD_map iT (L1 a b G0 ++ L1 c d G1)
  rw [srt] at srtD
  have srtO : sortOk ((L1 a b G0 ++ L1 c d G1).map iT) = true := sortOk_rows _ fun z hz => by
    rcases List.mem_append.mp hz with q | q
    · obtain ⟨_, _, rfl⟩ := List.mem_map.mp q
      simp [sayI]
    · obtain ⟨_, _, rfl⟩ := List.mem_map.mp q
      simp [sayI]
  rw [List.map_append] at srtD srtO
  have dsm := dueS_small G0 q0 rm (by omega)
  have sm2 : smallI 2 = true := by decide
  have sumS : opSum (.d (.list [.int G0, .int G1])) = some (.int ((G0 : Int) + (G1 : Int))) := by simp [intsD]
  have zl0 : ((L1 a b G0).map iT).length = G0 := by simp [L1]
  have zl1 : ((L1 c d G1).map iT).length = G1 := by simp [L1]
  have zz1 : G0 + G1 ≤ 1000000 := by omega
  have zz0 : G0 ≤ 1000000 := by omega
  have so0' : ∀ S, callN tbl 39 0 [.d (opT a b 0 (may G0 0)), .d (.tuple [.str "say", .int a, .int b, .tuple ((may G0 0).map (pr (tkD a b 0 (may G0 0))))])] S = some (.d (.bool true), S) := so0
  have so1' : ∀ S, callN tbl 39 0 [.d (opT c d 1 (may G1 0)), .d (.tuple [.str "say", .int c, .int d, .tuple ((may G1 0).map (pr (tkD c d 1 (may G1 0))))])] S = some (.d (.bool true), S) := so1
  have lp0 : PyData.tuple [.str "loop", .int 0, .tuple [.str "say", .int a, .int b, .tuple ((may G0 0).map (pr (lf 0)))]] = loopD a b 0 (may G0 0) := rfl
  have lp1 : PyData.tuple [.str "loop", .int 1, .tuple [.str "say", .int c, .int d, .tuple ((may G1 0).map (pr (lf 1)))]] = loopD c d 1 (may G1 0) := rfl
  have hT : PyData.tuple [.str "beside", loopD a b 0 (may G0 0), loopD c d 1 (may G1 0)] = bsD a b c d (may G0 0) (may G1 0) := rfl
  generalize bsD a b c d (may G0 0) (may G1 0) = T at *
  generalize ((G0 + G1) ^ l : Nat) = PW at *
  rw [call_law]
  unfold b_law
  refine ⟨S12, runFn_ret ?_⟩
  refine seq_go (ρ1 := lw ns [none, none, none, none, none, none, none, none, none, none, none, none, none, none, none, none, none]) (S1 := S1) (by
    simp [start0, lw, e1]) ?_
  refine seq_go (ρ1 := lw ns [some (.d (.list [.int (a : Int), .int (b : Int), .int (c : Int), .int (d : Int)])), some (.d (.list [.int (G0 : Int), .int (G1 : Int)])), none, none, none, none, none, none, none, none, none, none, none, none, none, none, none]) (S1 := S4) (by
    have up2 : upFrom 0 2 = [PyData.int 0, .int 1] := rfl
    simp [lw, e2, up2, compRun, e3, e4, hG0, hG1]) ?_
  refine seq_go (ρ1 := lw ns [some (.d (.list [.int (a : Int), .int (b : Int), .int (c : Int), .int (d : Int)])), some (.d (.list [.int (G0 : Int), .int (G1 : Int)])), some (.d (.list [])), none, none, none, none, none, none, none, none, none, none, none, none, none, none]) (S1 := S4) (by
    simp [lw]) ?_
  refine seq_go (ρ1 := lw ns [some (.d (.list [.int (a : Int), .int (b : Int), .int (c : Int), .int (d : Int)])), some (.d (.list [.int (G0 : Int), .int (G1 : Int)])), some (.d (.list [loopD a b 0 (may G0 0), loopD c d 1 (may G1 0)])), some (.d (.int 1)), none, none, none, none, none, none, none, none, none, none, none, none, none]) (S1 := S4) (by
    refine for_two (ρ1 := lw ns [some (.d (.list [.int (a : Int), .int (b : Int), .int (c : Int), .int (d : Int)])), some (.d (.list [.int (G0 : Int), .int (G1 : Int)])), some (.d (.list [loopD a b 0 (may G0 0)])), some (.d (.int 0)), none, none, none, none, none, none, none, none, none, none, none, none, none]) ?_ ?_
    · show l0_law (callN tbl 39) (lw ns [some (.d (.list [.int (a : Int), .int (b : Int), .int (c : Int), .int (d : Int)])), some (.d (.list [.int (G0 : Int), .int (G1 : Int)])), some (.d (.list [])), some (.d (.int 0)), none, none, none, none, none, none, none, none, none, none, none, none, none]) S4 = _
      have hc := comp_go (src := sRg1 (eIx (eVar 3) (eVar 5))) (vs := [17]) (rg_go (l := G0) (li := (G0 : Int)) (ρ := lw ns [some (.d (.list [.int (a : Int), .int (b : Int), .int (c : Int), .int (d : Int)])), some (.d (.list [.int (G0 : Int), .int (G1 : Int)])), some (.d (.list [])), some (.d (.int 0)), none, none, none, none, none, none, none, none, none, none, none, none, none]) (S := S4) rfl (by omega) rfl) (br_comp _ rfl 0 rfl G0 S4)
      unfold l0_law
      simp only [lw, wipeE] at hc ⊢
      simp [-x_comp, hc, at4_0, at4_1, sm2, lp0]
    · show l0_law (callN tbl 39) (lw ns [some (.d (.list [.int (a : Int), .int (b : Int), .int (c : Int), .int (d : Int)])), some (.d (.list [.int (G0 : Int), .int (G1 : Int)])), some (.d (.list [loopD a b 0 (may G0 0)])), some (.d (.int 1)), none, none, none, none, none, none, none, none, none, none, none, none, none]) S4 = _
      have hc := comp_go (src := sRg1 (eIx (eVar 3) (eVar 5))) (vs := [17]) (rg_go (l := G1) (li := (G1 : Int)) (ρ := lw ns [some (.d (.list [.int (a : Int), .int (b : Int), .int (c : Int), .int (d : Int)])), some (.d (.list [.int (G0 : Int), .int (G1 : Int)])), some (.d (.list [loopD a b 0 (may G0 0)])), some (.d (.int 1)), none, none, none, none, none, none, none, none, none, none, none, none, none]) (S := S4) rfl (by omega) rfl) (br_comp _ rfl 1 rfl G1 S4)
      unfold l0_law
      simp only [lw, wipeE] at hc ⊢
      simp [-x_comp, hc, at4_2, at4_3, sm2, lp1]) ?_
  refine seq_go (ρ1 := lw ns [some (.d (.list [.int (a : Int), .int (b : Int), .int (c : Int), .int (d : Int)])), some (.d (.list [.int (G0 : Int), .int (G1 : Int)])), some (.d (.list [loopD a b 0 (may G0 0), loopD c d 1 (may G1 0)])), some (.d (.int 1)), some (.d T), none, none, none, none, none, none, none, none, none, none, none, none]) (S1 := S4) (by
    simp [lw, at2_0, at2_1, hT]) ?_
  refine seq_go (ρ1 := lw ns [some (.d (.list [.int (a : Int), .int (b : Int), .int (c : Int), .int (d : Int)])), some (.d (.list [.int (G0 : Int), .int (G1 : Int)])), some (.d (.list [loopD a b 0 (may G0 0), loopD c d 1 (may G1 0)])), some (.d (.int 1)), some (.d T), some (.d (.int (l : Int))), none, none, none, none, none, none, none, none, none, none, none]) (S1 := S5) (by
    simp [lw, e5]) ?_
  refine seq_go (ρ1 := lw ns [some (.d (.list [.int (a : Int), .int (b : Int), .int (c : Int), .int (d : Int)])), some (.d (.list [.int (G0 : Int), .int (G1 : Int)])), some (.d (.list [loopD a b 0 (may G0 0), loopD c d 1 (may G1 0)])), some (.d (.int 1)), some (.d T), some (.d (.int (l : Int))), none, none, none, none, none, none, none, none, none, none, none]) (S1 := S7) (by
    simp [-x_sum, lw, x_callD, c1', c2', sh, sz, pw, sumS, sm4]) ?_
  refine seq_go (ρ1 := lw ns [some (.d (.list [.int (a : Int), .int (b : Int), .int (c : Int), .int (d : Int)])), some (.d (.list [.int (G0 : Int), .int (G1 : Int)])), some (.d (.list [loopD a b 0 (may G0 0), loopD c d 1 (may G1 0)])), some (.d (.int 1)), some (.d T), some (.d (.int (l : Int))), none, none, none, none, none, none, none, none, none, none, none]) (S1 := S7) (by
    refine for_two (ρ1 := lw ns [some (.d (.list [.int (a : Int), .int (b : Int), .int (c : Int), .int (d : Int)])), some (.d (.list [.int (G0 : Int), .int (G1 : Int)])), some (.d (.list [loopD a b 0 (may G0 0), loopD c d 1 (may G1 0)])), some (.d (.int 0)), some (.d T), some (.d (.int (l : Int))), none, none, none, none, none, none, none, none, none, none, none]) ?_ ?_
    · show l1_law (callN tbl 39) (lw ns [some (.d (.list [.int (a : Int), .int (b : Int), .int (c : Int), .int (d : Int)])), some (.d (.list [.int (G0 : Int), .int (G1 : Int)])), some (.d (.list [loopD a b 0 (may G0 0), loopD c d 1 (may G1 0)])), some (.d (.int 0)), some (.d T), some (.d (.int (l : Int))), none, none, none, none, none, none, none, none, none, none, none]) S7 = _
      have hc := comp_go (src := sRg1 (eIx (eVar 3) (eVar 5))) (vs := [17]) (rg_go (l := G0) (li := (G0 : Int)) (ρ := lw ns [some (.d (.list [.int (a : Int), .int (b : Int), .int (c : Int), .int (d : Int)])), some (.d (.list [.int (G0 : Int), .int (G1 : Int)])), some (.d (.list [loopD a b 0 (may G0 0), loopD c d 1 (may G1 0)])), some (.d (.int 0)), some (.d T), some (.d (.int (l : Int))), none, none, none, none, none, none, none, none, none, none, none]) (S := S7) rfl (by omega) rfl) (op_comp _ rfl (p := a) (q := b) (nm := 0) G0 (k := 0) rfl rfl rfl S7)
      unfold l1_law
      simp only [lw, wipeE] at hc ⊢
      simp [-x_comp, hc, at2_0, at4_0, at4_1, sm2, op0, so0']
    · show l1_law (callN tbl 39) (lw ns [some (.d (.list [.int (a : Int), .int (b : Int), .int (c : Int), .int (d : Int)])), some (.d (.list [.int (G0 : Int), .int (G1 : Int)])), some (.d (.list [loopD a b 0 (may G0 0), loopD c d 1 (may G1 0)])), some (.d (.int 1)), some (.d T), some (.d (.int (l : Int))), none, none, none, none, none, none, none, none, none, none, none]) S7 = _
      have hc := comp_go (src := sRg1 (eIx (eVar 3) (eVar 5))) (vs := [17]) (rg_go (l := G1) (li := (G1 : Int)) (ρ := lw ns [some (.d (.list [.int (a : Int), .int (b : Int), .int (c : Int), .int (d : Int)])), some (.d (.list [.int (G0 : Int), .int (G1 : Int)])), some (.d (.list [loopD a b 0 (may G0 0), loopD c d 1 (may G1 0)])), some (.d (.int 1)), some (.d T), some (.d (.int (l : Int))), none, none, none, none, none, none, none, none, none, none, none]) (S := S7) rfl (by omega) rfl) (op_comp _ rfl (p := c) (q := d) (nm := 1) G1 (k := 1) rfl rfl rfl S7)
      unfold l1_law
      simp only [lw, wipeE] at hc ⊢
      simp [-x_comp, hc, at2_1, at4_2, at4_3, sm2, op1, so1']) ?_
  refine seq_go (ρ1 := lw ns [some (.d (.list [.int (a : Int), .int (b : Int), .int (c : Int), .int (d : Int)])), some (.d (.list [.int (G0 : Int), .int (G1 : Int)])), some (.d (.list [loopD a b 0 (may G0 0), loopD c d 1 (may G1 0)])), some (.d (.int 1)), some (.d T), some (.d (.int (l : Int))), some (.d (.list [])), none, none, none, none, none, none, none, none, none, none]) (S1 := S7) (by
    simp [lw]) ?_
  refine seq_go (ρ1 := lw ns [some (.d (.list [.int (a : Int), .int (b : Int), .int (c : Int), .int (d : Int)])), some (.d (.list [.int (G0 : Int), .int (G1 : Int)])), some (.d (.list [loopD a b 0 (may G0 0), loopD c d 1 (may G1 0)])), some (.d (.int 1)), some (.d T), some (.d (.int (l : Int))), some (.d (.list ((L1 a b G0).map iT ++ (L1 c d G1).map iT))), none, none, none, none, none, none, none, none, none, none]) (S1 := S7) (by
    refine for_two (ρ1 := lw ns [some (.d (.list [.int (a : Int), .int (b : Int), .int (c : Int), .int (d : Int)])), some (.d (.list [.int (G0 : Int), .int (G1 : Int)])), some (.d (.list [loopD a b 0 (may G0 0), loopD c d 1 (may G1 0)])), some (.d (.int 0)), some (.d T), some (.d (.int (l : Int))), some (.d (.list ((L1 a b G0).map iT))), none, none, none, none, none, none, none, none, none, none]) ?_ ?_
    · show l2_law (callN tbl 39) (lw ns [some (.d (.list [.int (a : Int), .int (b : Int), .int (c : Int), .int (d : Int)])), some (.d (.list [.int (G0 : Int), .int (G1 : Int)])), some (.d (.list [loopD a b 0 (may G0 0), loopD c d 1 (may G1 0)])), some (.d (.int 0)), some (.d T), some (.d (.int (l : Int))), some (.d (.list [])), none, none, none, none, none, none, none, none, none, none]) S7 = _
      have hc := comp_go (src := sRg1 (eIx (eVar 3) (eVar 5))) (vs := [17]) (rg_go (l := G0) (li := (G0 : Int)) (ρ := lw ns [some (.d (.list [.int (a : Int), .int (b : Int), .int (c : Int), .int (d : Int)])), some (.d (.list [.int (G0 : Int), .int (G1 : Int)])), some (.d (.list [loopD a b 0 (may G0 0), loopD c d 1 (may G1 0)])), some (.d (.int 0)), some (.d T), some (.d (.int (l : Int))), some (.d (.list [])), none, none, none, none, none, none, none, none, none, none]) (S := S7) rfl (by omega) rfl) (sy_comp _ rfl (p := a) (q := b) G0 (k := 0) rfl rfl rfl rfl sm2 S7)
      unfold l2_law
      simp only [lw, wipeE] at hc ⊢
      generalize (L1 a b G0).map iT = Y0 at *
      simp [-x_comp, hc, zl0, zz0]
    · show l2_law (callN tbl 39) (lw ns [some (.d (.list [.int (a : Int), .int (b : Int), .int (c : Int), .int (d : Int)])), some (.d (.list [.int (G0 : Int), .int (G1 : Int)])), some (.d (.list [loopD a b 0 (may G0 0), loopD c d 1 (may G1 0)])), some (.d (.int 1)), some (.d T), some (.d (.int (l : Int))), some (.d (.list ((L1 a b G0).map iT))), none, none, none, none, none, none, none, none, none, none]) S7 = _
      have hc := comp_go (src := sRg1 (eIx (eVar 3) (eVar 5))) (vs := [17]) (rg_go (l := G1) (li := (G1 : Int)) (ρ := lw ns [some (.d (.list [.int (a : Int), .int (b : Int), .int (c : Int), .int (d : Int)])), some (.d (.list [.int (G0 : Int), .int (G1 : Int)])), some (.d (.list [loopD a b 0 (may G0 0), loopD c d 1 (may G1 0)])), some (.d (.int 1)), some (.d T), some (.d (.int (l : Int))), some (.d (.list ((L1 a b G0).map iT))), none, none, none, none, none, none, none, none, none, none]) (S := S7) rfl (by omega) rfl) (sy_comp _ rfl (p := c) (q := d) G1 (k := 1) rfl rfl rfl rfl sm2 S7)
      unfold l2_law
      simp only [lw, wipeE] at hc ⊢
      generalize (L1 a b G0).map iT = Y0 at *
      generalize (L1 c d G1).map iT = Y1 at *
      simp [-x_comp, hc, zl0, zl1, zz1]) ?_
  refine seq_go (ρ1 := lw ns [some (.d (.list [.int (a : Int), .int (b : Int), .int (c : Int), .int (d : Int)])), some (.d (.list [.int (G0 : Int), .int (G1 : Int)])), some (.d (.list [loopD a b 0 (may G0 0), loopD c d 1 (may G1 0)])), some (.d (.int 1)), some (.d T), some (.d (.int (l : Int))), some (.d (.list ((evL a b c d G0 G1).map iT))), none, none, none, none, none, none, none, none, none, none]) (S1 := S7) (by
    generalize (L1 a b G0).map iT ++ (L1 c d G1).map iT = Y at *
    simp [lw, srtO, srtD]) ?_
  refine seq_go (ρ1 := lw ns [some (.d (.list [.int (a : Int), .int (b : Int), .int (c : Int), .int (d : Int)])), some (.d (.list [.int (G0 : Int), .int (G1 : Int)])), some (.d (.list [loopD a b 0 (may G0 0), loopD c d 1 (may G1 0)])), some (.d (.int 1)), some (.d T), some (.d (.int (l : Int))), some (.d (.list ((evL a b c d G0 G1).map iT))), some (.d (.int (x : Int))), none, none, none, none, none, none, none, none, none]) (S1 := S8) (by
    simp [-x_sum, lw, sumS, pw, e8]) ?_
  refine seq_go (ρ1 := lw ns [some (.d (.list [.int (a : Int), .int (b : Int), .int (c : Int), .int (d : Int)])), some (.d (.list [.int (G0 : Int), .int (G1 : Int)])), some (.d (.list [loopD a b 0 (may G0 0), loopD c d 1 (may G1 0)])), some (.d (.int 1)), some (.d T), some (.d (.int (l : Int))), some (.d (.list ((evL a b c d G0 G1).map iT))), some (.d (.int (x : Int))), some (.d (.tuple [])), some (.d (.int (x : Int))), none, none, none, none, none, none, none]) (S1 := S8) (by
    simp [lw]) ?_
  refine seq_go (ρ1 := lw ns [some (.d (.list [.int (a : Int), .int (b : Int), .int (c : Int), .int (d : Int)])), some (.d (.list [.int (G0 : Int), .int (G1 : Int)])), some (.d (.list [loopD a b 0 (may G0 0), loopD c d 1 (may G1 0)])), y5, some (.d T), some (.d (.int (l : Int))), some (.d (.list ((evL a b c d G0 G1).map iT))), some (.d (.int (x : Int))), some (.d (.tuple R)), some (.d (.int (figC (G0 + G1) x l).2)), none, none, none, none, none, none, none]) (S1 := S8) (by
    exact for_go (rg_go (l := l) (li := (l : Int)) rfl (by omega) rfl) fg) ?_
  refine seq_go (ρ1 := lw ns [some (.d (.list [.int (a : Int), .int (b : Int), .int (c : Int), .int (d : Int)])), some (.d (.list [.int (G0 : Int), .int (G1 : Int)])), some (.d (.list [loopD a b 0 (may G0 0), loopD c d 1 (may G1 0)])), y5, some (.d T), some (.d (.int (l : Int))), some (.d (.list ((evL a b c d G0 G1).map iT))), some (.d (.int (x : Int))), some (.d (.tuple R)), some (.d (.int (figC (G0 + G1) x l).2)), none, none, none, none, none, none, none]) (S1 := S10) (by
    simp [lw, x_callD, nt, nu, srow]) ?_
  refine seq_go (ρ1 := lw ns [some (.d (.list [.int (a : Int), .int (b : Int), .int (c : Int), .int (d : Int)])), some (.d (.list [.int (G0 : Int), .int (G1 : Int)])), some (.d (.list [loopD a b 0 (may G0 0), loopD c d 1 (may G1 0)])), y5, some (.d T), some (.d (.int (l : Int))), some (.d (.list ((evL a b c d G0 G1).map iT))), some (.d (.int (x : Int))), some (.d (.tuple R)), some (.d (.int (figC (G0 + G1) x l).2)), some (.d (msD (ms4 a b c d (may G0 0) (may G1 0)))), none, none, none, none, none, none]) (S1 := S11) (by
    simp [lw, pt]
    rw [mc _ _ rfl]
    simp [msT]) ?_
  refine seq_go (ρ1 := lw ns [some (.d (.list [.int (a : Int), .int (b : Int), .int (c : Int), .int (d : Int)])), some (.d (.list [.int (G0 : Int), .int (G1 : Int)])), some (.d (.list [loopD a b 0 (may G0 0), loopD c d 1 (may G1 0)])), y5, some (.d T), some (.d (.int (l : Int))), some (.d (.list ((evL a b c d G0 G1).map iT))), some (.d (.int (x : Int))), some (.d (.tuple R)), some (.d (.int (figC (G0 + G1) x l).2)), some (.d (msD (ms4 a b c d (may G0 0) (may G1 0)))), some (.d (.int (rm : Int))), none, none, none, none, none]) (S1 := S12) (by
    simp [lw, e12, hrm]) ?_
  refine seq_go (ρ1 := lw ns [some (.d (.list [.int (a : Int), .int (b : Int), .int (c : Int), .int (d : Int)])), some (.d (.list [.int (G0 : Int), .int (G1 : Int)])), some (.d (.list [loopD a b 0 (may G0 0), loopD c d 1 (may G1 0)])), y5, some (.d T), some (.d (.int (l : Int))), some (.d (.list ((evL a b c d G0 G1).map iT))), some (.d (.int (x : Int))), some (.d (.tuple R)), some (.d (.int (figC (G0 + G1) x l).2)), some (.d (msD (ms4 a b c d (may G0 0) (may G1 0)))), some (.d (.int (rm : Int))), some (.d (.list [.int (dueS G0 rm), .int (dueS G1 rm)])), none, none, none, none]) (S1 := S12) (by
    have hc : ∀ ρ : MP.Env, ρ.length = 19 → ρ.getD 13 none = some (.d (.int (rm : Int))) → compRun (.n 15) (eC (.bool true)) (eU opSum (eComp (sRg1 (eBin opAdd (eVar 13) (eC (.int 1)))) (.n 5) [5] (eC (.bool true)) (eCall (callN tbl 39) 41 (aCons (eVar 15) (aCons (eVar 5) (aNil))) []))) ρ [.int (G0 : Int), .int (G1 : Int)] S12 = some ([.int (dueS G0 rm), .int (dueS G1 rm)], S12) := fun ρ hl h13 => by
      have k0 := du G0 (by omega) (ρ.set 15 (some (.d (.int G0)))) S12 (by simpa using hl) (getS (by omega)) (getN (by omega) h13)
      have k1 := du G1 (by omega) (ρ.set 15 (some (.d (.int G1)))) S12 (by simpa using hl) (getS (by omega)) (getN (by omega) h13)
      simp only [compRun, x_tgn, x_c, k0, k1]
    have hd := comp_go (src := sSq (eVar 3)) (vs := [15]) (ρ := lw ns [some (.d (.list [.int (a : Int), .int (b : Int), .int (c : Int), .int (d : Int)])), some (.d (.list [.int (G0 : Int), .int (G1 : Int)])), some (.d (.list [loopD a b 0 (may G0 0), loopD c d 1 (may G1 0)])), y5, some (.d T), some (.d (.int (l : Int))), some (.d (.list ((evL a b c d G0 G1).map iT))), some (.d (.int (x : Int))), some (.d (.tuple R)), some (.d (.int (figC (G0 + G1) x l).2)), some (.d (msD (ms4 a b c d (may G0 0) (may G1 0)))), some (.d (.int (rm : Int))), none, none, none, none, none]) (S := S12) (S1 := S12) rfl (hc _ rfl rfl)
    rw [x_set, hd]
    rfl) ?_
  refine seq_go (ρ1 := lw ns [some (.d (.list [.int (a : Int), .int (b : Int), .int (c : Int), .int (d : Int)])), some (.d (.list [.int (G0 : Int), .int (G1 : Int)])), some (.d (.list [loopD a b 0 (may G0 0), loopD c d 1 (may G1 0)])), y5, some (.d T), some (.d (.int (l : Int))), some (.d (.list ((evL a b c d G0 G1).map iT))), some (.d (.int (x : Int))), some (.d (.tuple R)), some (.d (.int (figC (G0 + G1) x l).2)), some (.d (msD (ms4 a b c d (may G0 0) (may G1 0)))), some (.d (.int (rm : Int))), some (.d (.list [.int (dueS G0 rm), .int (dueS G1 rm)])), none, none, none, none]) (S1 := S12) (by
    have hd := comp_go (src := sSq (eVar 12)) (vs := [18]) (tst := eC (.bool true)) (ρ := lw ns [some (.d (.list [.int (a : Int), .int (b : Int), .int (c : Int), .int (d : Int)])), some (.d (.list [.int (G0 : Int), .int (G1 : Int)])), some (.d (.list [loopD a b 0 (may G0 0), loopD c d 1 (may G1 0)])), y5, some (.d T), some (.d (.int (l : Int))), some (.d (.list ((evL a b c d G0 G1).map iT))), some (.d (.int (x : Int))), some (.d (.tuple R)), some (.d (.int (figC (G0 + G1) x l).2)), some (.d (msD (ms4 a b c d (may G0 0) (may G1 0)))), some (.d (.int (rm : Int))), some (.d (.list [.int (dueS G0 rm), .int (dueS G1 rm)])), none, none, none, none]) (S := S12) (S1 := S12) rfl (ones _ S12 rfl)
    simp only [lw, wipeE] at hd ⊢
    generalize dueS G0 rm = D0 at *
    generalize dueS G1 rm = D1 at *
    generalize msD (ms4 a b c d (may G0 0) (may G1 0)) = MS at *
    simp [-x_comp, hd, hs1, hs2, lt1, lt2, lt3, at2_0, at2_1, dsm, slast]) ?_
  simp [lw, ss, hs1, hs3, eq_int, at1_0]
end K58
set_option Elab.async false
set_option maxRecDepth 100000
open PySem PySem.W PyProof.Rows in
set_option maxRecDepth 100000 in
set_option maxHeartbeats 0 in
theorem PySem.Challenge.cw_everytalk_k58_whole_loops_beside_each_ot_holds : PySem.Challenge.rw_everytalk_k58_whole_loops_beside_each_ot.Holds := by
  w_on; o_law; k_head; (case hw => w_witness2)
  k_fill
  refine MP.walkL (l := PySem.Challenge.rw_everytalk_k58_whole_loops_beside_each_ot) (k := MP.lv 40) ⟨rfl, by decide, by decide⟩ rfl rfl (fun w h Y => PySem.W.kIn_of Y) ?F
  case F =>
    intro w mg fa h KX G hmg
    refine' K58.all_mk 40 KX G hmg ?aC_Parter ?aC_Counter ?a__law_same ?l__law_same ?c__law_same ?k__law_same ?a__law_pool ?l__law_pool ?c__law_pool ?k__law_pool ?a__law_spread ?l__law_spread ?c__law_spread ?k__law_spread ?a__law_draw ?l__law_draw ?c__law_draw ?k__law_draw ?a__law_shuffled ?l__law_shuffled ?c__law_shuffled ?k__law_shuffled ?a_size ?l_size ?c_size ?k_size ?a_law ?l_law ?c_law ?k_law ?a_Parter_init ?i_Parter_init ?l_Parter_init ?c_Parter_init ?k_Parter_init ?a_Parter_part ?i_Parter_part ?l_Parter_part ?c_Parter_part ?k_Parter_part ?a_Parter_of_saying ?i_Parter_of_saying ?l_Parter_of_saying ?c_Parter_of_saying ?k_Parter_of_saying ?a_size_of ?l_size_of ?c_size_of ?k_size_of ?a_parted ?l_parted ?c_parted ?k_parted ?a_parts ?l_parts ?c_parts ?k_parts ?a_opened_2 ?l_opened_2 ?c_opened_2 ?k_opened_2 ?a_steps_from ?l_steps_from ?c_steps_from ?k_steps_from ?a_machine_of ?l_machine_of ?c_machine_of ?k_machine_of ?a_begin_2 ?l_begin_2 ?c_begin_2 ?k_begin_2 ?a_on_way ?l_on_way ?c_on_way ?k_on_way ?a_with_row ?l_with_row ?c_with_row ?k_with_row ?a_moved ?l_moved ?c_moved ?k_moved ?a_deeds ?l_deeds ?c_deeds ?k_deeds ?a_trouble_at ?l_trouble_at ?c_trouble_at ?k_trouble_at ?a_is_unheard ?l_is_unheard ?c_is_unheard ?k_is_unheard ?a_search ?l_search ?c_search ?k_search ?a_trouble ?l_trouble ?c_trouble ?k_trouble ?a_inner ?l_inner ?c_inner ?k_inner ?a_roles_in ?l_roles_in ?c_roles_in ?k_roles_in ?a_inner_2 ?l_inner_2 ?c_inner_2 ?k_inner_2 ?a_goes_again ?l_goes_again ?c_goes_again ?k_goes_again ?a_Parter_of_loop ?i_Parter_of_loop ?l_Parter_of_loop ?c_Parter_of_loop ?k_Parter_of_loop ?a_ways_out ?l_ways_out ?c_ways_out ?k_ways_out ?a_put_for_2 ?l_put_for_2 ?c_put_for_2 ?k_put_for_2 ?a_states_in ?l_states_in ?c_states_in ?k_states_in ?a_Parter_none_at ?i_Parter_none_at ?l_Parter_none_at ?c_Parter_none_at ?k_Parter_none_at ?a_reached_2 ?l_reached_2 ?c_reached_2 ?k_reached_2 ?a_begin ?l_begin ?c_begin ?k_begin ?a_meets ?l_meets ?c_meets ?k_meets ?a_with_states ?l_with_states ?c_with_states ?k_with_states ?a_reached ?l_reached ?c_reached ?k_reached ?a_is_over_2 ?l_is_over_2 ?c_is_over_2 ?k_is_over_2 ?a_dead_end ?l_dead_end ?c_dead_end ?k_dead_end ?a__law_power ?l__law_power ?c__law_power ?k__law_power ?a_put_for ?l_put_for ?c_put_for ?k_put_for ?a_opened ?l_opened ?c_opened ?k_opened ?a_next_said ?l_next_said ?c_next_said ?k_next_said ?a_said_without ?l_said_without ?c_said_without ?k_said_without ?a_after_said ?l_after_said ?c_after_said ?k_after_said ?a_beside ?l_beside ?c_beside ?k_beside ?a_is_over ?l_is_over ?c_is_over ?k_is_over ?a_written ?l_written ?c_written ?k_written ?a_Counter_init ?i_Counter_init ?l_Counter_init ?c_Counter_init ?k_Counter_init ?a_Counter_rows ?i_Counter_rows ?l_Counter_rows ?c_Counter_rows ?k_Counter_rows ?a_count ?l_count ?lT_count ?c_count ?k_count ?a_nth ?l_nth ?lT_nth ?c_nth ?k_nth ?a_number_of ?l_number_of ?lT_number_of ?c_number_of ?k_number_of ?a_shortest ?l_shortest ?c_shortest ?k_shortest ?c_MOST_handshakes ?c_MOST_letters ?c_END ?l_END ?pg_Parter ?hd_Parter ?po_Parter ?sa_Parter ?mk_Parter ?kc_Parter ?n_Parter_role ?n_Parter_trouble ?pg_Counter ?hd_Counter ?po_Counter ?sa_Counter ?mk_Counter ?kc_Counter ?n_Counter_kept ?z_len ?z_range ?z_sorted ?z_set ?z_all ?z_any ?z_sum ?z_max ?z_tuple ?z_list ?z_dict ?z_int ?z_bool ?z_str ?z_isinstance K58.law_true
    (case aC_Parter => k_is)
    (case aC_Counter => k_is)
    (case a__law_same => k_is)
    (case l__law_same => k_is)
    (case c__law_same => k_is)
    (case k__law_same => k_is)
    (case a__law_pool => k_is)
    (case l__law_pool => k_is)
    (case c__law_pool => k_is)
    (case k__law_pool => k_is)
    (case a__law_spread => k_is)
    (case l__law_spread => k_is)
    (case c__law_spread => k_is)
    (case k__law_spread => k_is)
    (case a__law_draw => k_is)
    (case l__law_draw => k_is)
    (case c__law_draw => k_is)
    (case k__law_draw => k_is)
    (case a__law_shuffled => k_is)
    (case l__law_shuffled => k_is)
    (case c__law_shuffled => k_is)
    (case k__law_shuffled => k_is)
    (case a_size => k_is)
    (case l_size => k_is)
    (case c_size => k_is)
    (case k_size => k_is)
    (case a_law => k_is)
    (case l_law => k_is)
    (case c_law => k_is)
    (case k_law => k_is)
    (case a_Parter_init => k_is)
    (case i_Parter_init => k_is)
    (case l_Parter_init => k_is)
    (case c_Parter_init => k_is)
    (case k_Parter_init => k_is)
    (case a_Parter_part => k_is)
    (case i_Parter_part => k_is)
    (case l_Parter_part => k_is)
    (case c_Parter_part => k_is)
    (case k_Parter_part => k_is)
    (case a_Parter_of_saying => k_is)
    (case i_Parter_of_saying => k_is)
    (case l_Parter_of_saying => k_is)
    (case c_Parter_of_saying => k_is)
    (case k_Parter_of_saying => k_is)
    (case a_size_of => k_is)
    (case l_size_of => k_is)
    (case c_size_of => k_is)
    (case k_size_of => k_is)
    (case a_parted => k_is)
    (case l_parted => k_is)
    (case c_parted => k_is)
    (case k_parted => k_is)
    (case a_parts => k_is)
    (case l_parts => k_is)
    (case c_parts => k_is)
    (case k_parts => k_is)
    (case a_opened_2 => k_is)
    (case l_opened_2 => k_is)
    (case c_opened_2 => k_is)
    (case k_opened_2 => k_is)
    (case a_steps_from => k_is)
    (case l_steps_from => k_is)
    (case c_steps_from => k_is)
    (case k_steps_from => k_is)
    (case a_machine_of => k_is)
    (case l_machine_of => k_is)
    (case c_machine_of => k_is)
    (case k_machine_of => k_is)
    (case a_begin_2 => k_is)
    (case l_begin_2 => k_is)
    (case c_begin_2 => k_is)
    (case k_begin_2 => k_is)
    (case a_on_way => k_is)
    (case l_on_way => k_is)
    (case c_on_way => k_is)
    (case k_on_way => k_is)
    (case a_with_row => k_is)
    (case l_with_row => k_is)
    (case c_with_row => k_is)
    (case k_with_row => k_is)
    (case a_moved => k_is)
    (case l_moved => k_is)
    (case c_moved => k_is)
    (case k_moved => k_is)
    (case a_deeds => k_is)
    (case l_deeds => k_is)
    (case c_deeds => k_is)
    (case k_deeds => k_is)
    (case a_trouble_at => k_is)
    (case l_trouble_at => k_is)
    (case c_trouble_at => k_is)
    (case k_trouble_at => k_is)
    (case a_is_unheard => k_is)
    (case l_is_unheard => k_is)
    (case c_is_unheard => k_is)
    (case k_is_unheard => k_is)
    (case a_search => k_is)
    (case l_search => k_is)
    (case c_search => k_is)
    (case k_search => k_is)
    (case a_trouble => k_is)
    (case l_trouble => k_is)
    (case c_trouble => k_is)
    (case k_trouble => k_is)
    (case a_inner => k_is)
    (case l_inner => k_is)
    (case c_inner => k_is)
    (case k_inner => k_is)
    (case a_roles_in => k_is)
    (case l_roles_in => k_is)
    (case c_roles_in => k_is)
    (case k_roles_in => k_is)
    (case a_inner_2 => k_is)
    (case l_inner_2 => k_is)
    (case c_inner_2 => k_is)
    (case k_inner_2 => k_is)
    (case a_goes_again => k_is)
    (case l_goes_again => k_is)
    (case c_goes_again => k_is)
    (case k_goes_again => k_is)
    (case a_Parter_of_loop => k_is)
    (case i_Parter_of_loop => k_is)
    (case l_Parter_of_loop => k_is)
    (case c_Parter_of_loop => k_is)
    (case k_Parter_of_loop => k_is)
    (case a_ways_out => k_is)
    (case l_ways_out => k_is)
    (case c_ways_out => k_is)
    (case k_ways_out => k_is)
    (case a_put_for_2 => k_is)
    (case l_put_for_2 => k_is)
    (case c_put_for_2 => k_is)
    (case k_put_for_2 => k_is)
    (case a_states_in => k_is)
    (case l_states_in => k_is)
    (case c_states_in => k_is)
    (case k_states_in => k_is)
    (case a_Parter_none_at => k_is)
    (case i_Parter_none_at => k_is)
    (case l_Parter_none_at => k_is)
    (case c_Parter_none_at => k_is)
    (case k_Parter_none_at => k_is)
    (case a_reached_2 => k_is)
    (case l_reached_2 => k_is)
    (case c_reached_2 => k_is)
    (case k_reached_2 => k_is)
    (case a_begin => k_is)
    (case l_begin => k_is)
    (case c_begin => k_is)
    (case k_begin => k_is)
    (case a_meets => k_is)
    (case l_meets => k_is)
    (case c_meets => k_is)
    (case k_meets => k_is)
    (case a_with_states => k_is)
    (case l_with_states => k_is)
    (case c_with_states => k_is)
    (case k_with_states => k_is)
    (case a_reached => k_is)
    (case l_reached => k_is)
    (case c_reached => k_is)
    (case k_reached => k_is)
    (case a_is_over_2 => k_is)
    (case l_is_over_2 => k_is)
    (case c_is_over_2 => k_is)
    (case k_is_over_2 => k_is)
    (case a_dead_end => k_is)
    (case l_dead_end => k_is)
    (case c_dead_end => k_is)
    (case k_dead_end => k_is)
    (case a__law_power => k_is)
    (case l__law_power => k_is)
    (case c__law_power => k_is)
    (case k__law_power => k_is)
    (case a_put_for => k_is)
    (case l_put_for => k_is)
    (case c_put_for => k_is)
    (case k_put_for => k_is)
    (case a_opened => k_is)
    (case l_opened => k_is)
    (case c_opened => k_is)
    (case k_opened => k_is)
    (case a_next_said => k_is)
    (case l_next_said => k_is)
    (case c_next_said => k_is)
    (case k_next_said => k_is)
    (case a_said_without => k_is)
    (case l_said_without => k_is)
    (case c_said_without => k_is)
    (case k_said_without => k_is)
    (case a_after_said => k_is)
    (case l_after_said => k_is)
    (case c_after_said => k_is)
    (case k_after_said => k_is)
    (case a_beside => k_is)
    (case l_beside => k_is)
    (case c_beside => k_is)
    (case k_beside => k_is)
    (case a_is_over => k_is)
    (case l_is_over => k_is)
    (case c_is_over => k_is)
    (case k_is_over => k_is)
    (case a_written => k_is)
    (case l_written => k_is)
    (case c_written => k_is)
    (case k_written => k_is)
    (case a_Counter_init => k_is)
    (case i_Counter_init => k_is)
    (case l_Counter_init => k_is)
    (case c_Counter_init => k_is)
    (case k_Counter_init => k_is)
    (case a_Counter_rows => k_is)
    (case i_Counter_rows => k_is)
    (case l_Counter_rows => k_is)
    (case c_Counter_rows => k_is)
    (case k_Counter_rows => k_is)
    (case a_count => k_is)
    (case l_count => k_is)
    (case lT_count => k_is)
    (case c_count => k_is)
    (case k_count => k_is)
    (case a_nth => k_is)
    (case l_nth => k_is)
    (case lT_nth => k_is)
    (case c_nth => k_is)
    (case k_nth => k_is)
    (case a_number_of => k_is)
    (case l_number_of => k_is)
    (case lT_number_of => k_is)
    (case c_number_of => k_is)
    (case k_number_of => k_is)
    (case a_shortest => k_is)
    (case l_shortest => k_is)
    (case c_shortest => k_is)
    (case k_shortest => k_is)
    (case c_MOST_handshakes => k_is)
    (case c_MOST_letters => k_is)
    (case c_END => k_is)
    (case l_END => k_is)
    (case pg_Parter => k_is)
    (case hd_Parter => k_is)
    (case po_Parter => k_is)
    (case sa_Parter => k_is)
    (case mk_Parter => k_is)
    (case kc_Parter => k_is)
    (case n_Parter_role => k_is)
    (case n_Parter_trouble => k_is)
    (case pg_Counter => k_is)
    (case hd_Counter => k_is)
    (case po_Counter => k_is)
    (case sa_Counter => k_is)
    (case mk_Counter => k_is)
    (case kc_Counter => k_is)
    (case n_Counter_kept => k_is)
    (case z_len => k_is)
    (case z_range => k_is)
    (case z_sorted => k_is)
    (case z_set => k_is)
    (case z_all => k_is)
    (case z_any => k_is)
    (case z_sum => k_is)
    (case z_max => k_is)
    (case z_tuple => k_is)
    (case z_list => k_is)
    (case z_dict => k_is)
    (case z_int => k_is)
    (case z_bool => k_is)
    (case z_str => k_is)
    (case z_isinstance => k_is)
