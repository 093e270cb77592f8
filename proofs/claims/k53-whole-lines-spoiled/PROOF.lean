import PyProof.Rows.All
import Wide.All
import OpenK.AllK
import Wide.FinOn
import HandS.ForMost
import HandS.TupAny
import HandS.Deep
import HandS.Style
import HandS.IsInst
import KE.SortData
import HandS.Strs
import HandS.SetFor
import PySem.Challenge.RW_everytalk_k53_whole_lines_with_a_letter
set_option Elab.async false
set_option linter.all false
set_option maxRecDepth 20000
/-! The pure meaning of a small Python, over PyData, and its soundness over HandS. Part 1: data, worlds, judgements. -/
namespace MP
open PySem L2
open PySem.PyData (strOk)

abbrev D := PyData
/-- the heap F lies within H -/
def Sub (F H : Hp) : Prop := ∀ p o, F p = some o → H p = some o
theorem Sub.refl (F : Hp) : Sub F F := fun _ _ h => h
theorem Sub.trans {A B C : Hp} (a : Sub A B) (b : Sub B C) : Sub A C := fun p o h => b p o (a p o h)
theorem Sub.rd {F H : Hp} {a : Addr} {u : HO} (s : Sub F H) (r : Rd F a u) : Rd H a u := by
  rcases r with r | ⟨o, r⟩
  · exact .inl (s _ _ r)
  · exact .inr ⟨o, s _ _ r⟩
theorem Sub.sqL {K : PySem.W.Frag} {F H : Hp} {a : Addr} {xs : List V} (s : Sub F H) (r : SqL K F a xs) : SqL K H a xs := by
  rcases r with r | r
  · exact .inl (s.rd r)
  · exact .inr r
theorem Sub.sqT {K : PySem.W.Frag} {F H : Hp} {a : Addr} {xs : List V} (s : Sub F H) (r : SqT K F a xs) : SqT K H a xs := by
  rcases r with r | r
  · exact .inl (s.rd r)
  · exact .inr r
mutual
/-- the value v is the datum d, all of it in F -/
inductive DR (K : PySem.W.Frag) (F : Hp) : V → D → Prop
  | non : DR K F .non .none
  | bl (b : Bool) : DR K F (.bl b) (.bool b)
  | int (i : Int) : DR K F (.int i) (.int i)
  | str {x : Str} : strOk x = true → DR K F (.str x) (.str x)
  | lst {a : Addr} {xs : List V} {ds : List D} : F a = some (.lst xs) → DRs K F xs ds → DR K F (.ref a) (.list ds)
  | tup {a : Addr} {xs : List V} {ds : List D} : SqT K F a xs → DRs K F xs ds → DR K F (.ref a) (.tuple ds)
inductive DRs (K : PySem.W.Frag) (F : Hp) : List V → List D → Prop
  | nil : DRs K F [] []
  | cons {v : V} {vs : List V} {d : D} {ds : List D} : DR K F v d → DRs K F vs ds → DRs K F (v :: vs) (d :: ds)
end
mutual
theorem DR.sub' {K : PySem.W.Frag} {F H : Hp} (s : Sub F H) : ∀ (d : D) (v : V), DR K F v d → DR K H v d
  | .none, _, h => by cases h; exact .non
  | .bool b, _, h => by cases h; exact .bl b
  | .int i, _, h => by cases h; exact .int i
  | .str x, _, h => by cases h with | str k => exact .str k
  | .list ds, _, h => by cases h with | lst a b => exact .lst (s _ _ a) (DRs.sub' s ds _ b)
  | .tuple ds, _, h => by cases h with | tup a b => exact .tup (s.sqT a) (DRs.sub' s ds _ b)
  | .dict _, _, h => by cases h
theorem DRs.sub' {K : PySem.W.Frag} {F H : Hp} (s : Sub F H) : ∀ (ds : List D) (vs : List V), DRs K F vs ds → DRs K H vs ds
  | [], _, h => by cases h; exact .nil
  | d :: ds, _, h => by cases h with | cons a b => exact .cons (DR.sub' s d _ a) (DRs.sub' s ds _ b)
end
mutual
theorem DR.dp' {K : PySem.W.Frag} {F : Hp} : ∀ (d : D) (v : V), DR K F v d → Dp K F v d ∧ d.canLay0 = true
  | .none, _, h => by cases h; exact ⟨.non, by simp [PyData.canLay0]⟩
  | .bool b, _, h => by cases h; exact ⟨.bl b, by simp [PyData.canLay0]⟩
  | .int i, _, h => by cases h; exact ⟨.int i, by simp [PyData.canLay0]⟩
  | .str x, _, h => by cases h with | str k => exact ⟨.str x, by simpa [PyData.canLay0] using k⟩
  | .list ds, _, h => by cases h with | lst a b => exact ⟨.lst (.of a) (DRs.dp' ds _ b).1, by simpa [PyData.canLay0] using (DRs.dp' ds _ b).2⟩
  | .tuple ds, _, h => by cases h with | tup a b => exact ⟨.tup a (DRs.dp' ds _ b).1, by simpa [PyData.canLay0] using (DRs.dp' ds _ b).2⟩
  | .dict _, _, h => by cases h
theorem DRs.dp' {K : PySem.W.Frag} {F : Hp} : ∀ (ds : List D) (vs : List V), DRs K F vs ds → DpAll K F vs ds ∧ PyData.canLayAll0 ds = true
  | [], _, h => by cases h; exact ⟨.nil, by simp [PyData.canLayAll0]⟩
  | d :: ds, _, h => by
    cases h with
    | cons a b =>
      have h1 := DR.dp' d _ a
      have h2 := DRs.dp' ds _ b
      exact ⟨.cons h1.1 h2.1, by simp [PyData.canLayAll0, h1.2, h2.2]⟩
end
section
variable {K : PySem.W.Frag} {F H : Hp} {v : V} {d : D} {vs ws : List V} {ds es : List D} {a : Addr}
theorem DR.sub (r : DR K F v d) (s : Sub F H) : DR K H v d := DR.sub' s d v r
theorem DRs.sub (r : DRs K F vs ds) (s : Sub F H) : DRs K H vs ds := DRs.sub' s ds vs r
theorem DR.dp (r : DR K F v d) : Dp K F v d := (DR.dp' d v r).1
theorem DR.can (r : DR K F v d) : d.canLay0 = true := (DR.dp' d v r).2
theorem DRs.dp (r : DRs K F vs ds) : DpAll K F vs ds := (DRs.dp' ds vs r).1
theorem DRs.can (r : DRs K F vs ds) : PyData.canLayAll0 ds = true := (DRs.dp' ds vs r).2
theorem DR.of_non (r : DR K F v .none) : v = .non := by cases r; rfl
theorem DR.of_bl {b : Bool} (r : DR K F v (.bool b)) : v = .bl b := by cases r; rfl
theorem DR.of_int {i : Int} (r : DR K F v (.int i)) : v = .int i := by cases r; rfl
theorem DR.of_str {x : Str} (r : DR K F v (.str x)) : v = .str x ∧ strOk x = true := by
  cases r with | str k => exact ⟨rfl, k⟩
theorem DR.of_tup (r : DR K F v (.tuple ds)) : ∃ a xs, v = .ref a ∧ SqT K F a xs ∧ DRs K F xs ds := by
  cases r with | tup h k => exact ⟨_, _, rfl, h, k⟩
theorem DR.of_lst (r : DR K F v (.list ds)) : ∃ a xs, v = .ref a ∧ F a = some (.lst xs) ∧ DRs K F xs ds := by
  cases r with | lst h k => exact ⟨_, _, rfl, h, k⟩
theorem DR.no_dict {kvs : List (D × D)} (r : DR K F v (.dict kvs)) : False := by cases r
theorem DRs.of_nil (r : DRs K F vs []) : vs = [] := by cases r; rfl
theorem DRs.of_cons (r : DRs K F vs (d :: ds)) : ∃ v ws, vs = v :: ws ∧ DR K F v d ∧ DRs K F ws ds := by
  cases r with | cons h k => exact ⟨_, _, rfl, h, k⟩
theorem DRs.length : ∀ {ds : List D} {vs : List V}, DRs K F vs ds → vs.length = ds.length
  | [], _, r => by rw [r.of_nil]; rfl
  | d :: ds, _, r => by
    obtain ⟨v, ws, rfl, _, k⟩ := r.of_cons
    simp [DRs.length k]
theorem DRs.append : ∀ {ds : List D} {vs : List V}, DRs K F vs ds → DRs K F ws es → DRs K F (vs ++ ws) (ds ++ es)
  | [], _, r, q => by rw [r.of_nil]; exact q
  | d :: ds, _, r, q => by
    obtain ⟨v, ws, rfl, h, k⟩ := r.of_cons
    exact .cons h (DRs.append k q)
theorem DRs.get : ∀ {ds : List D} {vs : List V} {i : Nat} {d : D}, DRs K F vs ds → ds[i]? = some d → ∃ v, vs[i]? = some v ∧ DR K F v d
  | [], _, _, _, _, e => by simp at e
  | x :: ds, _, i, d, r, e => by
    obtain ⟨v, ws, rfl, h, k⟩ := r.of_cons
    cases i with
    | zero => simp at e; subst e; exact ⟨v, rfl, h⟩
    | succ i => simpa using DRs.get k (by simpa using e)
theorem DRs.getV : ∀ {ds : List D} {vs : List V} {i : Nat} {v : V}, DRs K F vs ds → vs[i]? = some v → ∃ d, ds[i]? = some d ∧ DR K F v d
  | [], _, _, _, r, e => by rw [r.of_nil] at e; simp at e
  | x :: ds, _, i, d, r, e => by
    obtain ⟨v, ws, rfl, h, k⟩ := r.of_cons
    cases i with
    | zero => simp at e; subst e; exact ⟨x, rfl, h⟩
    | succ i => simpa using DRs.getV k (by simpa using e)
theorem DRs.take : ∀ (n : Nat) {ds : List D} {vs : List V}, DRs K F vs ds → DRs K F (vs.take n) (ds.take n)
  | 0, _, _, _ => by simpa using DRs.nil
  | n + 1, [], _, r => by rw [r.of_nil]; simpa using DRs.nil
  | n + 1, d :: ds, _, r => by
    obtain ⟨v, ws, rfl, h, k⟩ := r.of_cons
    simpa using DRs.cons h (DRs.take n k)
theorem DRs.drop : ∀ (n : Nat) {ds : List D} {vs : List V}, DRs K F vs ds → DRs K F (vs.drop n) (ds.drop n)
  | 0, _, _, r => by simpa using r
  | n + 1, [], _, r => by rw [r.of_nil]; simpa using DRs.nil
  | n + 1, d :: ds, _, r => by
    obtain ⟨v, ws, rfl, h, k⟩ := r.of_cons
    simpa using DRs.drop n k
theorem DRs.set : ∀ (i : Nat) {ds : List D} {vs : List V}, DR K F v d → DRs K F vs ds → DRs K F (vs.set i v) (ds.set i d)
  | _, [], _, _, r => by rw [r.of_nil]; simpa using DRs.nil
  | 0, x :: ds, _, q, r => by
    obtain ⟨v, ws, rfl, h, k⟩ := r.of_cons
    simpa using DRs.cons q k
  | i + 1, x :: ds, _, q, r => by
    obtain ⟨v, ws, rfl, h, k⟩ := r.of_cons
    simpa using DRs.cons h (DRs.set i q k)
theorem DRs.reverse : ∀ {ds : List D} {vs : List V}, DRs K F vs ds → DRs K F vs.reverse ds.reverse
  | [], _, r => by rw [r.of_nil]; exact .nil
  | d :: ds, _, r => by
    obtain ⟨v, ws, rfl, h, k⟩ := r.of_cons
    simpa using (DRs.reverse k).append (.cons h .nil)
theorem DRs.eraseIdx : ∀ (i : Nat) {ds : List D} {vs : List V}, DRs K F vs ds → DRs K F (vs.eraseIdx i) (ds.eraseIdx i)
  | _, [], _, r => by rw [r.of_nil]; simpa using DRs.nil
  | 0, x :: ds, _, r => by
    obtain ⟨v, ws, rfl, h, k⟩ := r.of_cons
    simpa using k
  | i + 1, x :: ds, _, r => by
    obtain ⟨v, ws, rfl, h, k⟩ := r.of_cons
    simpa using DRs.cons h (DRs.eraseIdx i k)
end

/-! ### values, objects, worlds -/
inductive Val where
  | d (x : D)
  | obj (n : Nat)
  /-- the script -/
  | scr (ns : List Int)
inductive Ob where
  | cells (xs : List D)
  | inst (c : Nat) (fs : List Val)
abbrev Store := List Ob
abbrev Env := List (Option MP.Val)

/-- what the text gives: the classes' addresses and their fields' names -/
structure Gam where
  K : PySem.W.Frag
  cls : Nat → Addr
  flds : Nat → List Str

structure Wd where
  F : Hp
  H : Hp
  φ : List Addr
  S : Store

variable (Γ : Gam)
def RV (F : Hp) (φ : List Addr) (v : V) : Val → Prop
  | .d x => DR Γ.K F v x
  | .obj n => ∃ a, φ[n]? = some a ∧ v = .ref a
  | .scr ns => ∃ a, v = .ref a ∧ SqL Γ.K F a (ns.map V.int)
/-- values in a row -/
inductive RVs (F : Hp) (φ : List Addr) : List V → List Val → Prop
  | nil : RVs F φ [] []
  | cons {v : V} {u : Val} {vs : List V} {us : List Val} : RV Γ F φ v u → RVs F φ vs us → RVs F φ (v :: vs) (u :: us)
def ObR (ω : Wd) (a : Addr) : Ob → Prop
  | .cells xs => ∃ vs, ω.H a = some (.lst vs) ∧ DRs Γ.K ω.F vs xs
  | .inst c fs => ∃ dx vs, ω.H a = some (.ins (Γ.cls c) dx ((Γ.flds c).zip vs)) ∧ RVs Γ ω.F ω.φ vs fs ∧ fs.length ≤ (Γ.flds c).length
structure WOk (ω : Wd) : Prop where
  sub : Sub ω.F ω.H
  len : ω.φ.length = ω.S.length
  nd : ω.φ.Nodup
  fr : ∀ a : Addr, a ∈ ω.φ → ω.F a = none
  ob : ∀ (n : Nat) (o : Ob), ω.S[n]? = some o → ∃ a, ω.φ[n]? = some a ∧ ObR Γ ω a o
structure Le (a b : Wd) : Prop where
  F : Sub a.F b.F
  φ : a.φ <+: b.φ
  H : ∀ p o, a.H p = some o → p ∉ a.φ → b.H p = some o
  Hs : ∀ p, a.H p ≠ none → b.H p ≠ none
  nF : ∀ p o, b.F p = some o → a.F p = some o ∨ a.H p = none
  nφ : ∀ p, p ∈ b.φ → p ∈ a.φ ∨ a.H p = none
theorem Le.refl (a : Wd) : Le a a := ⟨Sub.refl _, List.prefix_refl _, fun _ _ h _ => h, fun _ h => h, fun _ _ h => .inl h, fun _ h => .inl h⟩
theorem Le.trans {a b c : Wd} (x : Le a b) (y : Le b c) : Le a c where
  F := x.F.trans y.F
  φ := x.φ.trans y.φ
  H := fun p o h n => y.H p o (x.H p o h n) fun hb => by
    rcases x.nφ p hb with z | z
    · exact n z
    · rw [h] at z; cases z
  Hs := fun p h => y.Hs p (x.Hs p h)
  nF := fun p o h => by
    rcases y.nF p o h with z | z
    · exact x.nF p o z
    · refine .inr ?_
      cases e : a.H p with
      | none => rfl
      | some u => exact absurd z (x.Hs p (by rw [e]; simp))
  nφ := fun p h => by
    rcases y.nφ p h with z | z
    · exact x.nφ p z
    · refine .inr ?_
      cases e : a.H p with
      | none => rfl
      | some u => exact absurd z (x.Hs p (by rw [e]; simp))
section
variable {Γ} {ω ω' : Wd} {v : V} {u : Val}
theorem prefix_get {α : Type} {l m : List α} (h : l <+: m) {n : Nat} {a : α} (e : l[n]? = some a) : m[n]? = some a := by
  obtain ⟨r, rfl⟩ := h
  rw [List.getElem?_append_left (List.getElem?_eq_some_iff.mp e).1]
  exact e
theorem RV.mono {F F' : Hp} {φ φ' : List Addr} (s : Sub F F') (p : φ <+: φ') : ∀ {u : Val}, RV Γ F φ v u → RV Γ F' φ' v u
  | .d x, h => DR.sub h s
  | .obj n, ⟨a, e, h⟩ => ⟨a, prefix_get p e, h⟩
  | .scr ns, ⟨a, e, h⟩ => ⟨a, e, s.sqL h⟩
theorem RVs.mono {F F' : Hp} {φ φ' : List Addr} (s : Sub F F') (p : φ <+: φ') {vs : List V} {us : List Val} (h : RVs Γ F φ vs us) : RVs Γ F' φ' vs us := by
  induction h with
  | nil => exact .nil
  | cons a _ ih => exact .cons (a.mono s p) ih
theorem RV.le (l : Le ω ω') (h : RV Γ ω.F ω.φ v u) : RV Γ ω'.F ω'.φ v u := h.mono l.F l.φ
theorem RVs.le (l : Le ω ω') {vs : List V} {us : List Val} (h : RVs Γ ω.F ω.φ vs us) : RVs Γ ω'.F ω'.φ vs us := h.mono l.F l.φ
theorem RVs.length {F : Hp} {φ : List Addr} {vs : List V} {us : List Val} (h : RVs Γ F φ vs us) : vs.length = us.length := by
  induction h with
  | nil => rfl
  | cons _ _ ih => simp [ih]
theorem RVs.get {F : Hp} {φ : List Addr} {vs : List V} {us : List Val} (h : RVs Γ F φ vs us) : ∀ {i : Nat} {u : Val}, us[i]? = some u → ∃ v, vs[i]? = some v ∧ RV Γ F φ v u := by
  induction h with
  | nil => intro i u e; simp at e
  | cons a _ ih =>
    intro i u e
    cases i with
    | zero => simp at e; subst e; exact ⟨_, rfl, a⟩
    | succ i => simpa using ih (by simpa using e)
theorem RVs.append {F : Hp} {φ : List Addr} {vs ws : List V} {us zs : List Val} (h : RVs Γ F φ vs us) (k : RVs Γ F φ ws zs) : RVs Γ F φ (vs ++ ws) (us ++ zs) := by
  induction h with
  | nil => exact k
  | cons a _ ih => exact .cons a ih
theorem RVs.set {F : Hp} {φ : List Addr} {vs : List V} {us : List Val} (h : RVs Γ F φ vs us) (q : RV Γ F φ v u) : ∀ (i : Nat), RVs Γ F φ (vs.set i v) (us.set i u) := by
  induction h with
  | nil => intro i; exact .nil
  | cons a k ih =>
    intro i
    cases i with
    | zero => exact .cons q k
    | succ i => exact .cons a (ih i)

/-- a datum that may be an own list (whose items are all in F) -/
def DT (ω : Wd) (v : V) (d : D) : Prop := DR Γ.K ω.F v d ∨ ∃ p xs ds, v = .ref p ∧ d = .list ds ∧ ω.H p = some (.lst xs) ∧ DRs Γ.K ω.F xs ds ∧ ω.F p = none ∧ p ∉ ω.φ
theorem keepsF (l : Le ω ω') {p : Addr} {o : HO} (h : ω.H p = some o) (n : ω.F p = none) : ω'.F p = none := by
  cases e : ω'.F p with
  | none => rfl
  | some u =>
    rcases l.nF p u e with z | z
    · rw [n] at z; cases z
    · rw [h] at z; cases z
theorem keepsφ (l : Le ω ω') {p : Addr} {o : HO} (h : ω.H p = some o) (n : p ∉ ω.φ) : p ∉ ω'.φ := fun z => by
  rcases l.nφ p z with z | z
  · exact n z
  · rw [h] at z; cases z
theorem DT.le (l : Le ω ω') {d : D} (h : DT (Γ := Γ) ω v d) : DT (Γ := Γ) ω' v d := by
  rcases h with h | ⟨p, xs, ds, e1, e2, h, r, n1, n2⟩
  · exact .inl (h.sub l.F)
  · exact .inr ⟨p, xs, ds, e1, e2, l.H p _ h n2, r.sub l.F, keepsF l h n1, keepsφ l h n2⟩
/-- all of it in H -/
theorem DT.inH (ok : WOk Γ ω) {d : D} (h : DT (Γ := Γ) ω v d) : DR Γ.K ω.H v d := by
  rcases h with h | ⟨p, xs, ds, rfl, rfl, h, r, _, _⟩
  · exact h.sub ok.sub
  · exact .lst h (r.sub ok.sub)
theorem DT.list (ok : WOk Γ ω) {ds : List D} (h : DT (Γ := Γ) ω v (.list ds)) : ∃ p xs, v = .ref p ∧ ω.H p = some (.lst xs) ∧ DRs Γ.K ω.F xs ds := by
  rcases h with h | ⟨p, xs, ds, e1, e2, h, r, n1, n2⟩
  · obtain ⟨p, xs, e, h, r⟩ := h.of_lst
    exact ⟨p, xs, e, ok.sub _ _ h, r⟩
  · cases e2
    exact ⟨p, xs, e1, h, r⟩
theorem DT.tup (ok : WOk Γ ω) {ds : List D} (h : DT (Γ := Γ) ω v (.tuple ds)) : ∃ p xs, v = .ref p ∧ SqT Γ.K ω.H p xs ∧ SqT Γ.K ω.F p xs ∧ DRs Γ.K ω.F xs ds := by
  rcases h with h | ⟨p, xs, ds, e1, e2, h, r, n1, n2⟩
  · obtain ⟨p, xs, e, h, r⟩ := h.of_tup
    exact ⟨p, xs, e, ok.sub.sqT h, h, r⟩
  · cases e2
theorem DT.int {i : Int} (h : DT (Γ := Γ) ω v (.int i)) : v = .int i := by
  rcases h with h | ⟨p, xs, ds, e1, e2, _⟩
  · exact h.of_int
  · cases e2
theorem DT.bl {i : Bool} (h : DT (Γ := Γ) ω v (.bool i)) : v = .bl i := by
  rcases h with h | ⟨p, xs, ds, e1, e2, _⟩
  · exact h.of_bl
  · cases e2
theorem DT.non (h : DT (Γ := Γ) ω v .none) : v = .non := by
  rcases h with h | ⟨p, xs, ds, e1, e2, _⟩
  · exact h.of_non
  · cases e2
theorem DT.str {x : Str} (h : DT (Γ := Γ) ω v (.str x)) : v = .str x ∧ strOk x = true := by
  rcases h with h | ⟨p, xs, ds, e1, e2, _⟩
  · exact h.of_str
  · cases e2

/-- a value as an expression gives it: cl says that none of it is an own list -/
def RT (cl : Bool) (ω : Wd) (v : V) : Val → Prop
  | .obj n => ∃ a, ω.φ[n]? = some a ∧ v = .ref a
  | .scr ns => ∃ a, v = .ref a ∧ SqL Γ.K ω.F a (ns.map V.int)
  | .d x => match cl with
    | true => DR Γ.K ω.F v x
    | false => DT (Γ := Γ) ω v x
theorem RT.rv (h : RT (Γ := Γ) true ω v u) : RV Γ ω.F ω.φ v u := by
  cases u with
  | d x => exact h
  | obj n => exact h
  | scr ns => exact h
theorem RT.of (h : RV Γ ω.F ω.φ v u) : RT (Γ := Γ) true ω v u := by
  cases u with
  | d x => exact h
  | obj n => exact h
  | scr ns => exact h
theorem RT.weak {cl : Bool} (h : RT (Γ := Γ) cl ω v u) : RT (Γ := Γ) false ω v u := by
  cases u with
  | obj n => exact h
  | scr ns => exact h
  | d x => cases cl with
    | true => exact .inl h
    | false => exact h
theorem RT.le (l : Le ω ω') {cl : Bool} (h : RT (Γ := Γ) cl ω v u) : RT (Γ := Γ) cl ω' v u := by
  cases u with
  | obj n => obtain ⟨a, e, q⟩ := h; exact ⟨a, prefix_get l.φ e, q⟩
  | scr ns => obtain ⟨a, e, q⟩ := h; exact ⟨a, e, l.F.sqL q⟩
  | d x => cases cl with
    | true => exact DR.sub h l.F
    | false => exact DT.le l h

/-- the names' values: those in O hold own lists -/
structure EnvR (O : List Nat) (ω : Wd) (ρ : Env) (σ : St) : Prop where
  len : ρ.length = σ.length
  var : ∀ i u, ρ[i]? = some (some u) → i ∉ O → ∃ v, σ[i]? = some (some v) ∧ RV Γ ω.F ω.φ v u
  own : ∀ i u, ρ[i]? = some (some u) → i ∈ O → ∃ p xs ds, u = .d (.list ds) ∧ σ[i]? = some (some (.ref p)) ∧ ω.H p = some (.lst xs) ∧ DRs Γ.K ω.F xs ds ∧ ω.F p = none ∧ p ∉ ω.φ
  apart : ∀ i j u w p, i ∈ O → j ∈ O → i ≠ j → ρ[i]? = some (some u) → ρ[j]? = some (some w) → σ[i]? = some (some (.ref p)) → σ[j]? ≠ some (some (.ref p))
theorem EnvR.le (l : Le ω ω') {O : List Nat} {ρ : Env} {σ : St} (E : EnvR (Γ := Γ) O ω ρ σ) : EnvR (Γ := Γ) O ω' ρ σ where
  len := E.len
  var := fun i u e n => let ⟨v, a, b⟩ := E.var i u e n; ⟨v, a, b.le l⟩
  own := fun i u e n => let ⟨p, xs, ds, a, b, c, d, f, g⟩ := E.own i u e n; ⟨p, xs, ds, a, b, l.H p _ c g, d.sub l.F, keepsF l c f, keepsφ l c g⟩
  apart := E.apart
end
end MP
set_option Elab.async false
set_option linter.all false
set_option maxRecDepth 20000
/-! Part 2: judgements, names, constants, operators, tests. -/
namespace MP
open PySem L2
open PySem.PyData (strOk)

theorem PE.mono {X : Cx} {e : Expr} {t t' : TE} (h : PE X e t) (m : ∀ σ H Q, t' σ H Q → t σ H Q) : PE X e t' := ⟨fun pins s σ H Q I q => h.run pins s σ H Q I (m σ H Q q)⟩
theorem PT.mono {X : Cx} {e : Expr} {t t' : L2.TT} (h : PT X e t) (m : ∀ σ H Q, t' σ H Q → t σ H Q) : PT X e t' := ⟨fun pins s σ H Q I q => h.run pins s σ H Q I (m σ H Q q)⟩
theorem PS.mono {X : Cx} {e : Stmt} {t t' : TS} (h : PS X e t) (m : ∀ D σ H, t' D σ H → t D σ H) : PS X e t' := ⟨fun pins s σ H D I q => h.run pins s σ H D I (m D σ H q)⟩
theorem PSs.mono {X : Cx} {e : List Stmt} {t t' : TS} (h : PSs X e t) (m : ∀ D σ H, t' D σ H → t D σ H) : PSs X e t' := ⟨fun pins s σ H D I q => h.run pins s σ H D I (m D σ H q)⟩
theorem PA.mono {X : Cx} {e : List Expr} {t t' : TA} (h : PA X e t) (m : ∀ σ H Q, t' σ H Q → t σ H Q) : PA X e t' := ⟨fun pos pins s σ H Q I q => h.run pos pins s σ H Q I (m σ H Q q)⟩

abbrev Mean := Env → Store → Option (Val × Store)
abbrev Means := Env → Store → Option (List Val × Store)
section
variable (Γ : Gam) (O : List Nat)
/-- the meaning m of an expression is had -/
def T (m : Mean) (cl : Bool) : TE := fun σ H Q => ∃ ω ρ u S', ω.H = H ∧ WOk Γ ω ∧ EnvR (Γ := Γ) O ω ρ σ ∧ m ρ ω.S = some (u, S') ∧
  ∀ ω' v, Le ω ω' → WOk Γ ω' → ω'.S = S' → RT (Γ := Γ) cl ω' v u → Q v ω'.H
/-- a new list, not yet in F -/
def TF (m : Mean) : TE := fun σ H Q => ∃ ω ρ ds S', ω.H = H ∧ WOk Γ ω ∧ EnvR (Γ := Γ) O ω ρ σ ∧ m ρ ω.S = some (.d (.list ds), S') ∧
  ∀ ω' p xs, Le ω ω' → WOk Γ ω' → ω'.S = S' → ω'.H p = some (.lst xs) → DRs Γ.K ω'.F xs ds → ω'.F p = none → p ∉ ω'.φ → ω.H p = none → Q (.ref p) ω'.H
def TB (m : Mean) : L2.TT := fun σ H Q => ∃ ω ρ b S', ω.H = H ∧ WOk Γ ω ∧ EnvR (Γ := Γ) O ω ρ σ ∧ m ρ ω.S = some (.d (.bool b), S') ∧
  ∀ ω', Le ω ω' → WOk Γ ω' → ω'.S = S' → Q b ω'.H
def TAs (ms : Means) : TA := fun σ H Q => ∃ ω ρ us S', ω.H = H ∧ WOk Γ ω ∧ EnvR (Γ := Γ) O ω ρ σ ∧ ms ρ ω.S = some (us, S') ∧
  ∀ ω' vs, Le ω ω' → WOk Γ ω' → ω'.S = S' → RVs Γ ω'.F ω'.φ vs us → Q vs ω'.H
end
/-- what is known where code runs -/
structure Ctx (Γ : Gam) (X : Cx) : Prop where
  hK : Γ.K = X.K
  room : Room 100 X.A
  calm : X.calm = true
  nd : X.N.Nodup
  own : PassesOwn (model X.prog X.w) X.A X.env X.xe
  b_len : X.mg "len" = none
  b_range : X.mg "range" = none
  b_sorted : X.mg "sorted" = none
  b_set : X.mg "set" = none
  b_all : X.mg "all" = none
  b_any : X.mg "any" = none
  b_sum : X.mg "sum" = none
  b_max : X.mg "max" = none
  b_tuple : X.mg "tuple" = none
  b_list : X.mg "list" = none
  b_dict : X.mg "dict" = none
  b_int : X.mg "int" = none
  b_bool : X.mg "bool" = none
  b_str : X.mg "str" = none
  b_isi : X.mg "isinstance" = none
theorem Ctx.blk {Γ : Gam} {X : Cx} (c : Ctx Γ X) (s : Shared) (H : Hp) (scope : Scope) (cenv : PySem.Env) (fp : List Addr) : Ctx Γ (X.blk s H scope cenv fp) :=
  ⟨c.hK, c.room, c.calm, c.nd, PassesOwn.never, c.b_len, c.b_range, c.b_sorted, c.b_set, c.b_all, c.b_any, c.b_sum, c.b_max, c.b_tuple, c.b_list, c.b_dict, c.b_int, c.b_bool, c.b_str, c.b_isi⟩

/-! ### worlds that grow -/
section
variable {Γ : Gam} {ω : Wd}
def Wd.put (ω : Wd) (p : Addr) (o : HO) : Wd := { ω with F := upd ω.F p o, H := upd ω.H p o }
def Wd.lay (ω : Wd) (p : Addr) (o : HO) : Wd := { ω with H := upd ω.H p o }
theorem sub_upd {F : Hp} {p : Addr} {o : HO} (h : F p = none) : Sub F (upd F p o) := fun q u e => by
  rw [upd_ne (ne_of_none e h)]; exact e
theorem WOk.none_F (ok : WOk Γ ω) {p : Addr} (h : ω.H p = none) : ω.F p = none := by
  cases e : ω.F p with
  | none => rfl
  | some u => rw [ok.sub p u e] at h; cases h
theorem ObR.some {a : Addr} {o : Ob} (h : ObR Γ ω a o) : ∃ u, ω.H a = some u := by
  cases o with
  | cells xs => obtain ⟨_, e, _⟩ := h; exact ⟨_, e⟩
  | inst c fs => obtain ⟨_, _, e, _⟩ := h; exact ⟨_, e⟩
theorem WOk.φ_some (ok : WOk Γ ω) {a : Addr} (h : a ∈ ω.φ) : ∃ u, ω.H a = some u := by
  obtain ⟨n, hn, e⟩ := List.getElem_of_mem h
  have hs : n < ω.S.length := by rw [← ok.len]; exact hn
  obtain ⟨b, e1, r⟩ := ok.ob n ω.S[n] (List.getElem?_eq_getElem hs)
  rw [List.getElem?_eq_getElem hn, e] at e1
  cases e1
  exact r.some
theorem WOk.fresh (ok : WOk Γ ω) {p : Addr} (h : ω.H p = none) : p ∉ ω.φ := fun z => by
  obtain ⟨u, e⟩ := ok.φ_some z
  rw [h] at e; cases e
theorem Wd.lay_le (ok : WOk Γ ω) {p : Addr} (o : HO) (h : ω.H p = none) : Le ω (ω.lay p o) where
  F := Sub.refl _
  φ := List.prefix_refl _
  H := fun q u e _ => by show upd ω.H p o q = _; rw [upd_ne (ne_of_none e h)]; exact e
  Hs := fun q e => by
    show upd ω.H p o q ≠ none
    by_cases hq : q = p
    · rw [hq, upd_same]; simp
    · rw [upd_ne hq]; exact e
  nF := fun q u e => .inl e
  nφ := fun q e => .inl e
theorem Wd.put_le (ok : WOk Γ ω) {p : Addr} (o : HO) (h : ω.H p = none) : Le ω (ω.put p o) where
  F := sub_upd (ok.none_F h)
  φ := List.prefix_refl _
  H := (Wd.lay_le ok o h).H
  Hs := (Wd.lay_le ok o h).Hs
  nF := fun q u e => by
    have e : upd ω.F p o q = some u := e
    by_cases hq : q = p
    · subst hq; exact .inr h
    · rw [upd_ne hq] at e; exact .inl e
  nφ := fun q e => .inl e
theorem ObR.lay (ok : WOk Γ ω) {F' : Hp} (sF : Sub ω.F F') {p : Addr} {o : HO} (h : ω.H p = none) {a : Addr} {b : Ob} (r : ObR Γ ω a b) : ObR Γ { ω with F := F', H := upd ω.H p o } a b := by
  cases b with
  | cells xs => obtain ⟨vs, e, d⟩ := r; exact ⟨vs, by show upd ω.H p o a = _; rw [upd_ne (ne_of_none e h)]; exact e, d.sub sF⟩
  | inst c fs => obtain ⟨dx, vs, e, d, l⟩ := r; exact ⟨dx, vs, by show upd ω.H p o a = _; rw [upd_ne (ne_of_none e h)]; exact e, d.mono sF (List.prefix_refl _), l⟩
theorem Wd.lay_ok (ok : WOk Γ ω) {p : Addr} (o : HO) (h : ω.H p = none) : WOk Γ (ω.lay p o) where
  sub := fun q u e => by show upd ω.H p o q = _; rw [upd_ne (ne_of_none (ok.sub q u e) h)]; exact ok.sub q u e
  len := ok.len
  nd := ok.nd
  fr := ok.fr
  ob := fun n b e => let ⟨a, e1, r⟩ := ok.ob n b e; ⟨a, e1, ObR.lay (F' := ω.F) ok (Sub.refl _) h r⟩
theorem Wd.put_ok (ok : WOk Γ ω) {p : Addr} (o : HO) (h : ω.H p = none) : WOk Γ (ω.put p o) where
  sub := fun q u e => by
    have e : upd ω.F p o q = some u := e
    show upd ω.H p o q = some u
    by_cases hq : q = p
    · subst hq; rw [upd_same] at e ⊢; exact e
    · rw [upd_ne hq] at e ⊢; exact ok.sub q u e
  len := ok.len
  nd := ok.nd
  fr := fun a ha => by
    show upd ω.F p o a = none
    rw [upd_ne (show a ≠ p from fun z => by subst z; exact ok.fresh h ha)]
    exact ok.fr a ha
  ob := fun n b e => let ⟨a, e1, r⟩ := ok.ob n b e; ⟨a, e1, ObR.lay (F' := upd ω.F p o) ok (sub_upd (ok.none_F h)) h r⟩
/-- a list that was laid goes into F -/
theorem Wd.take_le (ok : WOk Γ ω) {ω₀ : Wd} (l : Le ω₀ ω) {p : Addr} {o : HO} (hp : ω.H p = some o) (hf : ω.F p = none) (h0 : ω₀.H p = none) : Le ω₀ { ω with F := upd ω.F p o } where
  F := l.F.trans (sub_upd hf)
  φ := l.φ
  H := l.H
  Hs := l.Hs
  nF := fun q u e => by
    have e : upd ω.F p o q = some u := e
    by_cases hq : q = p
    · subst hq; exact .inr h0
    · rw [upd_ne hq] at e; exact l.nF q u e
  nφ := l.nφ
theorem ObR.subF {F' : Hp} (sF : Sub ω.F F') {a : Addr} {b : Ob} (r : ObR Γ ω a b) : ObR Γ { ω with F := F' } a b := by
  cases b with
  | cells xs => obtain ⟨vs, e, d⟩ := r; exact ⟨vs, e, d.sub sF⟩
  | inst c fs => obtain ⟨dx, vs, e, d, l⟩ := r; exact ⟨dx, vs, e, d.mono sF (List.prefix_refl _), l⟩
theorem Wd.take_ok (ok : WOk Γ ω) {p : Addr} {o : HO} (hp : ω.H p = some o) (hf : ω.F p = none) (hφ : p ∉ ω.φ) : WOk Γ { ω with F := upd ω.F p o } where
  sub := fun q u e => by
    have e : upd ω.F p o q = some u := e
    by_cases hq : q = p
    · subst hq; rw [upd_same] at e; cases e; exact hp
    · rw [upd_ne hq] at e; exact ok.sub q u e
  len := ok.len
  nd := ok.nd
  fr := fun a ha => by
    show upd ω.F p o a = none
    rw [upd_ne (show a ≠ p from fun z => by subst z; exact hφ ha)]
    exact ok.fr a ha
  ob := fun n b e => let ⟨a, e1, r⟩ := ok.ob n b e; ⟨a, e1, ObR.subF (sub_upd hf) r⟩
theorem DR.new_tup {p : Addr} {vs : List V} {ds : List D} (ok : WOk Γ ω) (h : ω.H p = none) (r : DRs Γ.K ω.F vs ds) : DR Γ.K (ω.put p (.tup vs)).F (.ref p) (.tuple ds) :=
  .tup (.of upd_same) (r.sub (sub_upd (ok.none_F h)))
end

section
variable {Γ : Gam} {X : Cx} {O : List Nat}
theorem PM.weak {e : Expr} {m : Mean} {cl : Bool} (h : PE X e (T Γ O m cl)) : PE X e (T Γ O m false) := PE.mono h fun σ H Q ⟨ω, ρ, u, S', e1, ok, E, e2, k⟩ =>
  ⟨ω, ρ, u, S', e1, ok, E, e2, fun ω' v l ok' es r => k ω' v l ok' es r.weak⟩
/-- a new list, clean -/
theorem PM.fresh {e : Expr} {m : Mean} (h : PE X e (TF Γ O m)) (hl : ∀ ρ S u S', m ρ S = some (u, S') → ∃ ds, u = .d (.list ds)) : PE X e (T Γ O m true) := PE.mono h fun σ H Q ⟨ω, ρ, u, S', e1, ok, E, e2, k⟩ => by
  obtain ⟨ds, rfl⟩ := hl _ _ _ _ e2
  refine ⟨ω, ρ, ds, S', e1, ok, E, e2, fun ω' p xs l ok' es hp r hf hφ h0 => ?_⟩
  have q := k { ω' with F := upd ω'.F p (.lst xs) } (.ref p) (Wd.take_le ok' l hp hf h0) (Wd.take_ok ok' hp hf hφ) es
  exact q (DR.lst upd_same (r.sub (sub_upd hf)))

/-! ### names and constants -/
def eVar (i : Nat) : Mean := fun ρ S => (ρ.getD i none).map fun u => (u, S)
def eC (d : D) : Mean := fun _ S => some (.d d, S)
theorem eVar_some {i : Nat} {ρ : Env} {S S' : Store} {u : Val} (h : eVar i ρ S = some (u, S')) : ρ[i]? = some (some u) ∧ S = S' := by
  unfold eVar at h
  cases e : ρ.getD i none with
  | none => rw [e] at h; cases h
  | some w =>
    rw [e] at h
    cases h
    rw [List.getD_eq_getElem?_getD] at e
    cases e2 : ρ[i]? with
    | none => rw [e2] at e; cases e
    | some x => rw [e2] at e; exact ⟨congrArg some e, rfl⟩
theorem me_var (i : Nat) {x : Str} {pos : Pos} (hO : i ∉ O) (h : PE X (.Name x pos) (tVar i)) : PE X (.Name x pos) (T Γ O (eVar i) true) := PE.mono h fun σ H Q ⟨ω, ρ, u, S', e1, ok, E, e2, k⟩ => by
  obtain ⟨e3, rfl⟩ := eVar_some e2
  obtain ⟨v, e4, r⟩ := E.var i u e3 hO
  subst e1
  exact ⟨v, e4, k ω v (Le.refl ω) ok rfl (RT.of r)⟩
/-- a name that may hold an own list -/
theorem me_own (i : Nat) {x : Str} {pos : Pos} (h : PE X (.Name x pos) (tVar i)) : PE X (.Name x pos) (T Γ O (eVar i) false) := PE.mono h fun σ H Q ⟨ω, ρ, u, S', e1, ok, E, e2, k⟩ => by
  obtain ⟨e3, rfl⟩ := eVar_some e2
  subst e1
  by_cases hO : i ∈ O
  · obtain ⟨p, xs, ds, rfl, e4, h1, h2, h3, h4⟩ := E.own i u e3 hO
    exact ⟨_, e4, k ω _ (Le.refl ω) ok rfl (.inr ⟨p, xs, ds, rfl, rfl, h1, h2, h3, h4⟩)⟩
  · obtain ⟨v, e4, r⟩ := E.var i u e3 hO
    exact ⟨v, e4, k ω v (Le.refl ω) ok rfl (RT.of r).weak⟩
theorem me_const {e : Expr} {v : V} {d : D} (h : PE X e (tC v)) (r : ∀ K F, DR K F v d) : PE X e (T Γ O (eC d) true) := PE.mono h fun σ H Q ⟨ω, ρ, u, S', e1, ok, E, e2, k⟩ => by
  cases e2
  subst e1
  exact k ω v (Le.refl ω) ok rfl (r _ _)
theorem me_int {i j pos} : PE X (.Constant (.int i) j pos) (T Γ O (eC (.int i)) true) := me_const pe_int fun _ _ => .int i
theorem me_bl {b j pos} : PE X (.Constant (.bool b) j pos) (T Γ O (eC (.bool b)) true) := me_const pe_bl fun _ _ => .bl b
theorem me_non {j pos} : PE X (.Constant .none j pos) (T Γ O (eC .none) true) := me_const pe_non fun _ _ => .non
theorem me_str {x : Str} {j pos} (h : strOk x = true := by decide +kernel) : PE X (.Constant (.str x) j pos) (T Γ O (eC (.str x)) true) := me_const pe_str fun _ _ => .str h
/-- a module's int -/
theorem me_gint {x : Str} {i : Int} {t : Tok} {pos : Pos} (hg : Gl X x) (hm : X.mg x = some (.int i t)) (hd : (x == ("__debug__" : Str)) = false := by decide) : PE X (.Name x pos) (T Γ O (eC (.int i)) true) :=
  me_const (pe_glob (v := .int i) hg hm ⟨t, rfl⟩ hd) fun _ _ => .int i

/-! ### operators -/
def asD : Val → Option D
  | .d x => some x
  | _ => none
/-- two data -/
def eBin (op : D → D → Option D) (a b : Mean) : Mean := fun ρ S => match a ρ S with
  | some (.d x, S1) => match b ρ S1 with
    | some (.d y, S2) => (op x y).map fun z => (.d z, S2)
    | _ => none
  | _ => none
theorem eBin_some {op : D → D → Option D} {a b : Mean} {ρ : Env} {S S' : Store} {u : Val} (h : eBin op a b ρ S = some (u, S')) :
    ∃ x y z S1, a ρ S = some (.d x, S1) ∧ b ρ S1 = some (.d y, S') ∧ op x y = some z ∧ u = .d z := by
  unfold eBin at h
  split at h
  · rename_i x S1 e1
    split at h
    · rename_i y S2 e2
      cases e3 : op x y with
      | none => rw [e3] at h; cases h
      | some z => rw [e3] at h; cases h; exact ⟨x, y, z, S1, e1, e2, e3, rfl⟩
    · cases h
  · cases h
/-- what the rule r asks is had, by data -/
def Serves2 (Γ : Gam) (r : R2) (op : D → D → Option D) : Prop := ∀ (ω : Wd) (x y : V) (dx dy dz : D) (Q : VK), WOk Γ ω → DT (Γ := Γ) ω x dx → DT (Γ := Γ) ω y dy → op dx dy = some dz →
  (∀ ω' v, Le ω ω' → WOk Γ ω' → ω'.S = ω.S → DR Γ.K ω'.F v dz → Q v ω'.H) → r x y ω.H Q
theorem T_bin {r : R2} {op : D → D → Option D} {a b : Mean} {c1 c2 : Bool} (hs : Serves2 Γ r op) {σ : St} {H : Hp} {Q : VK} (h : T Γ O (eBin op a b) true σ H Q) : tOp r (T Γ O a false) (T Γ O b false) σ H Q := by
  obtain ⟨ω, ρ, u, S', e1, ok, E, e2, k⟩ := h
  obtain ⟨x, y, z, S1, ea, eb, eo, rfl⟩ := eBin_some e2
  refine ⟨ω, ρ, _, S1, e1, ok, E, ea, fun ω1 v1 l1 ok1 es1 r1 => ?_⟩
  refine ⟨ω1, ρ, _, S', rfl, ok1, E.le l1, by rw [es1]; exact eb, fun ω2 v2 l2 ok2 es2 r2 => ?_⟩
  refine hs ω2 v1 v2 x y z Q ok2 (DT.le l2 r1) r2 eo fun ω3 v l3 ok3 es3 r3 => ?_
  exact k ω3 v ((l1.trans l2).trans l3) ok3 (es3.trans es2) r3
theorem me_op {op : Operator} {r : R2} {f : D → D → Option D} {a b : Expr} {ma mb : Mean} {c1 c2 : Bool} {pos : Pos} (ho : OpR X (binaryOp op) r) (hs : Serves2 Γ r f) (ha : PE X a (T Γ O ma c1)) (hb : PE X b (T Γ O mb c2)) :
    PE X (.BinOp a op b pos) (T Γ O (eBin f ma mb) true) := PE.mono (pe_op ho (PM.weak ha) (PM.weak hb)) fun σ H Q h => T_bin (c1 := c1) (c2 := c2) hs h
theorem me_cmp {op : CmpOp} {r : R2} {f : D → D → Option D} {a b : Expr} {ma mb : Mean} {c1 c2 : Bool} {pos : Pos} (ho : OpR X (compareOp op) r) (hs : Serves2 Γ r f) (ha : PE X a (T Γ O ma c1)) (hb : PE X b (T Γ O mb c2))
    (hm : behindInMarks op b = false) : PE X (.Compare a [op] [b] pos) (T Γ O (eBin f ma mb) true) := PE.mono (pe_cmpR ho (PM.weak ha) (PM.weak hb) hm) fun σ H Q h => T_bin (c1 := c1) (c2 := c2) hs h
/-- a test of a comparison -/
theorem mt_cmp {op : CmpOp} {r : R2} {f : D → D → Option D} {a b : Expr} {ma mb : Mean} {c1 c2 : Bool} {pos : Pos} (ho : OpR X (compareOp op) r) (hs : Serves2 Γ r f) (ha : PE X a (T Γ O ma c1)) (hb : PE X b (T Γ O mb c2))
    (hm : behindInMarks op b = false) : PT X (.Compare a [op] [b] pos) (TB Γ O (eBin f ma mb)) := PT.mono (pt_cmpR ho (PM.weak ha) (PM.weak hb) hm) fun σ H Q ⟨ω, ρ, c, S', e1, ok, E, e2, k⟩ =>
  T_bin (c1 := c1) (c2 := c2) hs ⟨ω, ρ, _, S', e1, ok, E, e2, fun ω' v l ok' es (r : DR Γ.K ω'.F v (.bool c)) => ⟨c, r.of_bl, k ω' l ok' es⟩⟩
/-- a test of a value that is True or False -/
theorem mt_val {e : Expr} {m : Mean} {cl : Bool} (h : PE X e (T Γ O m cl)) (he : ∀ whole, isTrue e X.env whole = (do let v ← whole; standAt e.pos; holding [v] (truthy v)) := by intro _; rfl) : PT X e (TB Γ O m) :=
  PT.mono (pt_val (PM.weak h) he) fun σ H Q ⟨ω, ρ, c, S', e1, ok, E, e2, k⟩ =>
  ⟨ω, ρ, _, S', e1, ok, E, e2, fun ω' v l ok' es (r : DT (Γ := Γ) ω' v (.bool c)) => ⟨c, r.bl, k ω' l ok' es⟩⟩

/-! ### and, or, not, if else -/
def eAnd (a b : Mean) : Mean := fun ρ S => match a ρ S with
  | some (.d (.bool true), S1) => b ρ S1
  | some (.d (.bool false), S1) => some (.d (.bool false), S1)
  | _ => none
def eOr (a b : Mean) : Mean := fun ρ S => match a ρ S with
  | some (.d (.bool true), S1) => some (.d (.bool true), S1)
  | some (.d (.bool false), S1) => b ρ S1
  | _ => none
def eNot (a : Mean) : Mean := fun ρ S => match a ρ S with
  | some (.d (.bool b), S1) => some (.d (.bool (!b)), S1)
  | _ => none
def eIf (t a b : Mean) : Mean := fun ρ S => match t ρ S with
  | some (.d (.bool true), S1) => a ρ S1
  | some (.d (.bool false), S1) => b ρ S1
  | _ => none
theorem eIf_some {t a b : Mean} {ρ : Env} {S : Store} {r : Val × Store} (h : eIf t a b ρ S = some r) : ∃ c S1, t ρ S = some (.d (.bool c), S1) ∧ (if c = true then a ρ S1 else b ρ S1) = some r := by
  unfold eIf at h
  split at h
  · rename_i S1 e; exact ⟨true, S1, e, by simpa using h⟩
  · rename_i S1 e; exact ⟨false, S1, e, by simpa using h⟩
  · cases h
theorem eAnd_some {a b : Mean} {ρ : Env} {S : Store} {r : Val × Store} (h : eAnd a b ρ S = some r) : ∃ c S1, a ρ S = some (.d (.bool c), S1) ∧ (if c = true then b ρ S1 else some (.d (.bool false), S1)) = some r := by
  unfold eAnd at h
  split at h
  · rename_i S1 e; exact ⟨true, S1, e, by simpa using h⟩
  · rename_i S1 e; exact ⟨false, S1, e, by simpa using h⟩
  · cases h
theorem eOr_some {a b : Mean} {ρ : Env} {S : Store} {r : Val × Store} (h : eOr a b ρ S = some r) : ∃ c S1, a ρ S = some (.d (.bool c), S1) ∧ (if c = true then some (.d (.bool true), S1) else b ρ S1) = some r := by
  unfold eOr at h
  split at h
  · rename_i S1 e; exact ⟨true, S1, e, by simpa using h⟩
  · rename_i S1 e; exact ⟨false, S1, e, by simpa using h⟩
  · cases h
theorem eNot_some {a : Mean} {ρ : Env} {S : Store} {r : Val × Store} (h : eNot a ρ S = some r) : ∃ c S1, a ρ S = some (.d (.bool c), S1) ∧ r = (.d (.bool (!c)), S1) := by
  unfold eNot at h
  split at h
  · rename_i c S1 e; cases h; exact ⟨c, S1, e, rfl⟩
  · cases h
variable {a b : Expr} {ma mb mt : Mean} {pos : Pos} {rest : List Expr}
/-- the first of an and -/
theorem mw_and (ha : PT X a (TB Γ O ma)) (hb : PW X (.BoolOp .And (b :: rest) pos) (TB Γ O mb)) : PW X (.BoolOp .And (a :: b :: rest) pos) (TB Γ O (eAnd ma mb)) := by
  refine ⟨fun wh pins s σ H Q I h => (pw_and ha hb).run wh pins s σ H Q I ?_⟩
  obtain ⟨ω, ρ, c, S', e1, ok, E, e2, k⟩ := h
  obtain ⟨d, S1, ea, er⟩ := eAnd_some e2
  refine ⟨ω, ρ, d, S1, e1, ok, E, ea, fun ω1 l1 ok1 es1 => ?_⟩
  cases d with
  | true => exact iteT ⟨ω1, ρ, c, S', rfl, ok1, E.le l1, by rw [es1]; simpa using er, fun ω2 l2 ok2 es2 => k ω2 (l1.trans l2) ok2 es2⟩
  | false =>
    simp at er
    obtain ⟨rfl, rfl⟩ := er
    exact iteF (k ω1 l1 ok1 es1)
theorem mw_or (ha : PT X a (TB Γ O ma)) (hb : PW X (.BoolOp .Or (b :: rest) pos) (TB Γ O mb)) : PW X (.BoolOp .Or (a :: b :: rest) pos) (TB Γ O (eOr ma mb)) := by
  refine ⟨fun wh pins s σ H Q I h => (pw_or ha hb).run wh pins s σ H Q I ?_⟩
  obtain ⟨ω, ρ, c, S', e1, ok, E, e2, k⟩ := h
  obtain ⟨d, S1, ea, er⟩ := eOr_some e2
  refine ⟨ω, ρ, d, S1, e1, ok, E, ea, fun ω1 l1 ok1 es1 => ?_⟩
  cases d with
  | false => exact iteF ⟨ω1, ρ, c, S', rfl, ok1, E.le l1, by rw [es1]; simpa using er, fun ω2 l2 ok2 es2 => k ω2 (l1.trans l2) ok2 es2⟩
  | true =>
    simp at er
    obtain ⟨rfl, rfl⟩ := er
    exact iteT (k ω1 l1 ok1 es1)
theorem mw_and1 (ha : PT X a (TB Γ O ma)) : PW X (.BoolOp .And [a] pos) (TB Γ O ma) := pw_and1 ha
theorem mw_or1 (ha : PT X a (TB Γ O ma)) : PW X (.BoolOp .Or [a] pos) (TB Γ O ma) := pw_or1 ha
theorem mt_w {e : Expr} (h : PW X e (TB Γ O ma)) : PT X e (TB Γ O ma) := h.pt
theorem mt_not (ha : PT X a (TB Γ O ma)) : PT X (.UnaryOp .Not a pos) (TB Γ O (eNot ma)) := PT.mono (pt_not ha) fun σ H Q ⟨ω, ρ, c, S', e1, ok, E, e2, k⟩ => by
  obtain ⟨d, S1, ea, er⟩ := eNot_some e2
  simp at er
  obtain ⟨rfl, rfl⟩ := er
  exact ⟨ω, ρ, d, S', e1, ok, E, ea, k⟩
/-- .. as values -/
theorem me_and (ha : PE X a (T Γ O ma true)) (hb : PE X (.BoolOp .And (b :: rest) pos) (T Γ O mb true)) : PE X (.BoolOp .And (a :: b :: rest) pos) (T Γ O (eAnd ma mb) true) := PE.mono (pe_and ha hb) fun σ H Q ⟨ω, ρ, c, S', e1, ok, E, e2, k⟩ => by
  obtain ⟨d, S1, ea, er⟩ := eAnd_some e2
  refine ⟨ω, ρ, _, S1, e1, ok, E, ea, fun ω1 v l1 ok1 es1 (r : DR Γ.K ω1.F v (.bool d)) => ⟨d, r.of_bl, ?_⟩⟩
  cases d with
  | true => exact iteT ⟨ω1, ρ, c, S', rfl, ok1, E.le l1, by rw [es1]; simpa using er, fun ω2 v l2 ok2 es2 => k ω2 v (l1.trans l2) ok2 es2⟩
  | false =>
    simp at er
    obtain ⟨rfl, rfl⟩ := er
    exact iteF (k ω1 _ l1 ok1 es1 (DR.bl false))
theorem me_or (ha : PE X a (T Γ O ma true)) (hb : PE X (.BoolOp .Or (b :: rest) pos) (T Γ O mb true)) : PE X (.BoolOp .Or (a :: b :: rest) pos) (T Γ O (eOr ma mb) true) := PE.mono (pe_or ha hb) fun σ H Q ⟨ω, ρ, c, S', e1, ok, E, e2, k⟩ => by
  obtain ⟨d, S1, ea, er⟩ := eOr_some e2
  refine ⟨ω, ρ, _, S1, e1, ok, E, ea, fun ω1 v l1 ok1 es1 (r : DR Γ.K ω1.F v (.bool d)) => ⟨d, r.of_bl, ?_⟩⟩
  cases d with
  | false => exact iteF ⟨ω1, ρ, c, S', rfl, ok1, E.le l1, by rw [es1]; simpa using er, fun ω2 v l2 ok2 es2 => k ω2 v (l1.trans l2) ok2 es2⟩
  | true =>
    simp at er
    obtain ⟨rfl, rfl⟩ := er
    exact iteT (k ω1 _ l1 ok1 es1 (DR.bl true))
theorem me_one {op} (h : PE X a (T Γ O ma true)) : PE X (.BoolOp op [a] pos) (T Γ O ma true) := pe_one h
theorem me_not (ha : PE X a (T Γ O ma true)) : PE X (.UnaryOp .Not a pos) (T Γ O (eNot ma) true) := PE.mono (pe_not ha) fun σ H Q ⟨ω, ρ, c, S', e1, ok, E, e2, k⟩ => by
  obtain ⟨d, S1, ea, er⟩ := eNot_some e2
  simp at er
  obtain ⟨rfl, rfl⟩ := er
  exact ⟨ω, ρ, _, S', e1, ok, E, ea, fun ω1 v l1 ok1 es1 (r : DR Γ.K ω1.F v (.bool d)) => ⟨d, r.of_bl, k ω1 _ l1 ok1 es1 (DR.bl _)⟩⟩
theorem me_if {c : Expr} {cl : Bool} (hc : PT X c (TB Γ O mt)) (ha : PE X a (T Γ O ma cl)) (hb : PE X b (T Γ O mb cl)) : PE X (.IfExp c a b pos) (T Γ O (eIf mt ma mb) cl) := PE.mono (pe_ifExp hc ha hb) fun σ H Q ⟨ω, ρ, c, S', e1, ok, E, e2, k⟩ => by
  obtain ⟨d, S1, ea, er⟩ := eIf_some e2
  refine ⟨ω, ρ, d, S1, e1, ok, E, ea, fun ω1 l1 ok1 es1 => ?_⟩
  cases d with
  | true => exact iteT ⟨ω1, ρ, c, S', rfl, ok1, E.le l1, by rw [es1]; simpa using er, fun ω2 v l2 ok2 es2 => k ω2 v (l1.trans l2) ok2 es2⟩
  | false => exact iteF ⟨ω1, ρ, c, S', rfl, ok1, E.le l1, by rw [es1]; simpa using er, fun ω2 v l2 ok2 es2 => k ω2 v (l1.trans l2) ok2 es2⟩
theorem le_none {ω ω1 : Wd} (l : Le ω ω1) {p : Addr} (h : ω1.H p = none) : ω.H p = none := by
  cases e : ω.H p with
  | none => rfl
  | some u => exact absurd h (l.Hs p (by rw [e]; simp))
theorem mf_if {c : Expr} (hc : PT X c (TB Γ O mt)) (ha : PE X a (TF Γ O ma)) (hb : PE X b (TF Γ O mb)) : PE X (.IfExp c a b pos) (TF Γ O (eIf mt ma mb)) := PE.mono (pe_ifExp hc ha hb) fun σ H Q ⟨ω, ρ, c, S', e1, ok, E, e2, k⟩ => by
  obtain ⟨d, S1, ea, er⟩ := eIf_some e2
  refine ⟨ω, ρ, d, S1, e1, ok, E, ea, fun ω1 l1 ok1 es1 => ?_⟩
  cases d with
  | true => exact iteT ⟨ω1, ρ, c, S', rfl, ok1, E.le l1, by rw [es1]; simpa using er, fun ω2 p xs l2 ok2 es2 a b c d e => k ω2 p xs (l1.trans l2) ok2 es2 a b c d (le_none l1 e)⟩
  | false => exact iteF ⟨ω1, ρ, c, S', rfl, ok1, E.le l1, by rw [es1]; simpa using er, fun ω2 p xs l2 ok2 es2 a b c d e => k ω2 p xs (l1.trans l2) ok2 es2 a b c d (le_none l1 e)⟩
end
end MP
set_option Elab.async false
set_option linter.all false
set_option maxRecDepth 20000
/-! Part 3: the operators, subscripts, built-in calls. -/
namespace MP
open PySem L2
open PySem.PyData (strOk)

/-! ### what the rules are asked -/
def okD (d : D) : Bool := decide (d.depth ≤ 1500)
def opEq (x y : D) : Option D := if okD y || okD x then some (.bool (PyData.eqv x y)) else none
def opNe (x y : D) : Option D := if okD y || okD x then some (.bool (!PyData.eqv x y)) else none
def opIn (x y : D) : Option D := match y with
  | .list ds => if okD x then some (.bool (ds.any fun z => PyData.eqv z x)) else none
  | .tuple ds => if okD x then some (.bool (ds.any fun z => PyData.eqv z x)) else none
  | _ => none
def opNotIn (x y : D) : Option D := match y with
  | .list ds => if okD x then some (.bool (!ds.any fun z => PyData.eqv z x)) else none
  | .tuple ds => if okD x then some (.bool (!ds.any fun z => PyData.eqv z x)) else none
  | _ => none
def isN : D → Bool
  | .none => true
  | _ => false
def opIs (x y : D) : Option D := match y with
  | .none => some (.bool (isN x))
  | _ => none
def opIsNot (x y : D) : Option D := match y with
  | .none => some (.bool (!isN x))
  | _ => none
def opII (f : Int → Int → D) (x y : D) : Option D := match x, y with
  | .int i, .int j => some (f i j)
  | _, _ => none
def intsD : List D → Option (List Int)
  | [] => some []
  | .int i :: r => (intsD r).map (i :: ·)
  | _ => none
def opLt (x y : D) : Option D := match x, y with
  | .int i, .int j => some (.bool (decide (i < j)))
  | .tuple xs, .tuple ys => match intsD xs, intsD ys with
    | some a, some b => some (.bool (HT.lexLt a b))
    | _, _ => none
  | _, _ => none
def opLe : D → D → Option D := opII fun i j => .bool (decide (i ≤ j))
def opGt : D → D → Option D := opII fun i j => .bool (decide (j < i))
def opGe : D → D → Option D := opII fun i j => .bool (decide (j ≤ i))
def opAdd (x y : D) : Option D := match x, y with
  | .int i, .int j => some (.int (i + j))
  | .tuple a, .tuple b => if a.length + b.length ≤ 1000000 then some (.tuple (a ++ b)) else none
  | .list a, .list b => if a.length + b.length ≤ 1000000 then some (.list (a ++ b)) else none
  | _, _ => none
def opSub : D → D → Option D := opII fun i j => .int (i - j)
def smallI (i : Int) : Bool := decide (-18446744073709551616 < i) && decide (i < 18446744073709551616)
def opMul (x y : D) : Option D := match x, y with
  | .int i, .int j => if smallI i || smallI j then some (.int (i * j)) else none
  | _, _ => none
def opMod (x y : D) : Option D := match x, y with
  | .int i, .int j => if 0 < j then some (.int (i % j)) else none
  | _, _ => none
def opFdiv (x y : D) : Option D := match x, y with
  | .int i, .int j => if 0 < j ∧ j < 1073741824 then some (.int (i / j)) else none
  | _, _ => none
def boolsD : List D → Option (List Bool)
  | [] => some []
  | .bool i :: r => (boolsD r).map (i :: ·)
  | _ => none

theorem ints_map : ∀ {ds : List D} {is : List Int}, intsD ds = some is → ds = is.map PyData.int
  | [], is, h => by cases h; rfl
  | .int i :: r, is, h => by
    unfold intsD at h
    cases e : intsD r with
    | none => rw [e] at h; cases h
    | some js => rw [e] at h; cases h; rw [ints_map e]; rfl
  | .none :: _, _, h => by cases h
  | .bool _ :: _, _, h => by cases h
  | .str _ :: _, _, h => by cases h
  | .list _ :: _, _, h => by cases h
  | .tuple _ :: _, _, h => by cases h
  | .dict _ :: _, _, h => by cases h
theorem bools_map : ∀ {ds : List D} {is : List Bool}, boolsD ds = some is → ds = is.map PyData.bool
  | [], is, h => by cases h; rfl
  | .bool i :: r, is, h => by
    unfold boolsD at h
    cases e : boolsD r with
    | none => rw [e] at h; cases h
    | some js => rw [e] at h; cases h; rw [bools_map e]; rfl
  | .none :: _, _, h => by cases h
  | .int _ :: _, _, h => by cases h
  | .str _ :: _, _, h => by cases h
  | .list _ :: _, _, h => by cases h
  | .tuple _ :: _, _, h => by cases h
  | .dict _ :: _, _, h => by cases h
theorem DRs.intsD {K : PySem.W.Frag} {F : Hp} : ∀ {is : List Int} {vs : List V}, DRs K F vs (is.map PyData.int) → vs = is.map V.int
  | [], _, r => r.of_nil
  | i :: is, _, r => by
    obtain ⟨v, ws, rfl, h, k⟩ := DRs.of_cons (d := .int i) (ds := is.map PyData.int) r
    rw [h.of_int, DRs.intsD k]; rfl
theorem DRs.boolsD {K : PySem.W.Frag} {F : Hp} : ∀ {is : List Bool} {vs : List V}, DRs K F vs (is.map PyData.bool) → vs = is.map V.bl
  | [], _, r => r.of_nil
  | i :: is, _, r => by
    obtain ⟨v, ws, rfl, h, k⟩ := DRs.of_cons (d := .bool i) (ds := is.map PyData.bool) r
    rw [h.of_bl, DRs.boolsD k]; rfl
theorem DRs.of_ints {K : PySem.W.Frag} {F : Hp} : ∀ (is : List Int), DRs K F (is.map V.int) (is.map PyData.int)
  | [] => .nil
  | i :: is => .cons (.int i) (DRs.of_ints is)

/-! ### the rules over data, with room for deep ones -/
section
variable {X : Cx}
def rEqP (K : PySem.W.Frag) : R2 := fun x y H Q => ∃ d e, Dp K H x d ∧ Dp K H y e ∧ d.canLay0 = true ∧ e.canLay0 = true ∧ (okD e || okD d) = true ∧ Q (.bl (PyData.eqv d e)) H
def rNeP (K : PySem.W.Frag) : R2 := fun x y H Q => ∃ d e, Dp K H x d ∧ Dp K H y e ∧ d.canLay0 = true ∧ e.canLay0 = true ∧ (okD e || okD d) = true ∧ Q (.bl (!PyData.eqv d e)) H
theorem okD_min {d e : D} (h : (okD e || okD d) = true) : min d.depth e.depth ≤ 1500 := by
  rw [Bool.or_eq_true] at h
  rcases h with h | h
  · have := of_decide_eq_true h; omega
  · have := of_decide_eq_true h; omega
theorem op_eqP (hu : X.A.units + 1800 < cLine) : OpR X (compareOp .Eq) (rEqP X.K) := by
  intro pins s σ H x y v u Q I rx ry h
  obtain ⟨d, e, hd, he, sd, se, hm, q⟩ := h
  obtain ⟨as, r1⟩ := Dp.reads I d x v hd rx
  obtain ⟨bs, r2⟩ := Dp.reads I e y u he ry
  have := okD_min hm
  exact SeqAt.compareEq_reads r1 r2 sd se (by omega) ⟨.bl _, H, I, rfl, q⟩
theorem op_neP (hu : X.A.units + 1800 < cLine) : OpR X (compareOp .NotEq) (rNeP X.K) := by
  intro pins s σ H x y v u Q I rx ry h
  obtain ⟨d, e, hd, he, sd, se, hm, q⟩ := h
  obtain ⟨as, r1⟩ := Dp.reads I d x v hd rx
  obtain ⟨bs, r2⟩ := Dp.reads I e y u he ry
  have := okD_min hm
  exact SeqAt.compareNe_reads r1 r2 sd se (by omega) ⟨.bl _, H, I, rfl, q⟩
def rInP (K : PySem.W.Frag) (neg : Bool) : R2 := fun x y H Q => ∃ d ds, Dp K H x d ∧ (Dp K H y (.list ds) ∨ Dp K H y (.tuple ds)) ∧ d.canLay0 = true ∧ PyData.canLayAll0 ds = true ∧ okD d = true ∧
  Q (.bl (if neg then !ds.any fun z => PyData.eqv z d else ds.any fun z => PyData.eqv z d)) H
theorem room_in {A : Around} {d : D} {ds : List D} (hu : A.units + 1800 < cLine) (h : okD d = true) : A.units + 1 + min (PyData.depthAll ds) d.depth < cLine := by
  have := of_decide_eq_true h
  have h2 : min (PyData.depthAll ds) d.depth ≤ d.depth := Nat.min_le_right _ _
  omega
theorem op_inP (hu : X.A.units + 1800 < cLine) : OpR X (compareOp .In) (rInP X.K false) := by
  intro pins s σ H x y v u Q I rx ry h
  obtain ⟨d, ds, hd, he, sd, se, hm, q⟩ := h
  obtain ⟨as, r1⟩ := Dp.reads I d x v hd rx
  rcases he with he | he
  · obtain ⟨bs, r2⟩ := Dp.reads I _ y u he ry
    exact SeqAt.in_list_reads r2 r1 se sd (room_in hu hm) ⟨.bl _, H, I, rfl, q⟩
  · obtain ⟨bs, r2⟩ := Dp.reads I _ y u he ry
    exact SeqAt.in_tuple_reads r2 r1 se sd (room_in hu hm) ⟨.bl _, H, I, rfl, q⟩
theorem op_notInP (hu : X.A.units + 1800 < cLine) : OpR X (compareOp .NotIn) (rInP X.K true) := by
  intro pins s σ H x y v u Q I rx ry h
  obtain ⟨d, ds, hd, he, sd, se, hm, q⟩ := h
  obtain ⟨as, r1⟩ := Dp.reads I d x v hd rx
  rcases he with he | he
  · obtain ⟨bs, r2⟩ := Dp.reads I _ y u he ry
    exact SeqAt.notIn_list_reads r2 r1 se sd (room_in hu hm) ⟨.bl _, H, I, rfl, q⟩
  · obtain ⟨bs, r2⟩ := Dp.reads I _ y u he ry
    exact SeqAt.notIn_tuple_reads r2 r1 se sd (room_in hu hm) ⟨.bl _, H, I, rfl, q⟩
end

/-! ### they serve -/
section
variable {Γ : Gam} {X : Cx}
theorem Ctx.units (c : Ctx Γ X) : X.A.units + 1800 < cLine := by have := c.room.un; omega
theorem done_bl {Γ : Gam} {ω : Wd} (ok : WOk Γ ω) {Q : VK} {b : Bool} (q : ∀ ω' v, Le ω ω' → WOk Γ ω' → ω'.S = ω.S → DR Γ.K ω'.F v (.bool b) → Q v ω'.H) : Q (.bl b) ω.H := q ω _ (Le.refl ω) ok rfl (.bl b)
theorem done_int {Γ : Gam} {ω : Wd} (ok : WOk Γ ω) {Q : VK} {b : Int} (q : ∀ ω' v, Le ω ω' → WOk Γ ω' → ω'.S = ω.S → DR Γ.K ω'.F v (.int b) → Q v ω'.H) : Q (.int b) ω.H := q ω _ (Le.refl ω) ok rfl (.int b)
theorem sv_eq (c : Ctx Γ X) : Serves2 Γ (rEqP X.K) opEq := fun ω x y dx dy dz Q ok hx hy h q => by
  unfold opEq at h
  split at h
  · rename_i e; cases h
    have h1 := hx.inH ok
    have h2 := hy.inH ok
    rw [← c.hK]
    exact ⟨dx, dy, h1.dp, h2.dp, h1.can, h2.can, e, done_bl ok q⟩
  · cases h
theorem sv_ne (c : Ctx Γ X) : Serves2 Γ (rNeP X.K) opNe := fun ω x y dx dy dz Q ok hx hy h q => by
  unfold opNe at h
  split at h
  · rename_i e; cases h
    have h1 := hx.inH ok
    have h2 := hy.inH ok
    rw [← c.hK]
    exact ⟨dx, dy, h1.dp, h2.dp, h1.can, h2.can, e, done_bl ok q⟩
  · cases h
theorem can_list {ds : List D} (h : PyData.canLay0 (.list ds) = true) : PyData.canLayAll0 ds = true := by simpa [PyData.canLay0] using h
theorem can_tup {ds : List D} (h : PyData.canLay0 (.tuple ds) = true) : PyData.canLayAll0 ds = true := by simpa [PyData.canLay0] using h
theorem sv_in (c : Ctx Γ X) : Serves2 Γ (rInP X.K false) opIn := fun ω x y dx dy dz Q ok hx hy h q => by
  have h1 := hx.inH ok
  have h2 := hy.inH ok
  rw [← c.hK]
  cases dy with
  | list ds =>
    simp only [opIn] at h
    split at h
    · rename_i e; cases h
      exact ⟨dx, ds, h1.dp, .inl h2.dp, h1.can, can_list h2.can, e, done_bl ok q⟩
    · cases h
  | tuple ds =>
    simp only [opIn] at h
    split at h
    · rename_i e; cases h
      exact ⟨dx, ds, h1.dp, .inr h2.dp, h1.can, can_tup h2.can, e, done_bl ok q⟩
    · cases h
  | _ => cases h
theorem sv_notIn (c : Ctx Γ X) : Serves2 Γ (rInP X.K true) opNotIn := fun ω x y dx dy dz Q ok hx hy h q => by
  have h1 := hx.inH ok
  have h2 := hy.inH ok
  rw [← c.hK]
  cases dy with
  | list ds =>
    simp only [opNotIn] at h
    split at h
    · rename_i e; cases h
      exact ⟨dx, ds, h1.dp, .inl h2.dp, h1.can, can_list h2.can, e, done_bl ok q⟩
    · cases h
  | tuple ds =>
    simp only [opNotIn] at h
    split at h
    · rename_i e; cases h
      exact ⟨dx, ds, h1.dp, .inr h2.dp, h1.can, can_tup h2.can, e, done_bl ok q⟩
    · cases h
  | _ => cases h
theorem non_of {K : PySem.W.Frag} {F : Hp} {v : V} {d : D} (h : DR K F v d) : decide (v = .non) = isN d := by
  cases h <;> rfl
theorem sv_is : Serves2 Γ (fun x y H Q => y = .non ∧ Q (.bl (decide (x = .non))) H) opIs := fun ω x y dx dy dz Q ok hx hy h q => by
  cases dy with
  | none =>
    cases h
    refine ⟨hy.non, ?_⟩
    rw [non_of (hx.inH ok)]
    exact done_bl ok q
  | _ => cases h
theorem sv_isNot : Serves2 Γ (fun x y H Q => y = .non ∧ Q (.bl (!decide (x = .non))) H) opIsNot := fun ω x y dx dy dz Q ok hx hy h q => by
  cases dy with
  | none =>
    cases h
    refine ⟨hy.non, ?_⟩
    rw [non_of (hx.inH ok)]
    exact done_bl ok q
  | _ => cases h
theorem opII_some {f : Int → Int → D} {x y z : D} (h : opII f x y = some z) : ∃ i j, x = .int i ∧ y = .int j ∧ z = f i j := by
  unfold opII at h
  split at h
  · cases h; exact ⟨_, _, rfl, rfl, rfl⟩
  · cases h
theorem sv_bII {f : Int → Int → Bool} : Serves2 Γ (rI0 fun i j => .bl (f i j)) (opII fun i j => .bool (f i j)) := fun ω x y dx dy dz Q ok hx hy h q => by
  obtain ⟨i, j, rfl, rfl, rfl⟩ := opII_some h
  exact ⟨i, j, hx.int, hy.int, done_bl ok q⟩
theorem sv_iII {f : Int → Int → Int} : Serves2 Γ (rI0 fun i j => .int (f i j)) (opII fun i j => .int (f i j)) := fun ω x y dx dy dz Q ok hx hy h q => by
  obtain ⟨i, j, rfl, rfl, rfl⟩ := opII_some h
  exact ⟨i, j, hx.int, hy.int, done_int ok q⟩
def rLtP (K : PySem.W.Frag) : R2 := fun x y H Q => rI0 (fun i j => .bl (decide (i < j))) x y H Q ∨ rLtT K x y H Q
theorem op_ltP (c : Ctx Γ X) : OpR X (compareOp .Lt) (rLtP X.K) := op_lt.or (op_ltT c.room.units0)
theorem sv_lt (c : Ctx Γ X) : Serves2 Γ (rLtP X.K) opLt := fun ω x y dx dy dz Q ok hx hy h q => by
  unfold opLt at h
  split at h
  · cases h
    exact .inl ⟨_, _, hx.int, hy.int, done_bl ok q⟩
  · split at h
    · rename_i a b e1 e2
      cases h
      rw [ints_map e1] at hx
      rw [ints_map e2] at hy
      obtain ⟨p, vs, rfl, h1, _, r1⟩ := DT.tup ok hx
      obtain ⟨p', vs', rfl, h2, _, r2⟩ := DT.tup ok hy
      rw [r1.intsD] at h1
      rw [r2.intsD] at h2
      rw [← c.hK]
      exact .inr ⟨p, p', a, b, rfl, rfl, h1, h2, done_bl ok q⟩
    · cases h
  · cases h
theorem lineM {n : Nat} (h : n ≤ 1000000) : n ≤ sizeLine := Nat.le_trans h (by rw [sizeLine_eq]; decide)
def rAddP (K : PySem.W.Frag) : R2 := fun x y H Q => rI0 (fun i j => .int (i + j)) x y H Q ∨ rCatA K x y H Q ∨ rCat x y H Q
theorem op_addP : OpR X (binaryOp .Add) (rAddP X.K) := op_add.or (op_catA.or op_cat)
theorem sv_add (c : Ctx Γ X) : Serves2 Γ (rAddP X.K) opAdd := fun ω x y dx dy dz Q ok hx hy h q => by
  unfold opAdd at h
  split at h
  · cases h
    exact .inl ⟨_, _, hx.int, hy.int, done_int ok q⟩
  · split at h
    · rename_i a b hl
      cases h
      obtain ⟨p, vs, rfl, h1, f1, r1⟩ := DT.tup ok hx
      obtain ⟨p', vs', rfl, h2, f2, r2⟩ := DT.tup ok hy
      rw [c.hK] at h1 h2
      refine .inr (.inl ⟨p, p', vs, vs', rfl, rfl, h1, h2, lineM (by rw [r1.length, r2.length]; exact hl), fun e => ?_, fun _ e => ?_, fun _ _ t ht => ?_⟩)
      · subst e
        cases r1
        exact q ω _ (Le.refl ω) ok rfl (.tup f2 r2)
      · subst e
        cases r2
        rw [List.append_nil] at q
        exact q ω _ (Le.refl ω) ok rfl (.tup f1 r1)
      · exact q _ _ (Wd.put_le ok _ ht) (Wd.put_ok ok _ ht) rfl (DR.new_tup ok ht (r1.append r2))
    · cases h
  · split at h
    · rename_i a b hl
      cases h
      obtain ⟨p, vs, rfl, h1, r1⟩ := DT.list ok hx
      obtain ⟨p', vs', rfl, h2, r2⟩ := DT.list ok hy
      refine .inr (.inr ⟨p, p', vs, vs', rfl, rfl, h1, h2, lineM (by rw [r1.length, r2.length]; exact hl), fun t ht => ?_⟩)
      exact q _ _ (Wd.put_le ok (.lst (vs ++ vs')) ht) (Wd.put_ok ok _ ht) rfl (DR.lst upd_same ((r1.append r2).sub (sub_upd (ok.none_F ht))))
    · cases h
  · cases h
theorem sv_mul : Serves2 Γ (rI CMul fun i j => .int (i * j)) opMul := fun ω x y dx dy dz Q ok hx hy h q => by
  unfold opMul at h
  split at h
  · split at h
    · rename_i i j e
      cases h
      refine ⟨i, j, hx.int, hy.int, ?_, done_int ok q⟩
      rw [Bool.or_eq_true] at e
      unfold smallI at e
      rcases e with e | e
      · rw [Bool.and_eq_true, decide_eq_true_eq, decide_eq_true_eq] at e; exact .inl ⟨by omega, by omega⟩
      · rw [Bool.and_eq_true, decide_eq_true_eq, decide_eq_true_eq] at e; exact .inr ⟨by omega, by omega⟩
    · cases h
  · cases h
theorem sv_mod : Serves2 Γ (rI (fun _ j => 0 < j) fun i j => .int (i % j)) opMod := fun ω x y dx dy dz Q ok hx hy h q => by
  unfold opMod at h
  split at h
  · split at h
    · rename_i i j e
      cases h
      exact ⟨i, j, hx.int, hy.int, e, done_int ok q⟩
    · cases h
  · cases h
theorem sv_fdiv : Serves2 Γ (rI CDiv fun i j => .int (i / j)) opFdiv := fun ω x y dx dy dz Q ok hx hy h q => by
  unfold opFdiv at h
  split at h
  · split at h
    · rename_i i j e
      cases h
      exact ⟨i, j, hx.int, hy.int, e, done_int ok q⟩
    · cases h
  · cases h
end

/-! ### in short: one word for each operator -/
section
variable {Γ : Gam} {X : Cx} {O : List Nat} {a b : Expr} {ma mb : Mean} {c1 c2 : Bool} {pos : Pos}
theorem me_add (c : Ctx Γ X) (ha : PE X a (T Γ O ma c1)) (hb : PE X b (T Γ O mb c2)) : PE X (.BinOp a .Add b pos) (T Γ O (eBin opAdd ma mb) true) := me_op op_addP (sv_add c) ha hb
theorem me_sub (ha : PE X a (T Γ O ma c1)) (hb : PE X b (T Γ O mb c2)) : PE X (.BinOp a .Sub b pos) (T Γ O (eBin opSub ma mb) true) := me_op op_sub sv_iII ha hb
theorem me_mul (ha : PE X a (T Γ O ma c1)) (hb : PE X b (T Γ O mb c2)) : PE X (.BinOp a .Mult b pos) (T Γ O (eBin opMul ma mb) true) := me_op op_mul sv_mul ha hb
theorem me_mod (ha : PE X a (T Γ O ma c1)) (hb : PE X b (T Γ O mb c2)) : PE X (.BinOp a .Mod b pos) (T Γ O (eBin opMod ma mb) true) := me_op op_mod sv_mod ha hb
theorem me_fdiv (ha : PE X a (T Γ O ma c1)) (hb : PE X b (T Γ O mb c2)) : PE X (.BinOp a .FloorDiv b pos) (T Γ O (eBin opFdiv ma mb) true) := me_op op_fdiv sv_fdiv ha hb
/-- a comparison's operator: its rule and its datum -/
inductive CmpIs (Γ : Gam) (X : Cx) : CmpOp → (D → D → Option D) → Prop
  | mk {op : CmpOp} {r : R2} {f : D → D → Option D} (h : OpR X (compareOp op) r) (s : Serves2 Γ r f) : CmpIs Γ X op f
theorem c_eq (c : Ctx Γ X) : CmpIs Γ X .Eq opEq := .mk (op_eqP c.units) (sv_eq c)
theorem c_ne (c : Ctx Γ X) : CmpIs Γ X .NotEq opNe := .mk (op_neP c.units) (sv_ne c)
theorem c_in (c : Ctx Γ X) : CmpIs Γ X .In opIn := .mk (op_inP c.units) (sv_in c)
theorem c_notIn (c : Ctx Γ X) : CmpIs Γ X .NotIn opNotIn := .mk (op_notInP c.units) (sv_notIn c)
theorem c_is (c : Ctx Γ X) : CmpIs Γ X .Is opIs := .mk op_isN sv_is
theorem c_isNot (c : Ctx Γ X) : CmpIs Γ X .IsNot opIsNot := .mk op_notN sv_isNot
theorem c_lt (c : Ctx Γ X) : CmpIs Γ X .Lt opLt := .mk (op_ltP c) (sv_lt c)
theorem c_le (c : Ctx Γ X) : CmpIs Γ X .LtE opLe := .mk op_le sv_bII
theorem c_gt (c : Ctx Γ X) : CmpIs Γ X .Gt opGt := .mk op_gt sv_bII
theorem c_ge (c : Ctx Γ X) : CmpIs Γ X .GtE opGe := .mk op_ge sv_bII
theorem me_c {op : CmpOp} {f : D → D → Option D} (h : CmpIs Γ X op f) (ha : PE X a (T Γ O ma c1)) (hb : PE X b (T Γ O mb c2)) (hm : behindInMarks op b = false := by with_unfolding_all rfl) : PE X (.Compare a [op] [b] pos) (T Γ O (eBin f ma mb) true) := by
  cases h with
  | mk h s => exact me_cmp h s ha hb hm
theorem mt_c {op : CmpOp} {f : D → D → Option D} (h : CmpIs Γ X op f) (ha : PE X a (T Γ O ma c1)) (hb : PE X b (T Γ O mb c2)) (hm : behindInMarks op b = false := by with_unfolding_all rfl) : PT X (.Compare a [op] [b] pos) (TB Γ O (eBin f ma mb)) := by
  cases h with
  | mk h s => exact mt_cmp h s ha hb hm
end
end MP
set_option Elab.async false
set_option linter.all false
set_option maxRecDepth 20000
/-! Part 4: subscripts, slices, built-in calls of one argument, displays, arguments, calls, objects. -/
namespace MP
open PySem L2
open PySem.PyData (strOk)

/-! ### subscripts -/
theorem DRs.atI {K : PySem.W.Frag} {F : Hp} {vs : List V} {ds : List D} {i : Int} {z : D} (r : DRs K F vs ds) (h : L2.atI ds i = some z) : ∃ v, L2.atI vs i = some v ∧ DR K F v z := by
  unfold L2.atI at h ⊢
  rw [r.length]
  cases e : ixN ds.length i with
  | none => rw [e] at h; cases h
  | some j => rw [e] at h; exact r.get h
def items (S : Store) : Val → Option (List D)
  | .d (.list ds) => some ds
  | .d (.tuple ds) => some ds
  | .obj n => match S[n]? with
    | some (.cells xs) => some xs
    | _ => none
  | _ => none
def eIx (a b : Mean) : Mean := fun ρ S => match a ρ S with
  | some (u, S1) => match b ρ S1 with
    | some (.d (.int i), S2) => match items S2 u with
      | some ds => (L2.atI ds i).map fun z => (.d z, S2)
      | none => none
    | _ => none
  | none => none
theorem eIx_some {a b : Mean} {ρ : Env} {S S' : Store} {w : Val} (h : eIx a b ρ S = some (w, S')) : ∃ u S1 i ds z, a ρ S = some (u, S1) ∧ b ρ S1 = some (.d (.int i), S') ∧ items S' u = some ds ∧ L2.atI ds i = some z ∧ w = .d z := by
  unfold eIx at h
  split at h
  · rename_i u S1 e1
    split at h
    · rename_i i S2 e2
      split at h
      · rename_i ds e3
        cases e4 : L2.atI ds i with
        | none => rw [e4] at h; cases h
        | some z => rw [e4] at h; cases h; exact ⟨u, S1, i, ds, z, e1, e2, e3, e4, rfl⟩
      · cases h
    · cases h
  · cases h
section
variable {Γ : Gam} {X : Cx} {O : List Nat} {a b : Expr} {ma mb : Mean} {c1 c2 : Bool} {pos : Pos}
/-- what is at an object of the store -/
theorem WOk.cells {ω : Wd} (ok : WOk Γ ω) {n : Nat} {xs : List D} {v : V} (h : ω.S[n]? = some (.cells xs)) (r : ∃ a, ω.φ[n]? = some a ∧ v = .ref a) : ∃ a vs, v = .ref a ∧ a ∈ ω.φ ∧ ω.φ[n]? = some a ∧ ω.H a = some (.lst vs) ∧ DRs Γ.K ω.F vs xs := by
  obtain ⟨a, e, rfl⟩ := r
  obtain ⟨b, e', vs, q, d⟩ := ok.ob n _ h
  rw [e] at e'; cases e'
  exact ⟨a, vs, rfl, List.mem_of_getElem? e, e, q, d⟩
/-- a list or a tuple that is read, by its items -/
theorem items_at (c : Ctx Γ X) {ω : Wd} (ok : WOk Γ ω) {v : V} {u : Val} {ds : List D} (r : RT (Γ := Γ) false ω v u) (h : items ω.S u = some ds) :
    ∃ p vs, v = .ref p ∧ (ω.H p = some (.lst vs) ∨ SqT X.K ω.H p vs) ∧ DRs Γ.K ω.F vs ds := by
  cases u with
  | scr ns => cases h
  | obj n =>
    simp only [items] at h
    split at h
    · rename_i xs e
      cases h
      obtain ⟨a, vs, rfl, _, _, q, d⟩ := ok.cells e r
      exact ⟨a, vs, rfl, .inl q, d⟩
    · cases h
  | d x =>
    cases x with
    | list xs =>
      cases h
      obtain ⟨p, vs, e, q, d⟩ := DT.list ok r
      exact ⟨p, vs, e, .inl q, d⟩
    | tuple xs =>
      cases h
      obtain ⟨p, vs, e, q, _, d⟩ := DT.tup ok r
      rw [c.hK] at q
      exact ⟨p, vs, e, .inr q, d⟩
    | _ => cases h
theorem me_ix (c : Ctx Γ X) (ha : PE X a (T Γ O ma c1)) (hb : PE X b (T Γ O mb c2)) (hs : PlainIx b := by exact fun _ _ => rfl) : PE X (.Subscript a b pos) (T Γ O (eIx ma mb) true) :=
  PE.mono (pe_ix ix_seq (PM.weak ha) (PM.weak hb) hs) fun σ H Q ⟨ω, ρ, w, S', e1, ok, E, e2, k⟩ => by
  obtain ⟨u, S1, i, ds, z, ea, eb, ei, ez, rfl⟩ := eIx_some e2
  refine ⟨ω, ρ, u, S1, e1, ok, E, ea, fun ω1 v1 l1 ok1 es1 r1 => ?_⟩
  refine ⟨ω1, ρ, _, S', rfl, ok1, E.le l1, by rw [es1]; exact eb, fun ω2 v2 l2 ok2 es2 r2 => ?_⟩
  obtain rfl : v2 = .int i := DT.int r2
  subst es2
  obtain ⟨p, vs, rfl, q, d⟩ := items_at c ok2 (RT.le l2 r1) ei
  obtain ⟨y, ey, ry⟩ := d.atI ez
  have fin := k ω2 y (l1.trans l2) ok2 rfl ry
  rcases q with q | q
  · exact .inl ⟨p, vs, i, y, rfl, rfl, .of q, ey, fin⟩
  · exact .inr (.inl ⟨p, vs, i, y, rfl, rfl, q, ey, fin⟩)

/-! ### slices -/
abbrev MO := Env → Store → Option (Option Int × Store)
def oNo : MO := fun _ S => some (none, S)
def oSome (m : Mean) : MO := fun ρ S => match m ρ S with
  | some (.d (.int i), S1) => some (some i, S1)
  | _ => none
def TPo (Γ : Gam) (O : List Nat) (m : MO) : TO := fun σ H Q => ∃ ω ρ o S', ω.H = H ∧ WOk Γ ω ∧ EnvR (Γ := Γ) O ω ρ σ ∧ m ρ ω.S = some (o, S') ∧
  ∀ ω', Le ω ω' → WOk Γ ω' → ω'.S = S' → Q o ω'.H
theorem PO.mono {e : Option Expr} {t t' : TO} (h : PO X e t) (m : ∀ σ H Q, t' σ H Q → t σ H Q) : PO X e t' := ⟨fun pins s σ H Q I q => h.run pins s σ H Q I (m σ H Q q)⟩
theorem mo_no : PO X none (TPo Γ O oNo) := PO.mono po_none fun σ H Q ⟨ω, ρ, o, S', e1, ok, E, e2, k⟩ => by
  cases e2
  subst e1
  exact k ω (Le.refl ω) ok rfl
theorem mo_some (h : PE X a (T Γ O ma c1)) : PO X (some a) (TPo Γ O (oSome ma)) := PO.mono (po_some (PM.weak h)) fun σ H Q ⟨ω, ρ, o, S', e1, ok, E, e2, k⟩ => by
  unfold oSome at e2
  split at e2
  · rename_i i S1 e
    cases e2
    exact ⟨ω, ρ, _, S', e1, ok, E, e, fun ω1 v l ok1 es r => ⟨i, DT.int r, k ω1 l ok1 es⟩⟩
  · cases e2
def cutD (ds : List D) (lo hi : Option Int) : List D := (ds.drop (HT.sIx ds.length 0 lo)).take (HT.sIx ds.length ds.length hi - HT.sIx ds.length 0 lo)
theorem DRs.cut {K : PySem.W.Frag} {F : Hp} {vs : List V} {ds : List D} (r : DRs K F vs ds) (lo hi : Option Int) : DRs K F (cutV vs lo hi) (cutD ds lo hi) := by
  unfold cutV cutD
  rw [r.length]
  exact (r.drop _).take _
theorem cutD_all {ds : List D} {lo hi : Option Int} (h : HT.sIx ds.length 0 lo = 0 ∧ HT.sIx ds.length ds.length hi = ds.length) : cutD ds lo hi = ds := by
  unfold cutD
  rw [h.1, h.2]
  simp
def opSl (u : Val) (lo hi : Option Int) : Option D := match u with
  | .d (.list ds) => some (.list (cutD ds lo hi))
  | .d (.tuple ds) => some (.tuple (cutD ds lo hi))
  | .scr ns => some (.list (cutD (ns.map PyData.int) lo hi))
  | _ => none
def eSl (a : Mean) (lo hi : MO) : Mean := fun ρ S => match a ρ S with
  | some (u, S1) => match lo ρ S1 with
    | some (l, S2) => match hi ρ S2 with
      | some (h, S3) => (opSl u l h).map fun z => (.d z, S3)
      | none => none
    | none => none
  | none => none
theorem eSl_some {a : Mean} {lo hi : MO} {ρ : Env} {S S' : Store} {w : Val} (h : eSl a lo hi ρ S = some (w, S')) : ∃ u S1 l S2 g z, a ρ S = some (u, S1) ∧ lo ρ S1 = some (l, S2) ∧ hi ρ S2 = some (g, S') ∧ opSl u l g = some z ∧ w = .d z := by
  unfold eSl at h
  split at h
  · rename_i u S1 e1
    split at h
    · rename_i l S2 e2
      split at h
      · rename_i g S3 e3
        cases e4 : opSl u l g with
        | none => rw [e4] at h; cases h
        | some z => rw [e4] at h; cases h; exact ⟨u, S1, l, S2, g, z, e1, e2, e3, e4, rfl⟩
      · cases h
    · cases h
  · cases h
def rSlP (K : PySem.W.Frag) : V → Option Int → Option Int → Hp → VK → Prop := fun x lo hi H Q => rSlL K x lo hi H Q ∨ rSlA K x lo hi H Q
theorem new_list {ω : Wd} (ok : WOk Γ ω) {vs : List V} {ds : List D} {Q : VK} (r : DRs Γ.K ω.F vs ds) (q : ∀ ω' v, Le ω ω' → WOk Γ ω' → ω'.S = ω.S → DR Γ.K ω'.F v (.list ds) → Q v ω'.H) {p : Addr} (hp : ω.H p = none) :
    Q (.ref p) (upd ω.H p (.lst vs)) := q _ _ (Wd.put_le ok (.lst vs) hp) (Wd.put_ok ok _ hp) rfl (DR.lst upd_same (r.sub (sub_upd (ok.none_F hp))))
theorem new_tuple {ω : Wd} (ok : WOk Γ ω) {vs : List V} {ds : List D} {Q : VK} (r : DRs Γ.K ω.F vs ds) (q : ∀ ω' v, Le ω ω' → WOk Γ ω' → ω'.S = ω.S → DR Γ.K ω'.F v (.tuple ds) → Q v ω'.H) {p : Addr} (hp : ω.H p = none) :
    Q (.ref p) (upd ω.H p (.tup vs)) := q _ _ (Wd.put_le ok (.tup vs) hp) (Wd.put_ok ok _ hp) rfl (DR.new_tup ok hp r)
theorem sl_serves (c : Ctx Γ X) {ω : Wd} (ok : WOk Γ ω) {x : V} {u : Val} {lo hi : Option Int} {z : D} {Q : VK} (r : RT (Γ := Γ) false ω x u) (h : opSl u lo hi = some z)
    (q : ∀ ω' v, Le ω ω' → WOk Γ ω' → ω'.S = ω.S → DR Γ.K ω'.F v z → Q v ω'.H) : rSlP X.K x lo hi ω.H Q := by
  cases u with
  | obj n => cases h
  | scr ns =>
    cases h
    obtain ⟨a, rfl, hs⟩ := r
    have hs' := ok.sub.sqL hs
    rw [c.hK] at hs'
    exact .inl ⟨a, _, rfl, hs', fun p hp => new_list ok ((DRs.of_ints ns).cut lo hi) q hp⟩
  | d y =>
    cases y with
    | list ds =>
      cases h
      obtain ⟨p, vs, rfl, e, d⟩ := DT.list ok r
      exact .inl ⟨p, vs, rfl, .of e, fun t ht => new_list ok (d.cut lo hi) q ht⟩
    | tuple ds =>
      cases h
      obtain ⟨p, vs, rfl, e, f, d⟩ := DT.tup ok r
      rw [c.hK] at e
      refine .inr ⟨p, vs, rfl, e, fun hw => ?_, fun hw t ht => new_tuple ok (d.cut lo hi) q ht⟩
      rw [d.length] at hw
      rw [cutD_all hw] at q
      exact q ω _ (Le.refl ω) ok rfl (.tup f d)
    | _ => cases h
theorem me_sl (c : Ctx Γ X) {lo hi : Option Expr} {ml mh : MO} {p2 : Pos} (ha : PE X a (T Γ O ma c1)) (hl : PO X lo (TPo Γ O ml)) (hh : PO X hi (TPo Γ O mh)) : PE X (.Subscript a (.Slice lo hi none p2) pos) (T Γ O (eSl ma ml mh) true) :=
  PE.mono (pe_slice (r := rSlP X.K) (sl_list.or sl_tupA) (PM.weak ha) hl hh) fun σ H Q ⟨ω, ρ, w, S', e1, ok, E, e2, k⟩ => by
  obtain ⟨u, S1, l, S2, g, z, ea, el, eh, ez, rfl⟩ := eSl_some e2
  refine ⟨ω, ρ, u, S1, e1, ok, E, ea, fun ω1 v1 l1 ok1 es1 r1 => ?_⟩
  refine ⟨ω1, ρ, l, S2, rfl, ok1, E.le l1, by rw [es1]; exact el, fun ω2 l2 ok2 es2 => ?_⟩
  refine ⟨ω2, ρ, g, S', rfl, ok2, (E.le l1).le l2, by rw [es2]; exact eh, fun ω3 l3 ok3 es3 => ?_⟩
  exact sl_serves c ok3 (RT.le l3 (RT.le l2 r1)) ez fun ω4 v l4 ok4 es4 r4 => k ω4 v (((l1.trans l2).trans l3).trans l4) ok4 (es4.trans es3) r4
/-- xs[::-1] of a list -/
def eRev (a : Mean) : Mean := fun ρ S => match a ρ S with
  | some (.d (.list ds), S1) => some (.d (.list ds.reverse), S1)
  | _ => none
theorem me_rev (c : Ctx Γ X) {k : Nat} {p1 p2 p3 : Pos} (ha : PE X a (T Γ O ma c1)) : PE X (.Subscript a (.Slice none none (some (.UnaryOp .USub (.Constant (.int 1) k p1) p2)) p3) pos) (T Γ O (eRev ma) true) :=
  PE.mono (pe_revL (PM.weak ha)) fun σ H Q ⟨ω, ρ, w, S', e1, ok, E, e2, k⟩ => by
  unfold eRev at e2
  split at e2
  · rename_i ds S1 e
    cases e2
    refine ⟨ω, ρ, _, S', e1, ok, E, e, fun ω1 v1 l1 ok1 es1 r1 => ?_⟩
    obtain ⟨p, vs, rfl, h, d⟩ := DT.list ok1 r1
    exact ⟨p, vs, rfl, .of h, fun t ht => new_list ok1 d.reverse (fun ω2 v l2 ok2 es2 r2 => k ω2 v (l1.trans l2) ok2 (es2.trans es1) r2) ht⟩
  · cases e2

/-! ### built-in calls of one argument -/
def eU (op : Val → Option D) (a : Mean) : Mean := fun ρ S => match a ρ S with
  | some (u, S1) => (op u).map fun z => (.d z, S1)
  | none => none
theorem eU_some {op : Val → Option D} {a : Mean} {ρ : Env} {S S' : Store} {w : Val} (h : eU op a ρ S = some (w, S')) : ∃ u z, a ρ S = some (u, S') ∧ op u = some z ∧ w = .d z := by
  unfold eU at h
  split at h
  · rename_i u S1 e
    cases e2 : op u with
    | none => rw [e2] at h; cases h
    | some z => rw [e2] at h; cases h; exact ⟨u, z, e, e2, rfl⟩
  · cases h
def Serves1 (Γ : Gam) (r : List V → Hp → VK → Prop) (op : Val → Option D) : Prop := ∀ (ω : Wd) (x : V) (u : Val) (z : D) (Q : VK), WOk Γ ω → RT (Γ := Γ) false ω x u → op u = some z →
  (∀ ω' v, Le ω ω' → WOk Γ ω' → ω'.S = ω.S → DR Γ.K ω'.F v z → Q v ω'.H) → r [x] ω.H Q
theorem T_un {r : List V → Hp → VK → Prop} {op : Val → Option D} (hs : Serves1 Γ r op) {σ : St} {H : Hp} {Q : VK} (h : T Γ O (eU op ma) true σ H Q) : tCB r (tCons (T Γ O ma false) tNil) σ H Q := by
  obtain ⟨ω, ρ, w, S', e1, ok, E, e2, k⟩ := h
  obtain ⟨u, z, ea, ez, rfl⟩ := eU_some e2
  refine ⟨ω, ρ, u, S', e1, ok, E, ea, fun ω1 v1 l1 ok1 es1 r1 => ?_⟩
  exact hs ω1 v1 u z Q ok1 r1 ez fun ω2 v l2 ok2 es2 r2 => k ω2 v (l1.trans l2) ok2 (es2.trans es1) r2
theorem me_b1 {id : String} {r : List V → Hp → VK → Prop} {op : Val → Option D} {x : Str} {p : Pos} (hc : CallR X (.builtin id) r) (hs : Serves1 Γ r op) (hm : X.mg x = none) (hv : bootBuiltins x = some (.builtin id)) (hg : Gl X x) (ha : PE X a (T Γ O ma c1))
    (hn : x ≠ "__name__" := by decide) (hdb : (x == ("__debug__" : Str)) = false := by decide) (na : starEach [a] X.env = (false, eval a X.env) :: starEach [] X.env := by rfl) (hpl : (backTo pos (starEach [] X.env)).any (·.1) = false := by rfl) :
    PE X (.Call (.Name x p) [a] [] pos) (T Γ O (eU op ma) true) :=
  PE.mono (pe_callB hc hg hm hv (pa_cons (PM.weak ha) pa_nil na) hn hdb na hpl) fun σ H Q h => T_un hs h
theorem me_t1 {id : String} {r : List V → Hp → VK → Prop} {op : Val → Option D} {x : Str} {p : Pos} (hc : CallR X (.type id) r) (hs : Serves1 Γ r op) (hm : X.mg x = none) (hv : bootBuiltins x = some (.type id)) (hg : Gl X x) (ha : PE X a (T Γ O ma c1))
    (hn : x ≠ "__name__" := by decide) (hdb : (x == ("__debug__" : Str)) = false := by decide) (na : starEach [a] X.env = (false, eval a X.env) :: starEach [] X.env := by rfl) (hpl : (backTo pos (starEach [] X.env)).any (·.1) = false := by rfl) :
    PE X (.Call (.Name x p) [a] [] pos) (T Γ O (eU op ma) true) :=
  PE.mono (pe_callTy hc hg hm hv (pa_cons (PM.weak ha) pa_nil na) hn hdb na hpl) fun σ H Q h => T_un hs h
def opLen : Val → Option D
  | .d (.list ds) => some (.int ds.length)
  | .d (.tuple ds) => some (.int ds.length)
  | _ => none
def opAll : Val → Option D
  | .d (.list ds) => (boolsD ds).map fun bs => .bool (bs.all id)
  | _ => none
def opAny : Val → Option D
  | .d (.list ds) => (boolsD ds).map fun bs => .bool (bs.any id)
  | _ => none
def opSum : Val → Option D
  | .d (.list ds) => (intsD ds).map fun is => .int is.sum
  | _ => none
def opTuple : Val → Option D
  | .d (.list ds) => some (.tuple ds)
  | .d (.tuple ds) => some (.tuple ds)
  | _ => none
def opInt : Val → Option D
  | .d (.int i) => some (.int i)
  | .d (.bool b) => some (.int (if b then 1 else 0))
  | _ => none
theorem sv_len (c : Ctx Γ X) : Serves1 Γ (fun xs H Q => ∃ p ys, xs = [.ref p] ∧ (SqL X.K H p ys ∨ SqT X.K H p ys) ∧ Q (.int ys.length) H) opLen := fun ω x u z Q ok r h q => by
  cases u with
  | obj n => cases h
  | scr ns => cases h
  | d y =>
    cases y with
    | list ds =>
      cases h
      obtain ⟨p, vs, rfl, e, d⟩ := DT.list ok r
      exact ⟨p, vs, rfl, .inl (.of e), by rw [d.length]; exact done_int ok q⟩
    | tuple ds =>
      cases h
      obtain ⟨p, vs, rfl, e, _, d⟩ := DT.tup ok r
      rw [c.hK] at e
      exact ⟨p, vs, rfl, .inr e, by rw [d.length]; exact done_int ok q⟩
    | _ => cases h
theorem sv_all (c : Ctx Γ X) : Serves1 Γ (rAll X.K) opAll := fun ω x u z Q ok r h q => by
  cases u with
  | obj n => cases h
  | scr ns => cases h
  | d y =>
    cases y with
    | list ds =>
      simp only [opAll] at h
      cases e2 : boolsD ds with
      | none => rw [e2] at h; cases h
      | some bs =>
        rw [e2] at h; cases h
        obtain ⟨p, vs, rfl, e, d⟩ := DT.list ok r
        rw [bools_map e2] at d
        rw [d.boolsD] at e
        exact ⟨p, bs, rfl, .of e, done_bl ok q⟩
    | _ => cases h
theorem sv_any (c : Ctx Γ X) : Serves1 Γ (rAny X.K) opAny := fun ω x u z Q ok r h q => by
  cases u with
  | obj n => cases h
  | scr ns => cases h
  | d y =>
    cases y with
    | list ds =>
      simp only [opAny] at h
      cases e2 : boolsD ds with
      | none => rw [e2] at h; cases h
      | some bs =>
        rw [e2] at h; cases h
        obtain ⟨p, vs, rfl, e, d⟩ := DT.list ok r
        rw [bools_map e2] at d
        rw [d.boolsD] at e
        exact ⟨p, bs, rfl, .of e, done_bl ok q⟩
    | _ => cases h
theorem sv_sum (c : Ctx Γ X) : Serves1 Γ (rSum X.K) opSum := fun ω x u z Q ok r h q => by
  cases u with
  | obj n => cases h
  | scr ns => cases h
  | d y =>
    cases y with
    | list ds =>
      simp only [opSum] at h
      cases e2 : intsD ds with
      | none => rw [e2] at h; cases h
      | some bs =>
        rw [e2] at h; cases h
        obtain ⟨p, vs, rfl, e, d⟩ := DT.list ok r
        rw [ints_map e2] at d
        rw [d.intsD] at e
        exact ⟨p, bs, rfl, .of e, done_int ok q⟩
    | _ => cases h
theorem sv_tuple (c : Ctx Γ X) : Serves1 Γ (fun xs H Q => ∃ p ys, xs = [.ref p] ∧ ((SqL X.K H p ys ∧ ∀ l, H l = none → Q (.ref l) (upd H l (.tup ys))) ∨ (SqT X.K H p ys ∧ Q (.ref p) H))) opTuple := fun ω x u z Q ok r h q => by
  cases u with
  | obj n => cases h
  | scr ns => cases h
  | d y =>
    cases y with
    | list ds =>
      cases h
      obtain ⟨p, vs, rfl, e, d⟩ := DT.list ok r
      exact ⟨p, vs, rfl, .inl ⟨.of e, fun l hl => new_tuple ok d q hl⟩⟩
    | tuple ds =>
      cases h
      obtain ⟨p, vs, rfl, e, f, d⟩ := DT.tup ok r
      rw [c.hK] at e
      exact ⟨p, vs, rfl, .inr ⟨e, q ω _ (Le.refl ω) ok rfl (.tup f d)⟩⟩
    | _ => cases h
theorem sv_int : Serves1 Γ (fun xs H Q => (∃ i, xs = [.int i] ∧ Q (.int i) H) ∨ ∃ k, xs = [.bl k] ∧ Q (.int (if k then 1 else 0)) H) opInt := fun ω x u z Q ok r h q => by
  cases u with
  | obj n => cases h
  | scr ns => cases h
  | d y =>
    cases y with
    | int i =>
      cases h
      exact .inl ⟨i, by rw [DT.int r], done_int ok q⟩
    | bool b =>
      cases h
      exact .inr ⟨b, by rw [DT.bl r], done_int ok q⟩
    | _ => cases h
variable {p : Pos}
theorem me_len (c : Ctx Γ X) (hg : Gl X "len") (ha : PE X a (T Γ O ma c1)) (na : starEach [a] X.env = (false, eval a X.env) :: starEach [] X.env := by rfl) : PE X (.Call (.Name "len" p) [a] [] pos) (T Γ O (eU opLen ma) true) :=
  me_b1 call_len_seq (sv_len c) c.b_len PySem.boot_len hg ha (by decide) (by decide) na
theorem me_all (c : Ctx Γ X) (hg : Gl X "all") (ha : PE X a (T Γ O ma c1)) (na : starEach [a] X.env = (false, eval a X.env) :: starEach [] X.env := by rfl) : PE X (.Call (.Name "all" p) [a] [] pos) (T Γ O (eU opAll ma) true) :=
  me_b1 (cr_all c.calm) (sv_all c) c.b_all (by decide +kernel) hg ha (by decide) (by decide) na
theorem me_any (c : Ctx Γ X) (hg : Gl X "any") (ha : PE X a (T Γ O ma c1)) (na : starEach [a] X.env = (false, eval a X.env) :: starEach [] X.env := by rfl) : PE X (.Call (.Name "any" p) [a] [] pos) (T Γ O (eU opAny ma) true) :=
  me_b1 (cr_any c.calm) (sv_any c) c.b_any (by decide +kernel) hg ha (by decide) (by decide) na
theorem me_sum (c : Ctx Γ X) (hg : Gl X "sum") (ha : PE X a (T Γ O ma c1)) (na : starEach [a] X.env = (false, eval a X.env) :: starEach [] X.env := by rfl) : PE X (.Call (.Name "sum" p) [a] [] pos) (T Γ O (eU opSum ma) true) :=
  me_b1 (cr_sum c.calm) (sv_sum c) c.b_sum (by decide +kernel) hg ha (by decide) (by decide) na
theorem me_tuple (c : Ctx Γ X) (hg : Gl X "tuple") (ha : PE X a (T Γ O ma c1)) (na : starEach [a] X.env = (false, eval a X.env) :: starEach [] X.env := by rfl) : PE X (.Call (.Name "tuple" p) [a] [] pos) (T Γ O (eU opTuple ma) true) :=
  me_t1 call_tuple_of (sv_tuple c) c.b_tuple (by decide +kernel) hg ha (by decide) (by decide) na
theorem me_int_ (c : Ctx Γ X) (hg : Gl X "int") (ha : PE X a (T Γ O ma c1)) (na : starEach [a] X.env = (false, eval a X.env) :: starEach [] X.env := by rfl) : PE X (.Call (.Name "int" p) [a] [] pos) (T Γ O (eU opInt ma) true) :=
  me_t1 call_int1 sv_int c.b_int (by decide +kernel) hg ha (by decide) (by decide) na
/-- list(xs): new -/
def eList (a : Mean) : Mean := fun ρ S => match a ρ S with
  | some (.d (.list ds), S1) => some (.d (.list ds), S1)
  | some (.d (.tuple ds), S1) => some (.d (.list ds), S1)
  | some (.scr ns, S1) => some (.d (.list (ns.map PyData.int)), S1)
  | _ => none
theorem mf_list (c : Ctx Γ X) (hg : Gl X "list") (ha : PE X a (T Γ O ma c1)) (na : starEach [a] X.env = (false, eval a X.env) :: starEach [] X.env := by rfl) (hpl : (backTo pos (starEach [] X.env)).any (·.1) = false := by rfl) : PE X (.Call (.Name "list" p) [a] [] pos) (TF Γ O (eList ma)) :=
  PE.mono (pe_callTy call_list_of hg c.b_list (by decide +kernel) (pa_cons (PM.weak ha) pa_nil na) (by decide) (by decide) na hpl) fun σ H Q ⟨ω, ρ, ds, S', e1, ok, E, e2, k⟩ => by
  have key : ∃ u, ma ρ ω.S = some (u, S') ∧ ((u = .d (.list ds) ∨ u = .d (.tuple ds)) ∨ ∃ ns, u = .scr ns ∧ ds = ns.map PyData.int) := by
    unfold eList at e2
    split at e2
    · rename_i e; cases e2; exact ⟨_, e, .inl (.inl rfl)⟩
    · rename_i e; cases e2; exact ⟨_, e, .inl (.inr rfl)⟩
    · rename_i e; cases e2; exact ⟨_, e, .inr ⟨_, rfl, rfl⟩⟩
    · cases e2
  obtain ⟨u, eu, hu⟩ := key
  refine ⟨ω, ρ, u, S', e1, ok, E, eu, fun ω1 v1 l1 ok1 es1 r1 => ?_⟩
  have fin : ∀ (vs : List V), DRs Γ.K ω1.F vs ds → ∀ l, ω1.H l = none → Q (.ref l) (upd ω1.H l (.lst vs)) := fun vs d l hl =>
    k _ l vs (l1.trans (Wd.lay_le ok1 (.lst vs) hl)) (Wd.lay_ok ok1 _ hl) es1 upd_same d (ok1.none_F hl) (ok1.fresh hl) (le_none l1 hl)
  rcases hu with (rfl | rfl) | ⟨ns, rfl, rfl⟩
  · obtain ⟨p, vs, rfl, e, d⟩ := DT.list ok1 r1
    exact ⟨p, vs, rfl, .inl (.of e), fin vs d⟩
  · obtain ⟨p, vs, rfl, e, _, d⟩ := DT.tup ok1 r1
    rw [c.hK] at e
    exact ⟨p, vs, rfl, .inr e, fin vs d⟩
  · obtain ⟨p, rfl, hs⟩ := r1
    have hs' := ok1.sub.sqL hs
    rw [c.hK] at hs'
    exact ⟨p, _, rfl, .inl hs', fin _ (DRs.of_ints ns)⟩
theorem eList_list : ∀ (ρ : Env) (S : Store) (u : Val) (S' : Store), eList ma ρ S = some (u, S') → ∃ ds, u = .d (.list ds) := fun ρ S u S' h => by
  unfold eList at h
  split at h <;> first | (cases h; exact ⟨_, rfl⟩) | cases h
theorem me_list (c : Ctx Γ X) (hg : Gl X "list") (ha : PE X a (T Γ O ma c1)) (na : starEach [a] X.env = (false, eval a X.env) :: starEach [] X.env := by rfl) (hpl : (backTo pos (starEach [] X.env)).any (·.1) = false := by rfl) : PE X (.Call (.Name "list" p) [a] [] pos) (T Γ O (eList ma) true) :=
  PM.fresh (mf_list c hg ha na hpl) eList_list
/-- [x] * n: new -/
def eRep (a b : Mean) : Mean := fun ρ S => match a ρ S with
  | some (.d (.list ds), S1) => match b ρ S1 with
    | some (.d (.int k), S2) => if 0 ≤ k ∧ k ≤ 1000 ∧ ds.length ≤ 1000 then some (.d (.list (List.replicate k.toNat ds).flatten), S2) else none
    | _ => none
  | _ => none
theorem DRs.rep {K : PySem.W.Frag} {F : Hp} {vs : List V} {ds : List D} (r : DRs K F vs ds) : ∀ n, DRs K F (List.replicate n vs).flatten (List.replicate n ds).flatten
  | 0 => .nil
  | n + 1 => by rw [List.replicate_succ, List.replicate_succ, List.flatten_cons, List.flatten_cons]; exact r.append (DRs.rep r n)
theorem mf_rep (ha : PE X a (T Γ O ma c1)) (hb : PE X b (T Γ O mb c2)) : PE X (.BinOp a .Mult b pos) (TF Γ O (eRep ma mb)) :=
  PE.mono (pe_op op_rep (PM.weak ha) (PM.weak hb)) fun σ H Q ⟨ω, ρ, ds, S', e1, ok, E, e2, k⟩ => by
  unfold eRep at e2
  split at e2
  · rename_i es S1 ea
    split at e2
    · rename_i n S2 eb
      split at e2
      · rename_i hn
        cases e2
        refine ⟨ω, ρ, _, S1, e1, ok, E, ea, fun ω1 v1 l1 ok1 es1 r1 => ?_⟩
        refine ⟨ω1, ρ, _, S', rfl, ok1, E.le l1, by rw [es1]; exact eb, fun ω2 v2 l2 ok2 es2 r2 => ?_⟩
        obtain ⟨p, vs, rfl, e, d⟩ := DT.list ok2 (DT.le l2 r1)
        have hz : vs.length * n.toNat ≤ sizeLine := by
          rw [d.length]
          refine Nat.le_trans (Nat.mul_le_mul hn.2.2 (show n.toNat ≤ 1000 by omega)) ?_
          rw [sizeLine_eq]; decide
        exact ⟨p, n, vs, rfl, DT.int r2, e, by omega, by omega, hz, fun t ht =>
          k _ t _ ((l1.trans l2).trans (Wd.lay_le ok2 (.lst _) ht)) (Wd.lay_ok ok2 _ ht) es2 upd_same (d.rep _) (ok2.none_F ht) (ok2.fresh ht) (le_none (l1.trans l2) ht)⟩
      · cases e2
    · cases e2
  · cases e2
theorem eRep_list : ∀ (ρ : Env) (S : Store) (u : Val) (S' : Store), eRep ma mb ρ S = some (u, S') → ∃ ds, u = .d (.list ds) := fun ρ S u S' h => by
  unfold eRep at h
  split at h
  · split at h
    · split at h
      · cases h; exact ⟨_, rfl⟩
      · cases h
    · cases h
  · cases h
theorem me_rep (ha : PE X a (T Γ O ma c1)) (hb : PE X b (T Γ O mb c2)) : PE X (.BinOp a .Mult b pos) (T Γ O (eRep ma mb) true) := PM.fresh (mf_rep ha hb) eRep_list
end
end MP
set_option Elab.async false
set_option linter.all false
set_option maxRecDepth 20000
/-! Part 5: arguments, displays, the call of a def, objects. -/
namespace MP
open PySem L2
open PySem.PyData (strOk)
section
variable {Γ : Gam} {X : Cx} {O : List Nat}
/-! ### arguments from the left -/
def aNil : Means := fun _ S => some ([], S)
def aCons (m : Mean) (ms : Means) : Means := fun ρ S => match m ρ S with
  | some (u, S1) => match ms ρ S1 with
    | some (us, S2) => some (u :: us, S2)
    | none => none
  | none => none
theorem aCons_some {m : Mean} {ms : Means} {ρ : Env} {S S' : Store} {us : List Val} (h : aCons m ms ρ S = some (us, S')) : ∃ u S1 ws, m ρ S = some (u, S1) ∧ ms ρ S1 = some (ws, S') ∧ us = u :: ws := by
  unfold aCons at h
  split at h
  · rename_i u S1 e1
    split at h
    · rename_i ws S2 e2
      cases h
      exact ⟨u, S1, ws, e1, e2, rfl⟩
    · cases h
  · cases h
theorem ma_nil : PA X [] (TAs Γ O aNil) := PA.mono pa_nil fun σ H Q ⟨ω, ρ, us, S', e1, ok, E, e2, k⟩ => by
  cases e2
  subst e1
  exact k ω [] (Le.refl ω) ok rfl .nil
theorem ma_cons {e : Expr} {es : List Expr} {m : Mean} {ms : Means} (h : PE X e (T Γ O m true)) (hr : PA X es (TAs Γ O ms)) (hs : starEach (e :: es) X.env = (false, eval e X.env) :: starEach es X.env := by rfl) : PA X (e :: es) (TAs Γ O (aCons m ms)) :=
  PA.mono (pa_cons h hr hs) fun σ H Q ⟨ω, ρ, us, S', e1, ok, E, e2, k⟩ => by
  obtain ⟨u, S1, ws, ea, eb, rfl⟩ := aCons_some e2
  refine ⟨ω, ρ, u, S1, e1, ok, E, ea, fun ω1 v1 l1 ok1 es1 r1 => ?_⟩
  refine ⟨ω1, ρ, ws, S', rfl, ok1, E.le l1, by rw [es1]; exact eb, fun ω2 vs l2 ok2 es2 r2 => ?_⟩
  exact k ω2 (v1 :: vs) (l1.trans l2) ok2 es2 (.cons (RT.rv r1 |>.le l2) r2)

/-! ### displays -/
def datas : List Val → Option (List D)
  | [] => some []
  | .d x :: r => (datas r).map (x :: ·)
  | _ => none
theorem datas_rel {F : Hp} {φ : List Addr} {vs : List V} {us : List Val} (h : RVs Γ F φ vs us) : ∀ {ds : List D}, datas us = some ds → DRs Γ.K F vs ds := by
  induction h with
  | nil => intro ds e; cases e; exact .nil
  | @cons v u vs us a _ ih =>
    intro ds e
    cases u with
    | d x =>
      simp only [datas] at e
      cases e2 : datas us with
      | none => rw [e2] at e; cases e
      | some es => rw [e2] at e; cases e; exact .cons a (ih e2)
    | _ => cases e
theorem datas_length : ∀ {us : List Val} {ds : List D}, datas us = some ds → ds.length = us.length
  | [], ds, h => by cases h; rfl
  | .d x :: r, ds, h => by
    simp only [datas] at h
    cases e : datas r with
    | none => rw [e] at h; cases h
    | some es => rw [e] at h; cases h; simp [datas_length e]
  | .obj _ :: _, _, h => by cases h
  | .scr _ :: _, _, h => by cases h
def eTup (ms : Means) : Mean := fun ρ S => match ms ρ S with
  | some (us, S1) => (datas us).map fun ds => (.d (.tuple ds), S1)
  | none => none
def eLst (ms : Means) : Mean := fun ρ S => match ms ρ S with
  | some (us, S1) => (datas us).map fun ds => (.d (.list ds), S1)
  | none => none
/-- a list that is an object of the store -/
def eCells (ms : Means) : Mean := fun ρ S => match ms ρ S with
  | some (us, S1) => (datas us).map fun ds => (.obj S1.length, S1 ++ [.cells ds])
  | none => none
theorem eTup_some {ms : Means} {ρ : Env} {S S' : Store} {w : Val} (h : eTup ms ρ S = some (w, S')) : ∃ us ds, ms ρ S = some (us, S') ∧ datas us = some ds ∧ w = .d (.tuple ds) := by
  unfold eTup at h
  split at h
  · rename_i us S1 e
    cases e2 : datas us with
    | none => rw [e2] at h; cases h
    | some ds => rw [e2] at h; cases h; exact ⟨us, ds, e, e2, rfl⟩
  · cases h
theorem eLst_some {ms : Means} {ρ : Env} {S S' : Store} {w : Val} (h : eLst ms ρ S = some (w, S')) : ∃ us ds, ms ρ S = some (us, S') ∧ datas us = some ds ∧ w = .d (.list ds) := by
  unfold eLst at h
  split at h
  · rename_i us S1 e
    cases e2 : datas us with
    | none => rw [e2] at h; cases h
    | some ds => rw [e2] at h; cases h; exact ⟨us, ds, e, e2, rfl⟩
  · cases h
theorem eLst_list {ms : Means} : ∀ (ρ : Env) (S : Store) (u : Val) (S' : Store), eLst ms ρ S = some (u, S') → ∃ ds, u = .d (.list ds) := fun ρ S u S' h => by
  obtain ⟨_, ds, _, _, e⟩ := eLst_some h
  exact ⟨ds, e⟩
variable {es : List Expr} {ms : Means} {pos : Pos}
/-- n items are written -/
def aLen : List Expr → Means → Prop := fun es ms => ∀ ρ S us S', ms ρ S = some (us, S') → us.length = es.length
theorem al_nil : aLen [] aNil := fun ρ S us S' h => by cases h; rfl
theorem al_cons {e : Expr} {m : Mean} (h : aLen es ms) : aLen (e :: es) (aCons m ms) := fun ρ S us S' e => by
  obtain ⟨u, S1, ws, _, eb, rfl⟩ := aCons_some e
  simp [h _ _ _ _ eb]
theorem PAs.lt (h : PA X es (TAs Γ O ms)) : True := trivial
def small (n : Nat) : Prop := n ≤ 1000000
theorem me_tup {x1} (h : PA X es (TAs Γ O ms)) (hl : aLen es ms) (hn : es.length ≤ 1000 := by decide) : PE X (.Tuple es x1 pos) (T Γ O (eTup ms) true) := PE.mono (pe_tup h) fun σ H Q ⟨ω, ρ, w, S', e1, ok, E, e2, k⟩ => by
  obtain ⟨us, ds, ea, ed, rfl⟩ := eTup_some e2
  refine ⟨ω, ρ, us, S', e1, ok, E, ea, fun ω1 vs l1 ok1 es1 r1 => ?_⟩
  have d := datas_rel r1 ed
  refine ⟨lineM ?_, fun p hp => new_tuple ok1 d (fun ω2 v l2 ok2 es2 r2 => k ω2 v (l1.trans l2) ok2 (es2.trans es1) r2) hp⟩
  rw [r1.length, hl _ _ _ _ ea]
  omega
theorem mf_lst (h : PA X es (TAs Γ O ms)) (hl : aLen es ms) (hn : es.length ≤ 1000 := by decide) : PE X (.List es pos) (TF Γ O (eLst ms)) := PE.mono (pe_lst h) fun σ H Q ⟨ω, ρ, ds', S', e1, ok, E, e2, k⟩ => by
  obtain ⟨us, ds, ea, ed, e3⟩ := eLst_some e2
  cases e3
  refine ⟨ω, ρ, us, S', e1, ok, E, ea, fun ω1 vs l1 ok1 es1 r1 => ?_⟩
  have d := datas_rel r1 ed
  refine ⟨lineM ?_, fun p hp => k _ p vs (l1.trans (Wd.lay_le ok1 (.lst vs) hp)) (Wd.lay_ok ok1 _ hp) es1 upd_same d (ok1.none_F hp) (ok1.fresh hp) (le_none l1 hp)⟩
  rw [r1.length, hl _ _ _ _ ea]
  omega
theorem me_lst (h : PA X es (TAs Γ O ms)) (hl : aLen es ms) (hn : es.length ≤ 1000 := by decide) : PE X (.List es pos) (T Γ O (eLst ms) true) := PM.fresh (mf_lst h hl hn) eLst_list
/-- a new object of the store -/
def Wd.add (ω : Wd) (p : Addr) (o : HO) (b : Ob) : Wd := { ω with H := upd ω.H p o, φ := ω.φ ++ [p], S := ω.S ++ [b] }
theorem ObR.more {ω : Wd} {p : Addr} {o : HO} {b : Ob} (ok : WOk Γ ω) (h : ω.H p = none) {a : Addr} {c : Ob} (r : ObR Γ ω a c) : ObR Γ (ω.add p o b) a c := by
  cases c with
  | cells xs => obtain ⟨vs, e, d⟩ := r; exact ⟨vs, by show upd ω.H p o a = _; rw [upd_ne (ne_of_none e h)]; exact e, d⟩
  | inst c fs => obtain ⟨dx, vs, e, d, l⟩ := r; exact ⟨dx, vs, by show upd ω.H p o a = _; rw [upd_ne (ne_of_none e h)]; exact e, d.mono (Sub.refl _) (List.prefix_append _ _), l⟩
theorem Wd.add_le {ω : Wd} (ok : WOk Γ ω) {p : Addr} (o : HO) (b : Ob) (h : ω.H p = none) : Le ω (ω.add p o b) where
  F := Sub.refl _
  φ := List.prefix_append _ _
  H := (Wd.lay_le ok o h).H
  Hs := (Wd.lay_le ok o h).Hs
  nF := fun q u e => .inl e
  nφ := fun q e => by
    rcases List.mem_append.mp e with e | e
    · exact .inl e
    · rw [List.mem_singleton] at e; subst e; exact .inr h
theorem Wd.add_ok {ω : Wd} (ok : WOk Γ ω) {p : Addr} {o : HO} {b : Ob} (h : ω.H p = none) (new : ObR Γ (ω.add p o b) p b) : WOk Γ (ω.add p o b) where
  sub := (Wd.lay_ok ok o h).sub
  len := by show (ω.φ ++ [p]).length = (ω.S ++ [b]).length; simp [ok.len]
  nd := by
    show (ω.φ ++ [p]).Nodup
    rw [List.nodup_append]
    refine ⟨ok.nd, by simp, fun a ha c hc => ?_⟩
    rw [List.mem_singleton] at hc
    subst hc
    intro z; subst z
    exact ok.fresh h ha
  fr := fun a ha => by
    rcases List.mem_append.mp ha with e | e
    · exact ok.fr a e
    · rw [List.mem_singleton] at e; subst e; exact ok.none_F h
  ob := fun n c e => by
    have e : (ω.S ++ [b])[n]? = some c := e
    by_cases hn : n < ω.S.length
    · rw [List.getElem?_append_left hn] at e
      obtain ⟨a, e1, r⟩ := ok.ob n c e
      exact ⟨a, prefix_get (List.prefix_append _ _) e1, ObR.more ok h r⟩
    · rw [List.getElem?_append_right (by omega)] at e
      have hz : n - ω.S.length = 0 := by
        have := (List.getElem?_eq_some_iff.mp e).1
        simp at this; omega
      rw [hz] at e
      cases e
      refine ⟨p, ?_, new⟩
      show (ω.φ ++ [p])[n]? = some p
      rw [List.getElem?_append_right (by rw [ok.len]; omega), show n - ω.φ.length = 0 by rw [ok.len]; exact hz]
      rfl
theorem add_get {ω : Wd} (ok : WOk Γ ω) {p : Addr} {o : HO} {b : Ob} : (ω.add p o b).φ[ω.S.length]? = some p := by
  show (ω.φ ++ [p])[ω.S.length]? = some p
  rw [← ok.len, List.getElem?_append_right (Nat.le_refl _), Nat.sub_self]
  rfl
theorem me_cells (h : PA X es (TAs Γ O ms)) (hl : aLen es ms) (hn : es.length ≤ 1000 := by decide) : PE X (.List es pos) (T Γ O (eCells ms) true) := PE.mono (pe_lst h) fun σ H Q ⟨ω, ρ, w, S', e1, ok, E, e2, k⟩ => by
  unfold eCells at e2
  split at e2
  · rename_i us S1 ea
    cases ed : datas us with
    | none => rw [ed] at e2; cases e2
    | some ds =>
      rw [ed] at e2
      cases e2
      refine ⟨ω, ρ, us, S1, e1, ok, E, ea, fun ω1 vs l1 ok1 es1 r1 => ?_⟩
      subst es1
      have d := datas_rel r1 ed
      refine ⟨lineM ?_, fun p hp => ?_⟩
      · rw [r1.length, hl _ _ _ _ ea]
        omega
      · exact k (ω1.add p (.lst vs) (.cells ds)) (.ref p) (l1.trans (Wd.add_le ok1 _ _ hp)) (Wd.add_ok ok1 hp ⟨vs, upd_same, d⟩) rfl ⟨p, add_get ok1, rfl⟩
  · cases e2

/-! ### the call of a def -/
/-- what the defs give at a level: by number, arguments, store -/
abbrev Calls := Nat → List Val → Store → Option (Val × Store)
/-- the promise of the def f, whose meaning is B f -/
def spF (Γ : Gam) (B : Calls) (f n : Nat) : Sp := fun vs H Q _ => ∃ ω us u S', ω.H = H ∧ WOk Γ ω ∧ RVs Γ ω.F ω.φ vs us ∧ us.length = n ∧ B f us ω.S = some (u, S') ∧
  ∀ ω' v, Le ω ω' → WOk Γ ω' → ω'.S = S' → RV Γ ω'.F ω'.φ v u → Q v ω'.H
def eCall (B : Calls) (f : Nat) (ms : Means) (dflt : List Val) : Mean := fun ρ S => match ms ρ S with
  | some (us, S1) => B f (us ++ dflt) S1
  | none => none
theorem eCall_some {B : Calls} {f : Nat} {dflt : List Val} {ρ : Env} {S : Store} {r : Val × Store} (h : eCall B f ms dflt ρ S = some r) : ∃ us S1, ms ρ S = some (us, S1) ∧ B f (us ++ dflt) S1 = some r := by
  unfold eCall at h
  split at h
  · rename_i us S1 e; exact ⟨us, S1, e, h⟩
  · cases h
theorem T_call {B : Calls} {f n : Nat} {dvs : List V} {dus : List Val} {m : Nat} (hd : ∀ (ω : Wd), RVs Γ ω.F ω.φ dvs dus) (hn : es.length + dus.length = n) (hl : aLen es ms) {σ : St} {H : Hp} {Q : VK} (h : T Γ O (eCall B f ms dus) true σ H Q) :
    tCall (spF Γ B f n) dvs E0 (TAs Γ O ms) σ H Q := by
  obtain ⟨ω, ρ, w, S', e1, ok, E, e2, k⟩ := h
  obtain ⟨us, S1, ea, eb⟩ := eCall_some e2
  refine ⟨ω, ρ, us, S1, e1, ok, E, ea, fun ω1 vs l1 ok1 es1 r1 => ?_⟩
  refine ⟨ω1, us ++ dus, w, S', rfl, ok1, r1.append (hd ω1), by rw [List.length_append, hl _ _ _ _ ea]; exact hn, by rw [es1]; exact eb, fun ω2 v l2 ok2 es2 r2 => ?_⟩
  exact k ω2 v (l1.trans l2) ok2 es2 (RT.of r2)
theorem me_call {B : Calls} {f n k : Nat} {fa : Addr} {fd : FuncData} {ps : List Str} {x : Str} {p : Pos} {e : Expr} {dvs : List V} {ds : List Value} {dus : List Val}
    (F : FnOk X.prog X.w X.K X.mg X.base CX0 k fa fd ps (spF Γ B f n)) (hr : Room k X.A) (hm : X.mg x = some (.ref fa)) (hk : PySem.W.keepIn X.K (.ref fa) = true) (hb : Binds X.K fd ps ds)
    (hdv : Vals dvs ds) (hd : ∀ (ω : Wd), RVs Γ ω.F ω.φ dvs dus) (hg : Gl X x) (hn : (e :: es).length + dus.length = n) (ha : PA X (e :: es) (TAs Γ O ms)) (hl : aLen (e :: es) ms) (hdb : (x == ("__debug__" : Str)) = false := by decide)
    (he : starEach (e :: es) X.env = (false, eval e X.env) :: starEach es X.env := by rfl) (hpl : (backTo pos (starEach es X.env)).any (·.1) = false := by rfl) :
    PE X (.Call (.Name x p) (e :: es) [] pos) (T Γ O (eCall B f ms dus) true) := PE.mono (pe_call F hr hg hm hk hb hdv pass0 ha hdb he hpl) fun σ H Q h => T_call (m := 0) hd hn hl h

/-! ### objects -/
/-- a def's meaning asked for an object's method -/
def eMeth (B : Calls) (c f : Nat) (o : Mean) (ms : Means) : Mean := fun ρ S => match o ρ S with
  | some (.obj n, S1) => match S1[n]? with
    | some (.inst c' _) => if c' = c then (match ms ρ S1 with
      | some (us, S2) => B f (.obj n :: us) S2
      | none => none) else none
    | _ => none
  | _ => none
theorem eMeth_some {B : Calls} {c f : Nat} {o : Mean} {ρ : Env} {S : Store} {r : Val × Store} (h : eMeth B c f o ms ρ S = some r) : ∃ n S1 fs us S2, o ρ S = some (.obj n, S1) ∧ S1[n]? = some (.inst c fs) ∧ ms ρ S1 = some (us, S2) ∧ B f (.obj n :: us) S2 = some r := by
  unfold eMeth at h
  split at h
  · rename_i n S1 e1
    split at h
    · rename_i c' fs e2
      split at h
      · rename_i e3
        subst e3
        split at h
        · rename_i us S2 e4
          exact ⟨n, S1, fs, us, S2, e1, e2, e4, h⟩
        · cases h
      · cases h
    · cases h
  · cases h
theorem zip_none {m : Str} : ∀ {ns : List Str} {vs : List V}, m ∉ ns → (ns.zip vs).lookup m = none
  | [], vs, _ => by simp
  | n :: ns, [], _ => by simp
  | n :: ns, v :: vs, h => by
    rw [List.zip_cons_cons, List.lookup_cons]
    have hne : (m == n) = false := by
      rw [beq_eq_false_iff_ne]
      exact fun e => h (by rw [e]; exact List.mem_cons_self)
    rw [hne]
    exact zip_none fun z => h (List.mem_cons_of_mem _ z)
theorem zip_at {m : Str} : ∀ {ns : List Str} {vs : List V} {i : Nat} {v : V}, ns.Nodup → ns[i]? = some m → vs[i]? = some v → (ns.zip vs).lookup m = some v
  | [], vs, i, v, _, h, _ => by simp at h
  | n :: ns, [], i, v, _, _, h => by simp at h
  | n :: ns, w :: vs, 0, v, _, h1, h2 => by
    simp at h1 h2
    subst h1 h2
    simp
  | n :: ns, w :: vs, i + 1, v, nd, h1, h2 => by
    have h1 : ns[i]? = some m := by simpa using h1
    have h2 : vs[i]? = some v := by simpa using h2
    rw [List.zip_cons_cons, List.lookup_cons]
    have hne : (m == n) = false := by
      rw [beq_eq_false_iff_ne]
      intro e
      subst e
      exact (List.nodup_cons.mp nd).1 (List.mem_of_getElem? h1)
    rw [hne]
    exact zip_at (List.nodup_cons.mp nd).2 h1 h2
/-- an instance of the store -/
theorem WOk.inst {ω : Wd} (ok : WOk Γ ω) {n c : Nat} {fs : List Val} {v : V} (h : ω.S[n]? = some (.inst c fs)) (r : ∃ a, ω.φ[n]? = some a ∧ v = .ref a) :
    ∃ a dx vs, v = .ref a ∧ a ∈ ω.φ ∧ ω.φ[n]? = some a ∧ ω.H a = some (.ins (Γ.cls c) dx ((Γ.flds c).zip vs)) ∧ RVs Γ ω.F ω.φ vs fs ∧ fs.length ≤ (Γ.flds c).length := by
  obtain ⟨a, e, rfl⟩ := r
  obtain ⟨b, e', dx, vs, q, d, l⟩ := ok.ob n _ h
  rw [e] at e'; cases e'
  exact ⟨a, dx, vs, rfl, List.mem_of_getElem? e, e, q, d, l⟩
theorem T_meth {B : Calls} {c f n : Nat} {o : Mean} {m : Str} (hn : es.length + 1 = n) (hl : aLen es ms) (hm : m ∉ Γ.flds c) {σ : St} {H : Hp} {Q : VK} (h : T Γ O (eMeth B c f o ms) true σ H Q) :
    tMeth (Γ.cls c) m (spF Γ B f n) [] E0 (T Γ O o true) (TAs Γ O ms) σ H Q := by
  obtain ⟨ω, ρ, w, S', e1, ok, E, e2, k⟩ := h
  obtain ⟨i, S1, fs, us, S2, eo, ei, ea, eb⟩ := eMeth_some e2
  refine ⟨ω, ρ, _, S1, e1, ok, E, eo, fun ω1 v1 l1 ok1 es1 r1 => ?_⟩
  obtain ⟨a, dx, vs, rfl, ha, hφ, hH, d, hlen⟩ := ok1.inst (by rw [es1]; exact ei) r1
  refine ⟨a, dx, _, rfl, hH, zip_none hm, ?_⟩
  refine ⟨ω1, ρ, us, S2, rfl, ok1, E.le l1, by rw [es1]; exact ea, fun ω2 ws l2 ok2 es2 r2 => ?_⟩
  show spF Γ B f n (V.ref a :: (ws ++ [])) ω2.H Q E0
  rw [List.append_nil]
  refine ⟨ω2, .obj i :: us, w, S', rfl, ok2, .cons ⟨a, prefix_get l2.φ hφ, rfl⟩ r2, by rw [List.length_cons, hl _ _ _ _ ea]; exact hn, by rw [es2]; exact eb, fun ω3 v l3 ok3 es3 r3 => ?_⟩
  exact k ω3 v ((l1.trans l2).trans l3) ok3 es3 (RT.of r3)
theorem me_meth {B : Calls} {c f n k : Nat} {fa : Addr} {fd : FuncData} {ps : List Str} {m : Str} {apos : Pos} {o e : Expr} {mo : Mean} {pl : Sem Bool}
    (F : FnOk X.prog X.w X.K X.mg X.base CX0 k fa fd ps (spF Γ B f n)) (hr : Room k X.A) (hc : Cls X.K (Γ.cls c)) (hm : Meth X.K (Γ.cls c) m fa) (hb : Binds X.K fd ps []) (hmn : m ∉ Γ.flds c) (hn : (e :: es).length + 1 = n)
    (ho : PE X o (T Γ O mo true)) (ha : PA X (e :: es) (TAs Γ O ms)) (hl : aLen (e :: es) ms)
    (hst : starEach (e :: es) X.env = (false, eval e X.env) :: starEach es X.env := by rfl) (hpl : (backTo pos (starEach es X.env)).any (·.1) = false := by rfl)
    (ht : eval (.Call (.Attribute o m apos) (e :: es) [] pos) X.env = (do
      let ov ← eval o X.env
      standAt apos.atName
      let (f, first) ← holding [ov] (getMethod ov m pl)
      callWith pos f first (backTo pos (starEach (e :: es) X.env)) (backToKw pos (keywordEach [] X.env))) := by rfl) :
    PE X (.Call (.Attribute o m apos) (e :: es) [] pos) (T Γ O (eMeth B c f mo ms) true) :=
  PE.mono (pe_meth (pl := pl) ho hc hm F hr hb .nil pass0 ha hst hpl ht) fun σ H Q h => T_meth hn hl hmn h
/-- a field -/
def eFld (c i : Nat) (o : Mean) : Mean := fun ρ S => match o ρ S with
  | some (.obj n, S1) => match S1[n]? with
    | some (.inst c' fs) => if c' = c then (fs[i]?).map fun u => (u, S1) else none
    | _ => none
  | _ => none
theorem me_fld {c i : Nat} {f : Str} {o : Expr} {mo : Mean} (hK : Γ.K = X.K) (hc : Cls X.K (Γ.cls c)) (hf : NoAttr X.K (Γ.cls c) f) (hnd : (Γ.flds c).Nodup) (hi : (Γ.flds c)[i]? = some f) (ho : PE X o (T Γ O mo true)) (hb : attributeBase o f X.env (eval o X.env) = eval o X.env := by rfl) :
    PE X (.Attribute o f pos) (T Γ O (eFld c i mo) true) := PE.mono (pe_fld ho hb) fun σ H Q ⟨ω, ρ, w, S', e1, ok, E, e2, k⟩ => by
  unfold eFld at e2
  split at e2
  · rename_i n S1 eo
    split at e2
    · rename_i c' fs ec0
      split at e2
      · rename_i ec
        subst ec
        cases ei : fs[i]? with
        | none => rw [ei] at e2; cases e2
        | some u =>
          rw [ei] at e2
          cases e2
          refine ⟨ω, ρ, _, _, e1, ok, E, eo, fun ω1 v1 l1 ok1 es1 r1 => ?_⟩
          obtain ⟨a, dx, vs, rfl, ha, hφ, hH, d, hlen⟩ := ok1.inst (by rw [es1]; exact ec0) r1
          obtain ⟨v, ev, rv⟩ := d.get ei
          exact ⟨a, _, dx, _, v, rfl, hH, hc, hf, zip_at hnd hi ev, k ω1 v l1 ok1 es1 (RT.of rv)⟩
      · cases e2
    · cases e2
  · cases e2
/-- a new instance; then its __init__ -/
def eMake (B : Calls) (c f : Nat) (ms : Means) : Mean := fun ρ S => match ms ρ S with
  | some (us, S1) => match B f (.obj S1.length :: us) (S1 ++ [.inst c []]) with
    | some (.d .none, S2) => some (.obj S1.length, S2)
    | _ => none
  | none => none
theorem zip_nil (ns : List Str) : ns.zip ([] : List V) = [] := by simp
theorem T_make {B : Calls} {c f n : Nat} (hn : es.length + 1 = n) (hl : aLen es ms) {σ : St} {H : Hp} {Q : VK} (h : T Γ O (eMake B c f ms) true σ H Q) : tMake (Γ.cls c) (spF Γ B f n) [] E0 (TAs Γ O ms) σ H Q := by
  obtain ⟨ω, ρ, w, S', e1, ok, E, e2, k⟩ := h
  unfold eMake at e2
  split at e2
  · rename_i us S1 ea
    split at e2
    · rename_i S2 eb
      cases e2
      refine ⟨ω, ρ, us, S1, e1, ok, E, ea, fun ω1 vs l1 ok1 es1 r1 => fun x dx hx hdx ne => ?_⟩
      subst es1
      have okA := Wd.lay_ok ok1 (.own x) hdx
      have leA := Wd.lay_le ok1 (.own x) hdx
      have hx' : (ω1.lay dx (.own x)).H x = none := by show upd ω1.H dx _ x = none; rw [upd_ne (Ne.symm ne)]; exact hx
      have okB : WOk Γ ((ω1.lay dx (.own x)).add x (.ins (Γ.cls c) dx []) (.inst c [])) := Wd.add_ok okA hx' ⟨dx, [], by rw [zip_nil]; exact upd_same, .nil, Nat.zero_le _⟩
      have leB := Wd.add_le okA (.ins (Γ.cls c) dx []) (.inst c []) hx'
      rw [List.append_nil]
      refine ⟨_, .obj ω1.S.length :: us, .d .none, S', rfl, okB, .cons ⟨x, add_get okA, rfl⟩ (RVs.le (leA.trans leB) r1), by rw [List.length_cons, hl _ _ _ _ ea]; exact hn, eb, fun ω2 v l2 ok2 es2 r2 => ?_⟩
      refine ⟨DR.of_non r2, ?_⟩
      exact k ω2 (.ref x) (((l1.trans leA).trans leB).trans l2) ok2 es2 ⟨x, prefix_get l2.φ (add_get okA), rfl⟩
    · cases e2
  · cases e2
theorem me_make {B : Calls} {c f n k : Nat} {fa : Addr} {fd : FuncData} {ps : List Str} {x : Str} {p : Pos} {e : Expr}
    (F : FnOk X.prog X.w X.K X.mg X.base CX0 k fa fd ps (spF Γ B f n)) (hr : Room (k + 1) X.A) (M : Mk X.K (Γ.cls c) fa) (hm : X.mg x = some (.ref (Γ.cls c))) (hb : Binds X.K fd ps []) (hg : Gl X x) (hn : (e :: es).length + 1 = n)
    (ha : PA X (e :: es) (TAs Γ O ms)) (hl : aLen (e :: es) ms) (hdb : (x == ("__debug__" : Str)) = false := by decide)
    (he : starEach (e :: es) X.env = (false, eval e X.env) :: starEach es X.env := by rfl) (hpl : (backTo pos (starEach es X.env)).any (·.1) = false := by rfl) :
    PE X (.Call (.Name x p) (e :: es) [] pos) (T Γ O (eMake B c f ms) true) := PE.mono (pe_make M F hr hg hm hb .nil pass0 ha hdb he hpl) fun σ H Q h => T_make hn hl h
theorem me_make0 {B : Calls} {c f k : Nat} {fa : Addr} {fd : FuncData} {ps : List Str} {x : Str} {p : Pos}
    (F : FnOk X.prog X.w X.K X.mg X.base CX0 k fa fd ps (spF Γ B f 1)) (hr : Room (k + 1) X.A) (M : Mk X.K (Γ.cls c) fa) (hm : X.mg x = some (.ref (Γ.cls c))) (hb : Binds X.K fd ps []) (hg : Gl X x) (hdb : (x == ("__debug__" : Str)) = false := by decide) :
    PE X (.Call (.Name x p) [] [] pos) (T Γ O (eMake B c f aNil) true) := PE.mono (pe_make0 M F hr hg hm hb .nil pass0 hdb) fun σ H Q h => by
  obtain ⟨ω, ρ, w, S', e1, ok, E, e2, k⟩ := T_make (Γ := Γ) (O := O) (es := []) (n := 1) rfl al_nil h
  cases e2
  subst e1
  exact k ω [] (Le.refl ω) ok rfl .nil
end
end MP
set_option Elab.async false
set_option linter.all false
set_option maxRecDepth 20000
/-! Part 6: what is walked, targets, comprehensions. -/
namespace MP
open PySem L2
open PySem.PyData (strOk)

/-! ### what is walked -/
abbrev MSrc := Env → Store → Option (List D × Store)
/-- J yields the data ds, in every world in which F still stands -/
def Walks (Γ : Gam) (J : It) (F : Hp) (ds : List D) : Prop := ∀ ω, Sub F ω.F → WOk Γ ω → ∀ i, (∀ d, ds[i]? = some d → J.go i ω.H ∧ ∀ x H', J.yld i ω.H x H' → H' = ω.H ∧ DR Γ.K ω.F x d) ∧ (ds.length ≤ i → J.stop i ω.H)
theorem Walks.sub {Γ : Gam} {J : It} {F F' : Hp} {ds : List D} (h : Walks Γ J F ds) (s : Sub F F') : Walks Γ J F' ds := fun ω s' => h ω (s.trans s')
def TI_ (Γ : Gam) (O : List Nat) (m : MSrc) : TI := fun σ H R => ∃ ω ρ ds S', ω.H = H ∧ WOk Γ ω ∧ EnvR (Γ := Γ) O ω ρ σ ∧ m ρ ω.S = some (ds, S') ∧
  ∀ ω' J, Le ω ω' → WOk Γ ω' → ω'.S = S' → Walks Γ J ω'.F ds → ds.length ≤ sizeLine → R J ω'.H
/-- .. in every world behind this one -/
def WalksL (Γ : Gam) (J : It) (ω₁ : Wd) (ds : List D) : Prop := ∀ ω, Le ω₁ ω → WOk Γ ω → ∀ i, (∀ d, ds[i]? = some d → J.go i ω.H ∧ ∀ x H', J.yld i ω.H x H' → H' = ω.H ∧ DR Γ.K ω.F x d) ∧ (ds.length ≤ i → J.stop i ω.H)
def TIc (Γ : Gam) (O : List Nat) (m : MSrc) : TI := fun σ H R => ∃ ω ρ ds S', ω.H = H ∧ WOk Γ ω ∧ EnvR (Γ := Γ) O ω ρ σ ∧ m ρ ω.S = some (ds, S') ∧
  ∀ ω' J, Le ω ω' → WOk Γ ω' → ω'.S = S' → WalksL Γ J ω' ds → ds.length ≤ sizeLine → R J ω'.H
theorem PI.mono {X : Cx} {tg e : Expr} {t t' : TI} (h : PI X tg e t) (m : ∀ σ H Q, t' σ H Q → t σ H Q) : PI X tg e t' := ⟨fun pins s σ H Q I q => h.run pins s σ H Q I (m σ H Q q)⟩
section
variable {Γ : Gam} {X : Cx} {O : List Nat} {tg e a b : Expr} {ma mb : Mean} {c1 c2 : Bool} {pos p : Pos}
/-- a list or a tuple is walked -/
def iSq (K : PySem.W.Frag) (t : TE) : TI := fun σ H R => t σ H fun x H1 => ∃ q xs, x = .ref q ∧ ((SqL K H1 q xs ∧ (xs.length ≤ sizeLine → R (Itl K q) H1)) ∨ (SqT K H1 q xs ∧ (xs.length ≤ sizeLine → R (Itt K q) H1)))
theorem pi_sq {t : TE} (h : PE X e t) : PI X tg e (iSq X.K t) := by
  constructor
  intro pins s σ H R I q
  refine thn (h.run pins s σ H _ I q) ?_
  rintro v s1 ⟨x, H1, I1, rx, k⟩
  obtain ⟨w, xs, ex, k⟩ := k
  subst ex
  cases rx
  have fpo : ∀ c ∈ [s1.heap.objs.size], FpOk X pins H1 c := fun c hc => by
    rw [List.mem_singleton] at hc
    subst hc
    exact I1.fpOk (Nat.le_refl _) (I1.hok.fresh (Nat.le_refl _))
  rcases k with ⟨hs, k⟩ | ⟨hs, k⟩
  · obtain ⟨its, rv, pl, hz⟩ := I1.list hs
    apply wpAny_pyIter_list pl.isList
    exact ⟨_, [s1.heap.objs.size], _, Itl X.K w, H1, rfl, I1.kept (t' := s1.toks) (fun c o ec => Heap.get?_push_of_some _ ec), turn_list w _, ⟨_, Heap.get?_push_size _ rfl, rfl, rfl⟩, fpo, k hz⟩
  · obtain ⟨its, rv, pl, hz⟩ := I1.tuple hs
    apply wpAny_pyIter_tuple (show s1.heap.IsTuple w its.toArray from pl)
    exact ⟨_, [s1.heap.objs.size], _, Itt X.K w, H1, rfl, I1.kept (t' := s1.toks) (fun c o ec => Heap.get?_push_of_some _ ec), turn_tuple w _, ⟨_, Heap.get?_push_size _ rfl, rfl, rfl⟩, fpo, k hz⟩
def sSq (m : Mean) : MSrc := fun ρ S => match m ρ S with
  | some (.d (.list ds), S1) => some (ds, S1)
  | some (.d (.tuple ds), S1) => some (ds, S1)
  | _ => none
theorem walks_l {K : PySem.W.Frag} (hK : Γ.K = K) {F : Hp} {q : Addr} {xs : List V} {ds : List D} (h : F q = some (.lst xs)) (d : DRs Γ.K F xs ds) : Walks Γ (Itl K q) F ds := fun ω s ok i => by
  have hH : SqL K ω.H q xs := .of (ok.sub _ _ (s _ _ h))
  refine ⟨fun z ez => ?_, fun hl => ⟨xs, hH, by rw [d.length]; exact hl⟩⟩
  obtain ⟨v, ev, rv⟩ := d.get ez
  refine ⟨⟨xs, v, hH, ev⟩, fun x H' hy => ⟨hy.1, ?_⟩⟩
  have e := hy.2 xs hH
  rw [ev] at e; cases e
  exact rv.sub s
theorem walks_t {K : PySem.W.Frag} (hK : Γ.K = K) {F : Hp} {q : Addr} {xs : List V} {ds : List D} (h : SqT Γ.K F q xs) (d : DRs Γ.K F xs ds) : Walks Γ (Itt K q) F ds := fun ω s ok i => by
  have hH : SqT K ω.H q xs := by rw [← hK]; exact ok.sub.sqT (s.sqT h)
  refine ⟨fun z ez => ?_, fun hl => ⟨xs, hH, by rw [d.length]; exact hl⟩⟩
  obtain ⟨v, ev, rv⟩ := d.get ez
  refine ⟨⟨xs, v, hH, ev⟩, fun x H' hy => ⟨hy.1, ?_⟩⟩
  have e := hy.2 xs hH
  rw [ev] at e; cases e
  exact rv.sub s
theorem mi_sq (c : Ctx Γ X) (h : PE X e (T Γ O ma true)) : PI X tg e (TI_ Γ O (sSq ma)) := PI.mono (pi_sq h) fun σ H R ⟨ω, ρ, ds, S', e1, ok, E, e2, k⟩ => by
  have key : ∃ u, ma ρ ω.S = some (u, S') ∧ (u = .d (.list ds) ∨ u = .d (.tuple ds)) := by
    unfold sSq at e2
    split at e2
    · rename_i e; cases e2; exact ⟨_, e, .inl rfl⟩
    · rename_i e; cases e2; exact ⟨_, e, .inr rfl⟩
    · cases e2
  obtain ⟨u, eu, hu⟩ := key
  refine ⟨ω, ρ, u, S', e1, ok, E, eu, fun ω1 v l1 ok1 es1 r1 => ?_⟩
  rcases hu with rfl | rfl
  · obtain ⟨q, xs, rfl, hq, d⟩ := DR.of_lst r1
    exact ⟨q, xs, rfl, .inl ⟨.of (ok1.sub _ _ hq), fun hz => k ω1 _ l1 ok1 es1 (walks_l c.hK hq d) (by rw [← d.length]; exact hz)⟩⟩
  · obtain ⟨q, xs, rfl, hq, d⟩ := DR.of_tup r1
    exact ⟨q, xs, rfl, .inr ⟨by rw [← c.hK]; exact ok1.sub.sqT hq, fun hz => k ω1 _ l1 ok1 es1 (walks_t c.hK hq d) (by rw [← d.length]; exact hz)⟩⟩
theorem toc {m : MSrc} (h : PI X tg e (TI_ Γ O m)) : PI X tg e (TIc Γ O m) := PI.mono h fun σ H R ⟨ω, ρ, ds, S', e1, ok, E, e2, k⟩ => ⟨ω, ρ, ds, S', e1, ok, E, e2, fun ω' J l ok' es wk hz => k ω' J l ok' es (fun ω2 l2 ok2 i => wk ω2 l2.F ok2 i) hz⟩
/-- an own list, in a comprehension -/
theorem mi_own (c : Ctx Γ X) (h : PE X e (T Γ O ma c1)) : PI X tg e (TIc Γ O (sSq ma)) := PI.mono (pi_sq (PM.weak h)) fun σ H R ⟨ω, ρ, ds, S', e1, ok, E, e2, k⟩ => by
  have key : ∃ u, ma ρ ω.S = some (u, S') ∧ (u = .d (.list ds) ∨ u = .d (.tuple ds)) := by
    unfold sSq at e2
    split at e2
    · rename_i e; cases e2; exact ⟨_, e, .inl rfl⟩
    · rename_i e; cases e2; exact ⟨_, e, .inr rfl⟩
    · cases e2
  obtain ⟨u, eu, hu⟩ := key
  refine ⟨ω, ρ, u, S', e1, ok, E, eu, fun ω1 v l1 ok1 es1 r1 => ?_⟩
  rcases hu with rfl | rfl
  · rcases (show DT (Γ := Γ) ω1 v (.list ds) from r1) with r1 | ⟨q, xs, ds', rfl, eds, hq, d, hF, hφ⟩
    · obtain ⟨q, xs, rfl, hq, d⟩ := DR.of_lst r1
      exact ⟨q, xs, rfl, .inl ⟨.of (ok1.sub _ _ hq), fun hz => k ω1 _ l1 ok1 es1 (fun ω2 l2 ok2 i => walks_l c.hK hq d ω2 l2.F ok2 i) (by rw [← d.length]; exact hz)⟩⟩
    · cases eds
      refine ⟨q, xs, rfl, .inl ⟨.of hq, fun hz => k ω1 _ l1 ok1 es1 (fun ω2 l2 ok2 i => ?_) (by rw [← d.length]; exact hz)⟩⟩
      have hH : SqL X.K ω2.H q xs := .of (l2.H q _ hq hφ)
      refine ⟨fun z ez => ?_, fun hl => ⟨xs, hH, by rw [d.length]; exact hl⟩⟩
      obtain ⟨v, ev, rv⟩ := d.get ez
      refine ⟨⟨xs, v, hH, ev⟩, fun x H' hy => ⟨hy.1, ?_⟩⟩
      have e := hy.2 xs hH
      rw [ev] at e; cases e
      exact rv.sub l2.F
  · obtain ⟨q, xs, rfl, hH, hq, d⟩ := DT.tup ok1 r1
    exact ⟨q, xs, rfl, .inr ⟨by rw [← c.hK]; exact ok1.sub.sqT hq, fun hz => k ω1 _ l1 ok1 es1 (fun ω2 l2 ok2 i => walks_t c.hK hq d ω2 l2.F ok2 i) (by rw [← d.length]; exact hz)⟩⟩
/-- a, a + 1, .. (n of them) -/
def upFrom (lo : Int) (n : Nat) : List D := (List.range n).map fun (i : Nat) => PyData.int (lo + (i : Int))
theorem upFrom_get {lo : Int} {n i : Nat} {d : D} (h : (upFrom lo n)[i]? = some d) : i < n ∧ d = .int (lo + (i : Int)) := by
  unfold upFrom at h
  rw [List.getElem?_map] at h
  by_cases hi : i < n
  · rw [List.getElem?_range hi] at h
    exact ⟨hi, (Option.some.inj h).symm⟩
  · rw [List.getElem?_eq_none (by simpa using Nat.le_of_not_lt hi)] at h
    cases h
theorem upFrom_len (lo : Int) (n : Nat) : (upFrom lo n).length = n := by simp [upFrom]
theorem walks_r {F : Hp} (lo : Int) (n : Nat) : Walks Γ (Itr lo n) F (upFrom lo n) := fun ω s ok i => by
  refine ⟨fun d ed => ?_, fun hl => by rw [upFrom_len] at hl; exact hl⟩
  obtain ⟨hi, rfl⟩ := upFrom_get ed
  exact ⟨hi, fun x H' hy => ⟨hy.1, by rw [hy.2]; exact .int _⟩⟩
def sRg1 (m : Mean) : MSrc := fun ρ S => match m ρ S with
  | some (.d (.int j), S1) => if -1000000 ≤ j ∧ j ≤ 1000000 then some (upFrom 0 j.toNat, S1) else none
  | _ => none
def sRg2 (m n : Mean) : MSrc := fun ρ S => match m ρ S with
  | some (.d (.int i), S1) => match n ρ S1 with
    | some (.d (.int j), S2) => if -1000000 ≤ i ∧ i ≤ 1000000 ∧ -1000000 ≤ j ∧ j ≤ 1000000 then some (upFrom i (j - i).toNat, S2) else none
    | _ => none
  | _ => none
theorem mi_rg1 (c : Ctx Γ X) (hg : Gl X "range") (h : PE X a (T Γ O ma true)) (na : starEach [a] X.env = (false, eval a X.env) :: starEach [] X.env := by rfl) (hs : starEach [a] X.env = [(false, eval a X.env)] := by rfl) : PI X tg (.Call (.Name "range" p) [a] [] pos) (TI_ Γ O (sRg1 ma)) :=
  PI.mono (pi_range1 hg c.b_range (pa_cons h pa_nil na) hs) fun σ H R ⟨ω, ρ, ds, S', e1, ok, E, e2, k⟩ => by
  unfold sRg1 at e2
  split at e2
  · rename_i j S1 e
    split at e2
    · rename_i hj
      cases e2
      refine ⟨ω, ρ, _, _, e1, ok, E, e, fun ω1 v l1 ok1 es1 r1 => ⟨j, by rw [DR.of_int r1], by omega, by omega, ?_⟩⟩
      exact k ω1 _ l1 ok1 es1 (walks_r 0 j.toNat) (by rw [upFrom_len]; exact lineM (by omega))
    · cases e2
  · cases e2
theorem mi_rg2 (c : Ctx Γ X) (hg : Gl X "range") (h : PE X a (T Γ O ma true)) (h2 : PE X b (T Γ O mb true)) (na2 : starEach [b] X.env = (false, eval b X.env) :: starEach [] X.env := by rfl) (na : starEach [a, b] X.env = (false, eval a X.env) :: starEach [b] X.env := by rfl)
    (hs : starEach [a, b] X.env = [(false, eval a X.env), (false, eval b X.env)] := by rfl) (hs2 : starEach [b] X.env = [(false, eval b X.env)] := by rfl) : PI X tg (.Call (.Name "range" p) [a, b] [] pos) (TI_ Γ O (sRg2 ma mb)) :=
  PI.mono (pi_range2 hg c.b_range (pa_cons h (pa_cons h2 pa_nil na2) na) hs hs2) fun σ H R ⟨ω, ρ, ds, S', e1, ok, E, e2, k⟩ => by
  unfold sRg2 at e2
  split at e2
  · rename_i i S1 ea
    split at e2
    · rename_i j S2 eb
      split at e2
      · rename_i hj
        cases e2
        refine ⟨ω, ρ, _, S1, e1, ok, E, ea, fun ω1 v l1 ok1 es1 r1 => ?_⟩
        refine ⟨ω1, ρ, _, _, rfl, ok1, E.le l1, by rw [es1]; exact eb, fun ω2 v2 l2 ok2 es2 r2 => ⟨i, j, by rw [DR.of_int r1, DR.of_int r2], by omega, ?_⟩⟩
        exact k ω2 _ (l1.trans l2) ok2 es2 (walks_r i (j - i).toNat) (by rw [upFrom_len]; exact Nat.le_trans (show (j - i).toNat ≤ 2000000 by omega) (by rw [sizeLine_eq]; decide))
      · cases e2
    · cases e2
  · cases e2

/-! ### targets: a name, or names in a tuple -/
inductive Tg where
  | n (i : Nat)
  | t (is : List Nat)
def setAll {α : Type} (l : List (Option α)) : List Nat → List α → List (Option α)
  | i :: is, x :: xs => setAll (l.set i (some x)) is xs
  | _, _ => l
def Tg.slots : Tg → List Nat
  | .n i => [i]
  | .t is => is
def Tg.set : Tg → D → Env → Option Env
  | .n i, d, ρ => some (ρ.set i (some (.d d)))
  | .t is, .tuple ds, ρ => if ds.length = is.length then some (setAll ρ is (ds.map Val.d)) else none
  | .t _, _, _ => none
def gNs : List Nat → TGs
  | [] => gNil
  | i :: is => gCons (gName i) (gNs is)
def Tg.g (K : PySem.W.Frag) : Tg → TG
  | .n i => gName i
  | .t is => gTup K is.length (gNs is)
theorem gNs_ok : ∀ {is : List Nat} {vs : List V} {σ : St} {H : Hp} {Q : St → Hp → Prop}, vs.length = is.length → Q (setAll σ is vs) H → gNs is vs σ H Q
  | [], [], _, _, _, _, q => ⟨rfl, q⟩
  | i :: is, v :: vs, σ, H, Q, h, q => ⟨v, vs, rfl, gNs_ok (by simpa using h) q⟩
  | [], _ :: _, _, _, _, h, _ => by simp at h
  | _ :: _, [], _, _, _, h, _ => by simp at h
theorem EnvR.set {ω : Wd} {ρ : Env} {σ : St} (E : EnvR (Γ := Γ) O ω ρ σ) {i : Nat} {v : V} {u : Val} (hi : i ∉ O) (r : RV Γ ω.F ω.φ v u) : EnvR (Γ := Γ) O ω (ρ.set i (some u)) (σ.set i (some v)) where
  len := by simp [E.len]
  var := fun j w e n => by
    by_cases hj : i = j
    · subst hj
      have hl : i < ρ.length := by
        have := (List.getElem?_eq_some_iff.mp e).1
        simpa using this
      rw [List.getElem?_set_self hl] at e
      cases e
      exact ⟨v, by rw [List.getElem?_set_self (by rw [← E.len]; exact hl)], r⟩
    · rw [List.getElem?_set_ne hj] at e ⊢
      exact E.var j w e n
  own := fun j w e n => by
    have hj : i ≠ j := fun z => by subst z; exact hi n
    rw [List.getElem?_set_ne hj] at e ⊢
    exact E.own j w e n
  apart := fun j k u w p hj hk hne e1 e2 e3 => by
    have h1 : i ≠ j := fun z => by subst z; exact hi hj
    have h2 : i ≠ k := fun z => by subst z; exact hi hk
    rw [List.getElem?_set_ne h1] at e1 e3
    rw [List.getElem?_set_ne h2] at e2 ⊢
    exact E.apart j k u w p hj hk hne e1 e2 e3
theorem EnvR.setAll {ω : Wd} : ∀ {is : List Nat} {vs : List V} {ds : List D} {ρ : Env} {σ : St}, EnvR (Γ := Γ) O ω ρ σ → (∀ i ∈ is, i ∉ O) → DRs Γ.K ω.F vs ds → EnvR (Γ := Γ) O ω (MP.setAll ρ is (ds.map Val.d)) (MP.setAll σ is vs)
  | [], _, _, _, _, E, _, _ => E
  | i :: is, vs, [], _, _, E, _, r => by rw [r.of_nil]; exact E
  | i :: is, vs, d :: ds, ρ, σ, E, h, r => by
    obtain ⟨v, ws, rfl, r1, r2⟩ := r.of_cons
    exact EnvR.setAll (is := is) (ρ := ρ.set i (some (.d d))) (σ := σ.set i (some v)) (E.set (u := .d d) (h i List.mem_cons_self) r1) (fun j hj => h j (List.mem_cons_of_mem _ hj)) r2
/-- a datum goes to a target -/
theorem Tg.go {K : PySem.W.Frag} (hK : Γ.K = K) {t : Tg} {ω : Wd} (ok : WOk Γ ω) {ρ ρ' : Env} {σ : St} {v : V} {d : D} {Q : St → Hp → Prop} (E : EnvR (Γ := Γ) O ω ρ σ) (hO : ∀ i ∈ t.slots, i ∉ O) (r : DR Γ.K ω.F v d) (h : t.set d ρ = some ρ')
    (q : ∀ vs, EnvR (Γ := Γ) O ω ρ' (MP.setAll σ t.slots vs) → Q (MP.setAll σ t.slots vs) ω.H) : t.g K v σ ω.H Q := by
  cases t with
  | n i =>
    cases h
    exact q [v] (E.set (u := .d d) (hO i (by simp [Tg.slots])) r)
  | t is =>
    cases d with
    | tuple ds =>
      simp only [Tg.set] at h
      split at h
      · rename_i hl
        cases h
        obtain ⟨a, xs, rfl, hq, dr⟩ := r.of_tup
        have hlen : xs.length = is.length := by rw [dr.length]; exact hl
        refine ⟨a, xs, rfl, by rw [← hK]; exact ok.sub.sqT hq, hlen, gNs_ok hlen ?_⟩
        exact q xs (E.setAll hO dr)
      · cases h
    | _ => cases h
/-- .. is written so -/
inductive TgOk (X : Cx) : Expr → Tg → Prop
  | n {i : Nat} {x : Str} {pos : Pos} (hi : X.N[i]? = some x) (hx : Loc X.env.scope x) (hf : X.fn x = true ∨ X.env.scope.names.lookup x = some .local) : TgOk X (.Name x pos) (.n i)
  | t {es : List Expr} {k : Nat} {is : List Nat} {pos : Pos} (h : PGs X es (gNs is)) (hn : (assignEach es X.env).length = is.length) (hst : (assignEach es X.env).findIdx? (·.1) = none) : TgOk X (.Tuple es k pos) (.t is)
theorem TgOk.pg (c : Ctx Γ X) {t : Tg} (h : TgOk X tg t) : PG X tg (t.g X.K) := by
  cases h with
  | n hi hx hf => exact pg_name c.nd hi hx hf
  | t h hn hst => exact pg_tup c.calm h hn hst
theorem gs_nil : PGs X [] (gNs []) := pgs_nil
theorem gs_cons {i : Nat} {x : Str} {es : List Expr} {is : List Nat} {pos : Pos} (c : Ctx Γ X) (hr : PGs X es (gNs is)) (hi : X.N[i]? = some x := by rfl) (hx : Loc X.env.scope x := by first | exact Or.inl rfl | exact Or.inr rfl)
    (hf : X.fn x = true ∨ X.env.scope.names.lookup x = some .local := by first | exact Or.inl rfl | exact Or.inr rfl) (hs : (assignEach (.Name x pos :: es) X.env).map (·.2) = assign (.Name x pos) X.env :: (assignEach es X.env).map (·.2) := by rfl) : PGs X (.Name x pos :: es) (gNs (i :: is)) :=
  pgs_cons (pg_name c.nd hi hx hf) hr hs

/-! ### comprehensions -/
def wipeE (ρ : Env) : List Nat → Env
  | [] => ρ
  | v :: vs => (wipeE ρ vs).set v none
theorem wipeE_length (ρ : Env) : ∀ vs, (wipeE ρ vs).length = ρ.length
  | [] => rfl
  | v :: vs => by simp [wipeE, wipeE_length ρ vs]
theorem wipeE_some {ρ : Env} {i : Nat} {x : Val} : ∀ {vs : List Nat}, (wipeE ρ vs)[i]? = some (some x) → ρ[i]? = some (some x) ∧ i ∉ vs
  | [], h => ⟨h, by simp⟩
  | v :: vs, h => by
    unfold wipeE at h
    by_cases hi : v = i
    · subst hi
      by_cases hv : v < (wipeE ρ vs).length
      · rw [List.getElem?_set_self hv] at h; cases h
      · rw [List.getElem?_eq_none (by simpa using hv)] at h; cases h
    · rw [List.getElem?_set_ne hi] at h
      obtain ⟨h1, h2⟩ := wipeE_some h
      exact ⟨h1, by rw [List.mem_cons, not_or]; exact ⟨fun z => hi z.symm, h2⟩⟩
theorem wipe_keep {σ : St} {i : Nat} : ∀ {vs : List Nat}, i ∉ vs → (wipe σ vs)[i]? = σ[i]?
  | [], _ => rfl
  | v :: vs, h => by
    rw [List.mem_cons, not_or] at h
    show ((wipe σ vs).set v none)[i]? = _
    rw [List.getElem?_set_ne (Ne.symm h.1)]
    exact wipe_keep h.2
theorem EnvR.wipe {ω : Wd} {ρ : Env} {σ : St} (E : EnvR (Γ := Γ) O ω ρ σ) (vs : List Nat) : EnvR (Γ := Γ) O ω (wipeE ρ vs) (L2.wipe σ vs) where
  len := by rw [wipeE_length, wipe_length]; exact E.len
  var := fun i u e n => by
    obtain ⟨e, hv⟩ := wipeE_some e
    rw [wipe_keep hv]
    exact E.var i u e n
  own := fun i u e n => by
    obtain ⟨e, hv⟩ := wipeE_some e
    rw [wipe_keep hv]
    exact E.own i u e n
  apart := fun i j u w p hi hj hne e1 e2 e3 => by
    obtain ⟨e1, h1⟩ := wipeE_some e1
    obtain ⟨e2, h2⟩ := wipeE_some e2
    rw [wipe_keep h1] at e3
    rw [wipe_keep h2]
    exact E.apart i j u w p hi hj hne e1 e2 e3
theorem wipe_at (σ : St) : ∀ (vs : List Nat) (j : Nat), (wipe σ vs)[j]? = if j ∈ vs ∧ j < σ.length then some none else σ[j]?
  | [], j => by simp [wipe]
  | v :: vs, j => by
    show ((wipe σ vs).set v none)[j]? = _
    by_cases hj : v = j
    · subst hj
      by_cases hv : v < σ.length
      · rw [List.getElem?_set_self (by rw [wipe_length]; exact hv), if_pos ⟨List.mem_cons_self, hv⟩]
      · rw [List.getElem?_eq_none (by rw [List.length_set, wipe_length]; omega), if_neg (fun z => hv z.2), List.getElem?_eq_none (by omega)]
    · rw [List.getElem?_set_ne hj, wipe_at σ vs j]
      by_cases hm : j ∈ vs
      · by_cases hl : j < σ.length
        · rw [if_pos ⟨hm, hl⟩, if_pos ⟨List.mem_cons_of_mem _ hm, hl⟩]
        · rw [if_neg (fun z => hl z.2), if_neg (fun z => hl z.2)]
      · rw [if_neg (fun z => hm z.1), if_neg (fun z => by
          rcases List.mem_cons.mp z.1 with q | q
          · exact hj q.symm
          · exact hm q)]
theorem wipe_eq {σ τ : St} {vs : List Nat} (hl : σ.length = τ.length) (h : ∀ j, j ∉ vs → σ[j]? = τ[j]?) : wipe σ vs = wipe τ vs := by
  apply List.ext_getElem?
  intro j
  rw [wipe_at, wipe_at, hl]
  by_cases hj : j ∈ vs ∧ j < τ.length
  · rw [if_pos hj, if_pos hj]
  · rw [if_neg hj, if_neg hj]
    by_cases hm : j ∈ vs
    · have h1 : τ.length ≤ j := Nat.le_of_not_lt fun z => hj ⟨hm, z⟩
      rw [List.getElem?_eq_none (by omega), List.getElem?_eq_none h1]
    · exact h j hm
theorem setAll_length {α : Type} : ∀ (is : List Nat) (l : List (Option α)) (xs : List α), (setAll l is xs).length = l.length
  | [], _, _ => rfl
  | i :: is, l, [] => rfl
  | i :: is, l, x :: xs => by unfold setAll; rw [setAll_length is, List.length_set]
theorem setAll_keep {α : Type} : ∀ {is : List Nat} {l : List (Option α)} {xs : List α} {j : Nat}, j ∉ is → (setAll l is xs)[j]? = l[j]?
  | [], _, _, _, _ => rfl
  | i :: is, l, [], _, _ => rfl
  | i :: is, l, x :: xs, j, h => by
    rw [List.mem_cons, not_or] at h
    unfold setAll
    rw [setAll_keep h.2, List.getElem?_set_ne (Ne.symm h.1)]
theorem wipe_set {σ : St} {vs is : List Nat} {xs : List V} (h : ∀ i ∈ is, i ∈ vs) : wipe (setAll (wipe σ vs) is xs) vs = wipe σ vs :=
  wipe_eq (by rw [setAll_length, wipe_length]) fun j hj => by
    rw [setAll_keep fun z => hj (h j z)]
    exact wipe_keep hj
def compRun (t : Tg) (tst elt : Mean) (ρ : Env) : List D → Store → Option (List D × Store)
  | [], S => some ([], S)
  | d :: ds, S => match t.set d ρ with
    | none => none
    | some ρ1 => match tst ρ1 S with
      | some (.d (.bool true), S1) => match elt ρ1 S1 with
        | some (.d y, S2) => match compRun t tst elt ρ ds S2 with
          | some (ys, S3) => some (y :: ys, S3)
          | none => none
        | _ => none
      | some (.d (.bool false), S1) => compRun t tst elt ρ ds S1
      | _ => none
def eComp (src : MSrc) (t : Tg) (vs : List Nat) (tst elt : Mean) : Mean := fun ρ S => match src ρ S with
  | some (ds, S1) => match compRun t tst elt (wipeE ρ vs) ds S1 with
    | some (ys, S2) => some (.d (.list ys), S2)
    | none => none
  | none => none
theorem eComp_list {src : MSrc} {t : Tg} {vs : List Nat} {tst elt : Mean} : ∀ (ρ : Env) (S : Store) (u : Val) (S' : Store), eComp src t vs tst elt ρ S = some (u, S') → ∃ ds, u = .d (.list ds) := fun ρ S u S' h => by
  unfold eComp at h
  split at h
  · split at h
    · cases h; exact ⟨_, rfl⟩
    · cases h
  · cases h
theorem compRun_cons {t : Tg} {tst elt : Mean} {ρ : Env} {d : D} {ds : List D} {S S' : Store} {zs : List D} (h : compRun t tst elt ρ (d :: ds) S = some (zs, S')) :
    ∃ ρ1 b S1, t.set d ρ = some ρ1 ∧ tst ρ1 S = some (.d (.bool b), S1) ∧ (if b = true then ∃ y S2 ys, elt ρ1 S1 = some (.d y, S2) ∧ compRun t tst elt ρ ds S2 = some (ys, S') ∧ zs = y :: ys else compRun t tst elt ρ ds S1 = some (zs, S')) := by
  unfold compRun at h
  split at h
  · cases h
  · rename_i ρ1 e1
    split at h
    · rename_i S1 e2
      split at h
      · rename_i y S2 e3
        split at h
        · rename_i ys S3 e4
          cases h
          exact ⟨ρ1, true, S1, e1, e2, iteT ⟨y, S2, ys, e3, e4, rfl⟩⟩
        · cases h
      · cases h
    · rename_i S1 e2
      exact ⟨ρ1, false, S1, e1, e2, iteF h⟩
    · cases h
theorem PTs.mono {ifs : List Expr} {t t' : L2.TT} (h : PTs X ifs t) (m : ∀ σ H Q, t' σ H Q → t σ H Q) : PTs X ifs t' := ⟨fun pins s σ H Q I q => h.run pins s σ H Q I (m σ H Q q)⟩
theorem mts_nil : PTs X [] (TB Γ O (eC (.bool true))) := PTs.mono pts_nil fun σ H Q ⟨ω, ρ, b, S', e1, ok, E, e2, k⟩ => by
  cases e2
  subst e1
  exact k ω (Le.refl ω) ok rfl
theorem mts_one (h : PT X e (TB Γ O ma)) : PTs X [e] (TB Γ O ma) := pts_one h
/-- the list so far, in the world of a turn -/
theorem le_upd {ω₀ ω : Wd} (l : Le ω₀ ω) {p : Addr} {o : HO} (h : ω₀.H p = none) : Le ω₀ { ω with H := upd ω.H p o } where
  F := l.F
  φ := l.φ
  H := fun q u e n => by
    show upd ω.H p o q = some u
    rw [upd_ne (ne_of_none e h)]
    exact l.H q u e n
  Hs := fun q e => by
    show upd ω.H p o q ≠ none
    by_cases hq : q = p
    · rw [hq, upd_same]; simp
    · rw [upd_ne hq]; exact l.Hs q e
  nF := l.nF
  nφ := l.nφ
theorem ok_upd {ω : Wd} (ok : WOk Γ ω) {p : Addr} {o : HO} (hf : ω.F p = none) (hφ : p ∉ ω.φ) : WOk Γ { ω with H := upd ω.H p o } where
  sub := fun q u e => by
    show upd ω.H p o q = some u
    rw [upd_ne (ne_of_none e hf)]
    exact ok.sub q u e
  len := ok.len
  nd := ok.nd
  fr := ok.fr
  ob := fun n b e => by
    obtain ⟨a, e1, r⟩ := ok.ob n b e
    have ha : a ≠ p := fun z => by subst z; exact hφ (List.mem_of_getElem? e1)
    refine ⟨a, e1, ?_⟩
    cases b with
    | cells xs => obtain ⟨vs, q, d⟩ := r; exact ⟨vs, by show upd ω.H p o a = _; rw [upd_ne ha]; exact q, d⟩
    | inst c fs => obtain ⟨dx, vs, q, d⟩ := r; exact ⟨dx, vs, by show upd ω.H p o a = _; rw [upd_ne ha]; exact q, d⟩
theorem T_comp {K : PySem.W.Frag} (hK : Γ.K = K) {src : MSrc} {t : Tg} {vs : List Nat} {tst elt : Mean} (hv : ∀ i ∈ t.slots, i ∈ vs) (hO : ∀ i ∈ t.slots, i ∉ O) {σ : St} {H : Hp} {Q : VK} (h : TF Γ O (eComp src t vs tst elt) σ H Q) :
    tLc (TIc Γ O src) (t.g K) (TB Γ O tst) (T Γ O elt true) vs σ H Q := by
  obtain ⟨ω, ρ, ys, S', e1, ok, E, e2, k⟩ := h
  unfold eComp at e2
  split at e2
  · rename_i ds S1 es
    split at e2
    · rename_i ys' S2 er
      cases e2
      refine ⟨ω, ρ, ds, S1, e1, ok, E, es, fun ω1 J l1 ok1 es1 wk hz => fun A hA => ?_⟩
      subst es1
      refine ⟨fun i m H => ∃ ω2 acc zs rest, ω2.H = H ∧ Le ω1 ω2 ∧ WOk Γ ω2 ∧ ω2.H A = some (.lst acc) ∧ ω2.F A = none ∧ A ∉ ω2.φ ∧ DRs Γ.K ω2.F acc zs ∧ acc.length ≤ i ∧ m = ds.length - i ∧ i ≤ ds.length ∧
        compRun t tst elt (wipeE ρ vs) (ds.drop i) ω2.S = some (rest, S') ∧ zs ++ rest = ys, ⟨ds.length, ω1.lay A (.lst []), [], [], ys, rfl, Wd.lay_le ok1 _ hA, Wd.lay_ok ok1 _ hA, upd_same, ok1.none_F hA, ok1.fresh hA, .nil, Nat.zero_le _, by simp, Nat.zero_le _, by rw [List.drop_zero]; exact er, rfl⟩, ?_⟩
      rintro i m H ⟨ω2, acc, zs, rest, rfl, l2, ok2, hD, hF, hφ, hd, ha, rfl, hi, hr, hy⟩
      by_cases hlt : i < ds.length
      · obtain ⟨go, yl⟩ := (wk ω2 l2 ok2 i).1 ds[i] (List.getElem?_eq_getElem hlt)
        refine .inr ⟨go, fun H => ∃ ω2 acc zs rest, ω2.H = H ∧ Le ω1 ω2 ∧ WOk Γ ω2 ∧ ω2.H A = some (.lst acc) ∧ ω2.F A = none ∧ A ∉ ω2.φ ∧ DRs Γ.K ω2.F acc zs ∧ acc.length ≤ i + 1 ∧
          compRun t tst elt (wipeE ρ vs) (ds.drop (i + 1)) ω2.S = some (rest, S') ∧ zs ++ rest = ys, fun H' ⟨ω3, a1, a2, a3, b1, b2, b3, b4, b5, b6, b7, b8, b9, b10⟩ => ⟨ds.length - (i + 1), by omega, ω3, a1, a2, a3, b1, b2, b3, b4, b5, b6, b7, b8, rfl, hlt, b9, b10⟩, fun x H' hx => ?_⟩
        obtain ⟨rfl, rx⟩ := yl x H' hx
        rw [List.drop_eq_getElem_cons hlt] at hr
        obtain ⟨ρ1, b, S3, et, eb, er2⟩ := compRun_cons hr
        refine Tg.go hK ok2 ((E.le (l1.trans l2)).wipe vs) hO rx et fun ws E2 => ?_
        refine ⟨wipe_set hv, ω2, ρ1, b, S3, rfl, ok2, E2, eb, fun ω3 l3 ok3 es3 => ?_⟩
        cases b with
        | false =>
          rw [if_neg (by decide)] at er2
          exact iteF ⟨ω3, acc, zs, rest, rfl, l2.trans l3, ok3, l3.H A _ hD hφ, keepsF l3 hD hF, keepsφ l3 hD hφ, hd.sub l3.F, by omega, by rw [es3]; exact er2, hy⟩
        | true =>
          rw [if_pos rfl] at er2
          obtain ⟨y, S4, ys4, ee, ec, rfl⟩ := er2
          refine iteT ⟨ω3, ρ1, .d y, S4, rfl, ok3, E2.le l3, by rw [es3]; exact ee, fun ω4 v l4 ok4 es4 r4 => ?_⟩
          have l34 := l3.trans l4
          have hD4 := l34.H A _ hD hφ
          have hF4 := keepsF l34 hD hF
          have hφ4 := keepsφ l34 hD hφ
          refine ⟨acc, hD4, Nat.lt_of_lt_of_le (Nat.lt_of_le_of_lt ha hlt) hz, { ω4 with H := upd ω4.H A (.lst (acc ++ [v])) }, acc ++ [v], zs ++ [y], ys4, rfl, le_upd (l2.trans l34) hA, ok_upd ok4 hF4 hφ4, upd_same, hF4, hφ4,
            (hd.sub l34.F).append (.cons r4 .nil), by rw [List.length_append, List.length_singleton]; omega, by rw [show ({ ω4 with H := upd ω4.H A (.lst (acc ++ [v])) } : Wd).S = S4 from es4]; exact ec, by rw [List.append_assoc]; exact hy⟩
      · have e : i = ds.length := by omega
        subst e
        refine .inl ⟨(wk ω2 l2 ok2 _).2 (Nat.le_refl _), ?_⟩
        rw [List.drop_length] at hr
        cases hr
        rw [List.append_nil] at hy
        subst hy
        exact k ω2 A acc (l1.trans l2) ok2 rfl hD hd hF hφ (le_none l1 hA)
    · cases e2
  · cases e2
theorem mf_comp (c : Ctx Γ X) {elt tgt iter : Expr} {ifs : List Expr} {scope : Scope} {own : List (Str × Nat)} {src : MSrc} {t : Tg} {vs : List Nat} {mt me : Mean} (hi : PI X tgt iter (TIc Γ O src)) (ok : BlkOk X.N X.env.scope scope own) (hvs : own.map (·.2) = vs)
    (hv : ∀ i ∈ t.slots, i ∈ vs) (hO : ∀ i ∈ t.slots, i ∉ O)
    (hg : ∀ (s : Shared) (H : Hp) (C : Addr) (cl : List (Str × Addr)) (fp : List Addr), TgOk (X.blk s H scope (compEnvC scope cl C X.env) fp) tgt t)
    (ht : ∀ (s : Shared) (H : Hp) (C : Addr) (cl : List (Str × Addr)) (fp : List Addr), Ctx Γ (X.blk s H scope (compEnvC scope cl C X.env) fp) → PTs (X.blk s H scope (compEnvC scope cl C X.env) fp) ifs (TB Γ O mt))
    (he : ∀ (s : Shared) (H : Hp) (C : Addr) (cl : List (Str × Addr)) (fp : List Addr), Ctx Γ (X.blk s H scope (compEnvC scope cl C X.env) fp) → PE (X.blk s H scope (compEnvC scope cl C X.env) fp) elt (T Γ O me true))
    (hs : ∀ x, foldedSetIterable iter X.env x = pure x := by intro _; rfl) : PE X (.ListComp elt [⟨tgt, iter, ifs, 0⟩] scope pos) (TF Γ O (eComp src t vs mt me)) := by
  subst hvs
  exact PE.mono (pe_lc (own := own) c.calm c.nd hi ok (fun s H C cl fp => (hg s H C cl fp).pg (c.blk s H scope _ fp)) (fun s H C cl fp => ht s H C cl fp (c.blk s H scope _ fp)) (fun s H C cl fp => he s H C cl fp (c.blk s H scope _ fp)) hs) fun σ H Q h => T_comp c.hK hv hO h
theorem me_comp {m : Mean} (h : PE X e (TF Γ O m)) (hl : ∀ ρ S u S', m ρ S = some (u, S') → ∃ ds, u = .d (.list ds)) : PE X e (T Γ O m true) := PM.fresh h hl
end
end MP
set_option Elab.async false
set_option linter.all false
set_option maxRecDepth 20000
/-! Part 7: statements, bodies, the table of defs. -/
namespace MP
open PySem L2
open PySem.PyData (strOk)

inductive Out where
  | nx (ρ : Env) (S : Store)
  | ret (u : Val) (S : Store)
  | brk (ρ : Env) (S : Store)
  | cnt (ρ : Env) (S : Store)
abbrev SMean := Env → Store → Option Out

/-- the state between two statements: ω₀ is the world at the entry -/
structure EnvS (Γ : Gam) (O : List Nat) (ω₀ ω : Wd) (ρ : Env) (σ : St) : Prop where
  env : EnvR (Γ := Γ) O ω ρ σ
  le : Le ω₀ ω
  ok : WOk Γ ω
  new : ∀ i u p, i ∈ O → ρ[i]? = some (some u) → σ[i]? = some (some (.ref p)) → ω₀.H p = none
def Post (Γ : Gam) (O : List Nat) (ω₀ : Wd) (F : Hp) (D : Ends) : Out → Prop
  | .nx ρ S => ∀ ω σ, EnvS Γ O ω₀ ω ρ σ → Sub F ω.F → ω.S = S → D.nx σ ω.H
  | .brk ρ S => ∀ ω σ, EnvS Γ O ω₀ ω ρ σ → Sub F ω.F → ω.S = S → D.bk σ ω.H
  | .cnt ρ S => ∀ ω σ, EnvS Γ O ω₀ ω ρ σ → Sub F ω.F → ω.S = S → D.ct σ ω.H
  | .ret u S => ∀ ω v, Le ω₀ ω → WOk Γ ω → ω.S = S → RV Γ ω.F ω.φ v u → D.rt v ω.H
def TS_ (Γ : Gam) (O : List Nat) (m : SMean) : TS := fun D σ H => ∃ ω₀ ω ρ r, ω.H = H ∧ EnvS Γ O ω₀ ω ρ σ ∧ m ρ ω.S = some r ∧ Post Γ O ω₀ ω.F D r
theorem Post.sub {Γ : Gam} {O : List Nat} {ω₀ : Wd} {F F' : Hp} {D : Ends} (s : Sub F F') : ∀ {r : Out}, Post Γ O ω₀ F D r → Post Γ O ω₀ F' D r
  | .nx _ _, h => fun ω σ E q => h ω σ E (s.trans q)
  | .brk _ _, h => fun ω σ E q => h ω σ E (s.trans q)
  | .cnt _ _, h => fun ω σ E q => h ω σ E (s.trans q)
  | .ret _ _, h => h
section
variable {Γ : Gam} {X : Cx} {O : List Nat}
theorem EnvS.le_ {ω₀ ω ω' : Wd} {ρ : Env} {σ : St} (E : EnvS Γ O ω₀ ω ρ σ) (l : Le ω ω') (ok : WOk Γ ω') : EnvS Γ O ω₀ ω' ρ σ := ⟨E.env.le l, E.le.trans l, ok, E.new⟩
theorem EnvS.set {ω₀ ω : Wd} {ρ : Env} {σ : St} (E : EnvS Γ O ω₀ ω ρ σ) {i : Nat} {v : V} {u : Val} (hi : i ∉ O) (r : RV Γ ω.F ω.φ v u) : EnvS Γ O ω₀ ω (ρ.set i (some u)) (σ.set i (some v)) :=
  ⟨E.env.set hi r, E.le, E.ok, fun j w p hj e1 e2 => by
    have hne : i ≠ j := fun z => by subst z; exact hi hj
    rw [List.getElem?_set_ne hne] at e1 e2
    exact E.new j w p hj e1 e2⟩

/-! ### blocks -/
def sSkip : SMean := fun ρ S => some (.nx ρ S)
def sSeq (a b : SMean) : SMean := fun ρ S => match a ρ S with
  | some (.nx ρ1 S1) => b ρ1 S1
  | r => r
def sNever : SMean := fun _ _ => none
theorem sSeq_some {a b : SMean} {ρ : Env} {S : Store} {r : Out} (h : sSeq a b ρ S = some r) : ∃ q, a ρ S = some q ∧ (match q with | .nx ρ1 S1 => b ρ1 S1 = some r | o => o = r) := by
  unfold sSeq at h
  split at h
  · rename_i ρ1 S1 e; exact ⟨_, e, h⟩
  · rename_i o hn
    refine ⟨r, h, ?_⟩
    cases r with
    | nx ρ1 S1 => exact absurd h (hn ρ1 S1)
    | _ => rfl
variable {st : Stmt} {rest : List Stmt} {ma mb : SMean} {e a b : Expr} {m n : Mean} {pos : Pos} {c1 c2 : Bool}
theorem mss_nil : PSs X [] (TS_ Γ O sSkip) := PSs.mono pss_nil fun D σ H ⟨ω₀, ω, ρ, r, e1, E, e2, k⟩ => by
  cases e2
  subst e1
  exact k ω σ E (Sub.refl _) rfl
theorem mss_cons (h : PS X st (TS_ Γ O ma)) (h2 : PSs X rest (TS_ Γ O mb)) : PSs X (st :: rest) (TS_ Γ O (sSeq ma mb)) := PSs.mono (pss_cons h h2) fun D σ H ⟨ω₀, ω, ρ, r, e1, E, e2, k⟩ => by
  obtain ⟨q, ea, er⟩ := sSeq_some e2
  refine ⟨ω₀, ω, ρ, q, e1, E, ea, ?_⟩
  cases q with
  | nx ρ1 S1 => exact fun ω' σ' E' s es => ⟨ω₀, ω', ρ1, r, rfl, E', by rw [es]; exact er, Post.sub s k⟩
  | _ => subst er; exact k
theorem mss_one (h : PS X st (TS_ Γ O ma)) : PSs X [st] (TS_ Γ O ma) := pss_one h
theorem mss_never : PSs X rest (TS_ Γ O sNever) := PSs.mono pss_never fun D σ H ⟨ω₀, ω, ρ, r, e1, E, e2, k⟩ => by cases e2
theorem ms_never : PS X st (TS_ Γ O sNever) := PS.mono ps_never fun D σ H ⟨ω₀, ω, ρ, r, e1, E, e2, k⟩ => by cases e2
theorem ms_pass : PS X (.Pass pos) (TS_ Γ O sSkip) := PS.mono ps_pass fun D σ H ⟨ω₀, ω, ρ, r, e1, E, e2, k⟩ => by
  cases e2
  subst e1
  exact k ω σ E (Sub.refl _) rfl
def sBrk : SMean := fun ρ S => some (.brk ρ S)
def sCnt : SMean := fun ρ S => some (.cnt ρ S)
theorem ms_break : PS X (.Break pos) (TS_ Γ O sBrk) := PS.mono ps_break fun D σ H ⟨ω₀, ω, ρ, r, e1, E, e2, k⟩ => by
  cases e2
  subst e1
  exact k ω σ E (Sub.refl _) rfl
theorem ms_continue : PS X (.Continue pos) (TS_ Γ O sCnt) := PS.mono ps_continue fun D σ H ⟨ω₀, ω, ρ, r, e1, E, e2, k⟩ => by
  cases e2
  subst e1
  exact k ω σ E (Sub.refl _) rfl
def sDrop (m : Mean) : SMean := fun ρ S => match m ρ S with
  | some (_, S1) => some (.nx ρ S1)
  | none => none
theorem ms_expr (h : PE X e (T Γ O m c1)) (hs : swapsWith e none pos.line X.env = pure false := by rfl) : PS X (.Expr e pos) (TS_ Γ O (sDrop m)) := PS.mono (ps_expr (PM.weak h) hs) fun D σ H ⟨ω₀, ω, ρ, r, e1, E, e2, k⟩ => by
  unfold sDrop at e2
  split at e2
  · rename_i u S1 em
    cases e2
    exact ⟨ω, ρ, u, S1, e1, E.ok, E.env, em, fun ω' v l ok' es r' => k ω' σ (E.le_ l ok') l.F es⟩
  · cases e2

/-! ### return: what is own is given away -/
theorem freeze1 {i : Nat} {ω₀ ω : Wd} {ρ : Env} {σ : St} (E : EnvS Γ (i :: O) ω₀ ω ρ σ) : ∃ ω', EnvS Γ O ω₀ ω' ρ σ ∧ ω'.H = ω.H ∧ ω'.S = ω.S ∧ ω'.φ = ω.φ := by
  by_cases hi : i ∈ O
  · have hm : ∀ j, j ∈ i :: O ↔ j ∈ O := fun j => ⟨fun z => (List.mem_cons.mp z).elim (fun q => q ▸ hi) id, List.mem_cons_of_mem _⟩
    exact ⟨ω, ⟨⟨E.env.len, fun j u e n => E.env.var j u e (fun z => n ((hm j).mp z)), fun j u e n => E.env.own j u e ((hm j).mpr n), fun j k u w p hj hk => E.env.apart j k u w p ((hm j).mpr hj) ((hm k).mpr hk)⟩, E.le, E.ok, fun j u p hj => E.new j u p ((hm j).mpr hj)⟩, rfl, rfl, rfl⟩
  · cases eu : ρ[i]?.join with
    | none =>
      have no : ∀ u, ρ[i]? ≠ some (some u) := fun u z => by rw [z] at eu; cases eu
      refine ⟨ω, ⟨⟨E.env.len, fun j u e n => ?_, fun j u e n => E.env.own j u e (List.mem_cons_of_mem _ n), fun j k u w p hj hk => E.env.apart j k u w p (List.mem_cons_of_mem _ hj) (List.mem_cons_of_mem _ hk)⟩, E.le, E.ok, fun j u p hj => E.new j u p (List.mem_cons_of_mem _ hj)⟩, rfl, rfl, rfl⟩
      refine E.env.var j u e fun z => ?_
      rcases List.mem_cons.mp z with q | q
      · subst q; exact no u e
      · exact n q
    | some u =>
      have eu : ρ[i]? = some (some u) := by
        cases e : ρ[i]? with
        | none => rw [e] at eu; cases eu
        | some x => rw [e] at eu; exact congrArg some eu
      obtain ⟨p, xs, ds, rfl, es, hH, d, hF, hφ⟩ := E.env.own i u eu List.mem_cons_self
      have h0 := E.new i _ p List.mem_cons_self eu es
      have s : Sub ω.F (upd ω.F p (.lst xs)) := sub_upd hF
      refine ⟨{ ω with F := upd ω.F p (.lst xs) }, ⟨⟨E.env.len, fun j w e n => ?_, fun j w e n => ?_, fun j k u w p hj hk => E.env.apart j k u w p (List.mem_cons_of_mem _ hj) (List.mem_cons_of_mem _ hk)⟩, Wd.take_le E.ok E.le hH hF h0, Wd.take_ok E.ok hH hF hφ, fun j u p hj => E.new j u p (List.mem_cons_of_mem _ hj)⟩, rfl, rfl, rfl⟩
      · by_cases hj : j = i
        · subst hj
          rw [eu] at e; cases e
          exact ⟨_, es, DR.lst upd_same (d.sub s)⟩
        · obtain ⟨v, e', r⟩ := E.env.var j w e fun z => (List.mem_cons.mp z).elim hj n
          exact ⟨v, e', r.mono s (List.prefix_refl _)⟩
      · have hj : j ≠ i := fun z => hi (z ▸ n)
        obtain ⟨q, ys, zs, e3, e4, h1, h2, h3, h4⟩ := E.env.own j w e (List.mem_cons_of_mem _ n)
        have hq : q ≠ p := fun z => by
          subst z
          exact E.env.apart i j _ _ q List.mem_cons_self (List.mem_cons_of_mem _ n) (Ne.symm hj) eu e es e4
        exact ⟨q, ys, zs, e3, e4, h1, h2.sub s, by show upd ω.F p _ q = none; rw [upd_ne hq]; exact h3, h4⟩
theorem freeze : ∀ {O : List Nat} {ω₀ ω : Wd} {ρ : Env} {σ : St}, EnvS Γ O ω₀ ω ρ σ → ∃ ω', EnvS Γ [] ω₀ ω' ρ σ ∧ ω'.H = ω.H ∧ ω'.S = ω.S
  | [], _, ω, _, _, E => ⟨ω, E, rfl, rfl⟩
  | i :: O, _, _, _, _, E => by
    obtain ⟨ω1, E1, h1, s1, _⟩ := freeze1 E
    obtain ⟨ω2, E2, h2, s2⟩ := freeze E1
    exact ⟨ω2, E2, h2.trans h1, s2.trans s1⟩
def sRet (m : Mean) : SMean := fun ρ S => match m ρ S with
  | some (u, S1) => some (.ret u S1)
  | none => none
theorem ms_ret (h : PE X e (T Γ [] m true)) : PS X (.Return (some e) pos) (TS_ Γ O (sRet m)) := PS.mono (ps_ret h) fun D σ H ⟨ω₀, ω, ρ, r, e1, E, e2, k⟩ => by
  unfold sRet at e2
  split at e2
  · rename_i u S1 em
    cases e2
    obtain ⟨ω1, E1, h1, s1⟩ := freeze E
    exact ⟨ω1, ρ, u, S1, h1.trans e1, E1.ok, E1.env, by rw [s1]; exact em, fun ω' v l ok' es r' => k ω' v (E1.le.trans l) ok' es (RT.rv r')⟩
  · cases e2

/-! ### if -/
def sIf (t : Mean) (a b : SMean) : SMean := fun ρ S => match t ρ S with
  | some (.d (.bool true), S1) => a ρ S1
  | some (.d (.bool false), S1) => b ρ S1
  | _ => none
theorem ms_if {c : Expr} {ss tt : List Stmt} (hc : PT X c (TB Γ O m)) (ha : PSs X ss (TS_ Γ O ma)) (hb : PSs X tt (TS_ Γ O mb)) : PS X (.If c ss tt pos) (TS_ Γ O (sIf m ma mb)) := PS.mono (ps_if hc ha hb) fun D σ H ⟨ω₀, ω, ρ, r, e1, E, e2, k⟩ => by
  unfold sIf at e2
  split at e2
  · rename_i S1 et
    exact ⟨ω, ρ, true, S1, e1, E.ok, E.env, et, fun ω' l ok' es => iteT ⟨ω₀, ω', ρ, r, rfl, E.le_ l ok', by rw [es]; exact e2, Post.sub l.F k⟩⟩
  · rename_i S1 et
    exact ⟨ω, ρ, false, S1, e1, E.ok, E.env, et, fun ω' l ok' es => iteF ⟨ω₀, ω', ρ, r, rfl, E.le_ l ok', by rw [es]; exact e2, Post.sub l.F k⟩⟩
  · cases e2

/-! ### stores to names -/
def sSet (i : Nat) (m : Mean) : SMean := fun ρ S => match m ρ S with
  | some (u, S1) => some (.nx (ρ.set i (some u)) S1)
  | none => none
theorem S_set {i : Nat} (hi : i ∉ O) {te : TE} (ht : ∀ σ H Q, T Γ O m true σ H Q → te σ H Q) {D : Ends} {σ : St} {H : Hp} (h : TS_ Γ O (sSet i m) D σ H) : tAsg te (gName i) D σ H := by
  obtain ⟨ω₀, ω, ρ, r, e1, E, e2, k⟩ := h
  unfold sSet at e2
  split at e2
  · rename_i u S1 em
    cases e2
    exact ht _ _ _ ⟨ω, ρ, u, S1, e1, E.ok, E.env, em, fun ω' v l ok' es r' => k ω' _ ((E.le_ l ok').set hi (RT.rv r')) l.F es⟩
  · cases e2
/-- a new list goes to a name that owns it -/
theorem EnvS.setOwn {ω₀ ω : Wd} {ρ : Env} {σ : St} (E : EnvS Γ O ω₀ ω ρ σ) {i : Nat} {p : Addr} {xs : List V} {ds : List D} (hi : i ∈ O) (hH : ω.H p = some (.lst xs)) (d : DRs Γ.K ω.F xs ds) (hF : ω.F p = none) (hφ : p ∉ ω.φ) (h0 : ω₀.H p = none)
    (hn : ∀ j u q, j ∈ O → ρ[j]? = some (some u) → σ[j]? = some (some (.ref q)) → j ≠ i → q ≠ p) : EnvS Γ O ω₀ ω (ρ.set i (some (.d (.list ds)))) (σ.set i (some (.ref p))) := by
  have hl : ∀ {u : Val}, (ρ.set i (some (.d (.list ds))))[i]? = some (some u) → i < ρ.length := fun {u} e => by simpa using (List.getElem?_eq_some_iff.mp e).1
  refine ⟨⟨by simp [E.env.len], fun j u e n => ?_, fun j u e n => ?_, fun j k u w q hj hk hne e1 e2 e3 => ?_⟩, E.le, E.ok, fun j u q hj e1 e2 => ?_⟩
  · have hne : i ≠ j := fun z => by subst z; exact n hi
    rw [List.getElem?_set_ne hne] at e ⊢
    exact E.env.var j u e n
  · by_cases hj : i = j
    · subst hj
      have hl := hl e
      rw [List.getElem?_set_self hl] at e
      cases e
      exact ⟨p, xs, ds, rfl, by rw [List.getElem?_set_self (by rw [← E.env.len]; exact hl)], hH, d, hF, hφ⟩
    · rw [List.getElem?_set_ne hj] at e ⊢
      exact E.env.own j u e n
  · by_cases h1 : i = j
    · subst h1
      have hl := hl e1
      rw [List.getElem?_set_self (by rw [← E.env.len]; exact hl)] at e3
      cases e3
      rw [List.getElem?_set_ne hne] at e2 ⊢
      exact fun z => hn k w _ hk e2 z (Ne.symm hne) rfl
    · rw [List.getElem?_set_ne h1] at e1 e3
      by_cases h2 : i = k
      · subst h2
        have hl := hl e2
        rw [List.getElem?_set_self (by rw [← E.env.len]; exact hl)]
        exact fun z => by
          cases z
          exact hn j u _ hj e1 e3 hne rfl
      · rw [List.getElem?_set_ne h2] at e2 ⊢
        exact E.env.apart j k u w q hj hk hne e1 e2 e3
  · by_cases h1 : i = j
    · subst h1
      have hl := hl e1
      rw [List.getElem?_set_self (by rw [← E.env.len]; exact hl)] at e2
      cases e2
      exact h0
    · rw [List.getElem?_set_ne h1] at e1 e2
      exact E.new j u q hj e1 e2
theorem EnvR.there {ω : Wd} {ρ : Env} {σ : St} (E : EnvR (Γ := Γ) O ω ρ σ) {j : Nat} {u : Val} {q : Addr} (hj : j ∈ O) (e1 : ρ[j]? = some (some u)) (e2 : σ[j]? = some (some (.ref q))) : ∃ xs, ω.H q = some (.lst xs) := by
  obtain ⟨p, xs, ds, rfl, es, hH, _⟩ := E.own j u e1 hj
  rw [es] at e2
  cases e2
  exact ⟨xs, hH⟩
theorem S_setOwn {i : Nat} (hi : i ∈ O) {te : TE} (ht : ∀ σ H Q, TF Γ O m σ H Q → te σ H Q) (hlst : ∀ ρ S u S', m ρ S = some (u, S') → ∃ ds, u = .d (.list ds)) {D : Ends} {σ : St} {H : Hp} (h : TS_ Γ O (sSet i m) D σ H) : tAsg te (gName i) D σ H := by
  obtain ⟨ω₀, ω, ρ, r, e1, E, e2, k⟩ := h
  unfold sSet at e2
  split at e2
  · rename_i u S1 em
    cases e2
    obtain ⟨ds, rfl⟩ := hlst _ _ _ _ em
    refine ht _ _ _ ⟨ω, ρ, ds, S1, e1, E.ok, E.env, em, fun ω' p xs l ok' es hH d hF hφ h0 => ?_⟩
    refine k ω' _ ((E.le_ l ok').setOwn hi hH d hF hφ (le_none E.le h0) fun j w q hj e3 e4 _ z => ?_) l.F es
    obtain ⟨ys, hq⟩ := E.env.there hj e3 e4
    rw [z, h0] at hq
    cases hq
  · cases e2
theorem ms_set {i : Nat} {x : Str} {pos' : Pos} (c : Ctx Γ X) (hO : i ∉ O) (he : PE X e (T Γ O m true)) (hi : X.N[i]? = some x := by rfl) (hx : Loc X.env.scope x := by first | exact Or.inl rfl | exact Or.inr rfl) (hs : swapsWith e (some (.Name x pos')) pos.line X.env = pure false := by rfl)
    (hf : X.fn x = true ∨ X.env.scope.names.lookup x = some .local := by first | exact .inl rfl | exact .inr rfl) : PS X (.Assign [.Name x pos'] e pos) (TS_ Γ O (sSet i m)) :=
  PS.mono (ps_set c.nd hi hx he hs hf) fun D σ H h => S_set hO (fun _ _ _ q => q) h
theorem ms_setF {i : Nat} {x : Str} {pos' : Pos} (c : Ctx Γ X) (hO : i ∈ O) (he : PE X e (TF Γ O m)) (hl : ∀ ρ S u S', m ρ S = some (u, S') → ∃ ds, u = .d (.list ds)) (hi : X.N[i]? = some x := by rfl) (hx : Loc X.env.scope x := by first | exact Or.inl rfl | exact Or.inr rfl) (hs : swapsWith e (some (.Name x pos')) pos.line X.env = pure false := by rfl)
    (hf : X.fn x = true ∨ X.env.scope.names.lookup x = some .local := by first | exact .inl rfl | exact .inr rfl) : PS X (.Assign [.Name x pos'] e pos) (TS_ Γ O (sSet i m)) :=
  PS.mono (ps_set c.nd hi hx he hs hf) fun D σ H h => S_setOwn hO (fun _ _ _ q => q) hl h
/-- a new list, taken as a datum -/
theorem TF_of_T (hl : ∀ ρ S u S', m ρ S = some (u, S') → ∃ ds, u = .d (.list ds)) {σ : St} {H : Hp} {Q : VK} (h : T Γ O m true σ H Q) : TF Γ O m σ H Q := by
  obtain ⟨ω, ρ, u, S', e1, ok, E, e2, k⟩ := h
  obtain ⟨ds, rfl⟩ := hl _ _ _ _ e2
  refine ⟨ω, ρ, ds, S', e1, ok, E, e2, fun ω' p xs l ok' es hp r hf hφ h0 => ?_⟩
  exact k { ω' with F := upd ω'.F p (.lst xs) } (.ref p) (Wd.take_le ok' l hp hf h0) (Wd.take_ok ok' hp hf hφ) es (DR.lst upd_same (r.sub (sub_upd hf)))
/-- name = [.. for ..] on one line -/
theorem ms_setLc {i : Nat} {y : Str} {py spos : Pos} (c : Ctx Γ X) (hOi : i ∉ O) {elt tgt iter : Expr} {ifs : List Expr} {scope : Scope} {own : List (Str × Nat)} {src : MSrc} {t : Tg} {vs : List Nat} {mt me : Mean} (hi : PI X tgt iter (TIc Γ O src)) (ok : BlkOk X.N X.env.scope scope own) (hvs : own.map (·.2) = vs)
    (hv : ∀ i ∈ t.slots, i ∈ vs) (hO : ∀ i ∈ t.slots, i ∉ O)
    (hg : ∀ (s : Shared) (H : Hp) (C : Addr) (cl : List (Str × Addr)) (fp : List Addr), TgOk (X.blk s H scope (compEnvC scope cl C X.env) fp) tgt t)
    (ht : ∀ (s : Shared) (H : Hp) (C : Addr) (cl : List (Str × Addr)) (fp : List Addr), Ctx Γ (X.blk s H scope (compEnvC scope cl C X.env) fp) → PTs (X.blk s H scope (compEnvC scope cl C X.env) fp) ifs (TB Γ O mt))
    (he : ∀ (s : Shared) (H : Hp) (C : Addr) (cl : List (Str × Addr)) (fp : List Addr), Ctx Γ (X.blk s H scope (compEnvC scope cl C X.env) fp) → PE (X.blk s H scope (compEnvC scope cl C X.env) fp) elt (T Γ O me true))
    (hsw : swapsWith (.ListComp elt [⟨tgt, iter, ifs, 0⟩] scope pos) (some (.Name y py)) spos.line X.env = pure true) (hy : X.N[i]? = some y := by rfl) (hyl : X.env.scope.names.lookup y = some .local := by rfl)
    (hs : ∀ x, foldedSetIterable iter X.env x = pure x := by intro _; rfl) : PS X (.Assign [.Name y py] (.ListComp elt [⟨tgt, iter, ifs, 0⟩] scope pos) spos) (TS_ Γ O (sSet i (eComp src t vs mt me))) := by
  subst hvs
  exact PS.mono (ps_setLc (own := own) c.calm c.nd hy hyl hsw hi ok (fun s H C cl fp => (hg s H C cl fp).pg (c.blk s H scope _ fp)) (fun s H C cl fp => ht s H C cl fp (c.blk s H scope _ fp)) (fun s H C cl fp => he s H C cl fp (c.blk s H scope _ fp)) hs) fun D σ H h =>
    S_set hOi (fun _ _ _ q => T_comp c.hK hv hO (TF_of_T eComp_list q)) h
/-- a, b = .. of one datum -/
def sUnp (t : Tg) (m : Mean) : SMean := fun ρ S => match m ρ S with
  | some (.d d, S1) => (t.set d ρ).map fun ρ1 => .nx ρ1 S1
  | _ => none
theorem EnvS.go {K : PySem.W.Frag} (hK : Γ.K = K) {t : Tg} {ω₀ ω : Wd} {ρ ρ' : Env} {σ : St} {v : V} {d : D} {Q : St → Hp → Prop} (E : EnvS Γ O ω₀ ω ρ σ) (hO : ∀ i ∈ t.slots, i ∉ O) (r : DR Γ.K ω.F v d) (h : t.set d ρ = some ρ')
    (q : ∀ σ', EnvS Γ O ω₀ ω ρ' σ' → Q σ' ω.H) : t.g K v σ ω.H Q := by
  refine Tg.go hK E.ok E.env hO r h fun vs E' => q _ ⟨E', E.le, E.ok, fun j u p hj e1 e2 => ?_⟩
  have hne : j ∉ t.slots := fun z => hO j z hj
  have e2' : σ[j]? = some (some (.ref p)) := by rw [setAll_keep hne] at e2; exact e2
  have e1' : ρ[j]? = some (some u) := by
    cases t with
    | n i =>
      cases h
      have : i ≠ j := fun z => hne (by simp [Tg.slots, z])
      rw [List.getElem?_set_ne this] at e1
      exact e1
    | t is =>
      cases d with
      | tuple ds =>
        simp only [Tg.set] at h
        split at h
        · cases h; exact (setAll_keep (show j ∉ is from hne)).symm.trans e1
        · cases h
      | _ => cases h
  exact E.new j u p hj e1' e2'
theorem ms_unp {tg : Expr} {t : Tg} (c : Ctx Γ X) (hO : ∀ i ∈ t.slots, i ∉ O) (ht : TgOk X tg t) (he : PE X e (T Γ O m true)) (hs : swapsWithSole [tg] e pos.line X.env = pure false := by rfl) (hw : swappedStores [tg] e X.env = pure none := by rfl)
    (h1 : (assignEach [tg] X.env).map (·.2) = [assign tg X.env] := by rfl) : PS X (.Assign [tg] e pos) (TS_ Γ O (sUnp t m)) := PS.mono (ps_asg he (ht.pg c) hs hw h1) fun D σ H ⟨ω₀, ω, ρ, r, e1, E, e2, k⟩ => by
  unfold sUnp at e2
  split at e2
  · rename_i d S1 em
    cases ed : t.set d ρ with
    | none => rw [ed] at e2; cases e2
    | some ρ1 =>
      rw [ed] at e2
      cases e2
      exact ⟨ω, ρ, _, S1, e1, E.ok, E.env, em, fun ω' v l ok' es r' => (E.le_ l ok').go c.hK hO r' ed fun σ' E' => k ω' σ' E' l.F es⟩
  · cases e2
/-- a, b = x, y -/
def sPar (is : List Nat) (ms : Means) : SMean := fun ρ S => match ms ρ S with
  | some (us, S1) => if us.length = is.length then some (.nx (setAll ρ is us) S1) else none
  | none => none
theorem EnvS.setAll : ∀ {is : List Nat} {vs : List V} {us : List Val} {ω₀ ω : Wd} {ρ : Env} {σ : St}, EnvS Γ O ω₀ ω ρ σ → (∀ i ∈ is, i ∉ O) → RVs Γ ω.F ω.φ vs us → EnvS Γ O ω₀ ω (MP.setAll ρ is us) (MP.setAll σ is vs)
  | [], _, _, _, _, _, _, E, _, _ => E
  | i :: is, _, _, _, _, _, _, E, _, .nil => E
  | i :: is, _, _, ω₀, ω, ρ, σ, E, h, @RVs.cons _ _ _ v u vs us r1 r2 => EnvS.setAll (is := is) (ρ := ρ.set i (some u)) (σ := σ.set i (some v)) (E.set (h i List.mem_cons_self) r1) (fun j hj => h j (List.mem_cons_of_mem _ hj)) r2
theorem ms_par {i j : Nat} {x y : Str} {ms : Means} {px py pt : Pos} {kt k2 : Nat} {pt2 : Pos} (c : Ctx Γ X) (hO : ∀ k ∈ [i, j], k ∉ O) (hij : i ≠ j) (ha : PA X [a, b] (TAs Γ O ms)) (hl : aLen [a, b] ms) (hi : X.N[i]? = some x := by rfl) (hj : X.N[j]? = some y := by rfl)
    (hx : X.env.scope.names.lookup x = some .local := by rfl) (hy : X.env.scope.names.lookup y = some .local := by rfl)
    (hw : swappedStores [.Tuple [.Name x px, .Name y py] kt pt] (.Tuple [a, b] k2 pt2) X.env = pure (some [x, y]) := by rfl)
    (hs : swapsWithSole [.Tuple [.Name x px, .Name y py] kt pt] (.Tuple [a, b] k2 pt2) pos.line X.env = pure false := by rfl) :
    PS X (.Assign [.Tuple [.Name x px, .Name y py] kt pt] (.Tuple [a, b] k2 pt2) pos) (TS_ Γ O (sPar [i, j] ms)) := PS.mono (L2.ps_par c.calm c.nd hi hj hij hx hy ha hw hs) fun D σ H ⟨ω₀, ω, ρ, r, e1, E, e2, k⟩ => by
  unfold sPar at e2
  split at e2
  · rename_i us S1 em
    split at e2
    · rename_i hlen
      cases e2
      refine ⟨ω, ρ, us, S1, e1, E.ok, E.env, em, fun ω' vs l ok' es r' => ?_⟩
      have hvl : vs.length = 2 := by rw [r'.length]; exact hlen
      obtain ⟨v, w, rfl⟩ : ∃ v w, vs = [v, w] := by
        match vs, hvl with
        | [v, w], _ => exact ⟨v, w, rfl⟩
      refine ⟨v, w, rfl, ?_⟩
      exact k ω' _ ((E.le_ l ok').setAll hO r') l.F es
    · cases e2
  · cases e2
/-! ### loops -/
def whileRun (t : Mean) (b : SMean) : Nat → Env → Store → Option Out
  | 0, _, _ => none
  | n + 1, ρ, S => match t ρ S with
    | some (.d (.bool true), S1) => match b ρ S1 with
      | some (.nx ρ2 S2) => whileRun t b n ρ2 S2
      | some (.cnt ρ2 S2) => whileRun t b n ρ2 S2
      | some (.brk ρ2 S2) => some (.nx ρ2 S2)
      | some (.ret u S2) => some (.ret u S2)
      | none => none
    | some (.d (.bool false), S1) => some (.nx ρ S1)
    | _ => none
def sWhile (n : Nat) (t : Mean) (b : SMean) : SMean := whileRun t b n
theorem ms_while {c : Expr} {body : List Stmt} (k0 : Nat) (cx : Ctx Γ X) (hc : PT X c (TB Γ O m)) (hb : PSs X body (TS_ Γ O ma)) : PS X (.While c body [] pos) (TS_ Γ O (sWhile k0 m ma)) := PS.mono (ps_while cx.own hc hb) fun D σ H ⟨ω₀, ω, ρ, r, e1, E, e2, k⟩ => by
  refine ⟨fun n σ H => ∃ ω1 ρ1, ω1.H = H ∧ EnvS Γ O ω₀ ω1 ρ1 σ ∧ Sub ω.F ω1.F ∧ whileRun m ma n ρ1 ω1.S = some r, ⟨k0, ω, ρ, e1, E, Sub.refl _, e2⟩, ?_⟩
  rintro n σ1 H1 ⟨ω1, ρ1, rfl, E1, s1, er⟩
  cases n with
  | zero => cases er
  | succ n =>
    unfold whileRun at er
    split at er
    · rename_i S1 et
      refine ⟨ω1, ρ1, true, S1, rfl, E1.ok, E1.env, et, fun ω2 l2 ok2 es2 => iteT ?_⟩
      refine ⟨fun σ' H' => ∃ ω3 ρ3, ω3.H = H' ∧ EnvS Γ O ω₀ ω3 ρ3 σ' ∧ Sub ω.F ω3.F ∧ whileRun m ma n ρ3 ω3.S = some r, fun σ' H' h => ⟨n, Nat.lt_succ_self n, h⟩, ?_⟩
      have s2 : Sub ω.F ω2.F := s1.trans l2.F
      split at er
      · rename_i ρ2 S2 eb
        exact ⟨ω₀, ω2, ρ1, .nx ρ2 S2, rfl, E1.le_ l2 ok2, by rw [es2]; exact eb, fun ω3 σ3 E3 s3 es3 => ⟨ω3, ρ2, rfl, E3, s2.trans s3, by rw [es3]; exact er⟩⟩
      · rename_i ρ2 S2 eb
        exact ⟨ω₀, ω2, ρ1, .cnt ρ2 S2, rfl, E1.le_ l2 ok2, by rw [es2]; exact eb, fun ω3 σ3 E3 s3 es3 => ⟨ω3, ρ2, rfl, E3, s2.trans s3, by rw [es3]; exact er⟩⟩
      · rename_i ρ2 S2 eb
        cases er
        exact ⟨ω₀, ω2, ρ1, .brk ρ2 S2, rfl, E1.le_ l2 ok2, by rw [es2]; exact eb, fun ω3 σ3 E3 s3 es3 => k ω3 σ3 E3 (s2.trans s3) es3⟩
      · rename_i u S2 eb
        cases er
        exact ⟨ω₀, ω2, ρ1, .ret u S2, rfl, E1.le_ l2 ok2, by rw [es2]; exact eb, fun ω3 v l3 ok3 es3 r3 => k ω3 v l3 ok3 es3 r3⟩
      · cases er
    · rename_i S1 et
      cases er
      exact ⟨ω1, ρ1, false, S1, rfl, E1.ok, E1.env, et, fun ω2 l2 ok2 es2 => iteF (k ω2 σ1 (E1.le_ l2 ok2) (s1.trans l2.F) es2)⟩
    · cases er
def forRun (t : Tg) (b : SMean) : List D → Env → Store → Option Out
  | [], ρ, S => some (.nx ρ S)
  | d :: ds, ρ, S => match t.set d ρ with
    | none => none
    | some ρ1 => match b ρ1 S with
      | some (.nx ρ2 S2) => forRun t b ds ρ2 S2
      | some (.cnt ρ2 S2) => forRun t b ds ρ2 S2
      | some (.brk ρ2 S2) => some (.nx ρ2 S2)
      | some (.ret u S2) => some (.ret u S2)
      | none => none
def sFor (src : MSrc) (t : Tg) (b : SMean) : SMean := fun ρ S => match src ρ S with
  | some (ds, S1) => forRun t b ds ρ S1
  | none => none
theorem ms_for {tg iter : Expr} {body : List Stmt} {src : MSrc} {t : Tg} (c : Ctx Γ X) (hO : ∀ i ∈ t.slots, i ∉ O) (hi : PI X tg iter (TI_ Γ O src)) (ht : TgOk X tg t) (hb : PSs X body (TS_ Γ O ma)) (hs : ∀ x, foldedSetIterable iter X.env x = pure x := by intro _; rfl) :
    PS X (.For tg iter body [] pos) (TS_ Γ O (sFor src t ma)) := PS.mono (ps_for c.own c.calm hi (ht.pg c) hb hs) fun D σ H ⟨ω₀, ω, ρ, r, e1, E, e2, k⟩ => by
  unfold sFor at e2
  split at e2
  · rename_i ds S1 em
    refine ⟨ω, ρ, ds, S1, e1, E.ok, E.env, em, fun ω1 J l1 ok1 es1 wk hz => ?_⟩
    refine ⟨fun i n σ H => ∃ ω2 ρ2, ω2.H = H ∧ EnvS Γ O ω₀ ω2 ρ2 σ ∧ Sub ω1.F ω2.F ∧ n = ds.length - i ∧ i ≤ ds.length ∧ forRun t ma (ds.drop i) ρ2 ω2.S = some r, ⟨ds.length, ω1, ρ, rfl, E.le_ l1 ok1, Sub.refl _, by simp, Nat.zero_le _, by rw [List.drop_zero, es1]; exact e2⟩, ?_⟩
    rintro i n σ2 H2 ⟨ω2, ρ2, rfl, E2, s2, rfl, hi, er⟩
    have s02 : Sub ω.F ω2.F := l1.F.trans s2
    by_cases hlt : i < ds.length
    · obtain ⟨go, yl⟩ := (wk ω2 s2 E2.ok i).1 ds[i] (List.getElem?_eq_getElem hlt)
      refine .inr ⟨go, fun σ H => ∃ ω3 ρ3, ω3.H = H ∧ EnvS Γ O ω₀ ω3 ρ3 σ ∧ Sub ω1.F ω3.F ∧ forRun t ma (ds.drop (i + 1)) ρ3 ω3.S = some r, fun σ' H' ⟨ω3, ρ3, a1, a2, a3, a4⟩ => ⟨ds.length - (i + 1), by omega, ω3, ρ3, a1, a2, a3, rfl, hlt, a4⟩, fun x H' hx => ?_⟩
      obtain ⟨rfl, rx⟩ := yl x H' hx
      rw [List.drop_eq_getElem_cons hlt] at er
      unfold forRun at er
      split at er
      · cases er
      · rename_i ρ3 et
        refine E2.go c.hK hO rx et fun σ3 E3 => ?_
        split at er
        · rename_i ρ4 S4 eb
          exact ⟨ω₀, ω2, ρ3, .nx ρ4 S4, rfl, E3, eb, fun ω4 σ4 E4 s4 es4 => ⟨ω4, ρ4, rfl, E4, s2.trans s4, by rw [es4]; exact er⟩⟩
        · rename_i ρ4 S4 eb
          exact ⟨ω₀, ω2, ρ3, .cnt ρ4 S4, rfl, E3, eb, fun ω4 σ4 E4 s4 es4 => ⟨ω4, ρ4, rfl, E4, s2.trans s4, by rw [es4]; exact er⟩⟩
        · rename_i ρ4 S4 eb
          cases er
          exact ⟨ω₀, ω2, ρ3, .brk ρ4 S4, rfl, E3, eb, fun ω4 σ4 E4 s4 es4 => k ω4 σ4 E4 (s02.trans s4) es4⟩
        · rename_i u S4 eb
          cases er
          exact ⟨ω₀, ω2, ρ3, .ret u S4, rfl, E3, eb, fun ω4 v l4 ok4 es4 r4 => k ω4 v l4 ok4 es4 r4⟩
        · cases er
    · have e : i = ds.length := by omega
      subst e
      rw [List.drop_length] at er
      cases er
      exact .inl ⟨(wk ω2 s2 E2.ok _).2 (Nat.le_refl _), k ω2 σ2 E2 s02 rfl⟩
  · cases e2
end
end MP
set_option Elab.async false
set_option linter.all false
set_option maxRecDepth 20000
/-! Part 8: changes of own lists, of objects; augmented names; sorted; isinstance. -/
namespace MP
open PySem L2
open PySem.PyData (strOk)
section
variable {Γ : Gam} {X : Cx} {O : List Nat}
/-- what an own list holds is changed -/
theorem EnvS.upd {ω₀ ω : Wd} {ρ : Env} {σ : St} (E : EnvS Γ O ω₀ ω ρ σ) {i : Nat} {p : Addr} {u : Val} {ys : List V} {ds : List D} (hi : i ∈ O) (e1 : ρ[i]? = some (some u)) (e2 : σ[i]? = some (some (.ref p)))
    (d : DRs Γ.K ω.F ys ds) : EnvS Γ O ω₀ { ω with H := L2.upd ω.H p (.lst ys) } (ρ.set i (some (.d (.list ds)))) σ := by
  obtain ⟨p', xs, es, rfl, e3, hH, _, hF, hφ⟩ := E.env.own i u e1 hi
  rw [e2] at e3
  cases e3
  have h0 := E.new i _ p hi e1 e2
  have hl : i < ρ.length := (List.getElem?_eq_some_iff.mp e1).1
  refine ⟨⟨by rw [List.length_set]; exact E.env.len, fun j w e n => ?_, fun j w e n => ?_, fun j k w z q hj hk hne a1 a2 a3 => ?_⟩, le_upd E.le h0, ok_upd E.ok hF hφ, fun j w q hj a1 a2 => ?_⟩
  · have hne : i ≠ j := fun z => n (z ▸ hi)
    rw [List.getElem?_set_ne hne] at e
    exact E.env.var j w e n
  · by_cases hj : i = j
    · subst hj
      rw [List.getElem?_set_self hl] at e
      cases e
      exact ⟨p, ys, ds, rfl, e2, upd_same, d, hF, hφ⟩
    · rw [List.getElem?_set_ne hj] at e
      obtain ⟨q, zs, es2, b1, b2, b3, b4, b5, b6⟩ := E.env.own j w e n
      have hq : q ≠ p := fun z => by
        subst z
        exact E.env.apart i j _ _ q hi n hj e1 e e2 b2
      exact ⟨q, zs, es2, b1, b2, by show L2.upd ω.H p _ q = _; rw [upd_ne hq]; exact b3, b4, b5, b6⟩
  · have old : ∀ (j : Nat) (w : Val), (ρ.set i (some (Val.d (.list ds))))[j]? = some (some w) → ∃ w', ρ[j]? = some (some w') := fun j w a => by
      by_cases hj : i = j
      · subst hj; exact ⟨_, e1⟩
      · rw [List.getElem?_set_ne hj] at a; exact ⟨w, a⟩
    obtain ⟨w', b1⟩ := old j w a1
    obtain ⟨z', b2⟩ := old k z a2
    exact E.env.apart j k w' z' q hj hk hne b1 b2 a3
  · by_cases hj2 : i = j
    · subst hj2
      rw [e2] at a2
      cases a2
      exact h0
    · rw [List.getElem?_set_ne hj2] at a1
      exact E.new j w q hj a1 a2
def sApp (i : Nat) (m : Mean) : SMean := fun ρ S => match m ρ S with
  | some (.d d, S1) => match ρ.getD i none with
    | some (.d (.list ds)) => if ds.length < 1000000 then some (.nx (ρ.set i (some (.d (.list (ds ++ [d]))))) S1) else none
    | _ => none
  | _ => none
theorem getD_some {ρ : Env} {i : Nat} {u : Val} (h : ρ.getD i none = some u) : ρ[i]? = some (some u) := by
  rw [List.getD_eq_getElem?_getD] at h
  cases e : ρ[i]? with
  | none => rw [e] at h; cases h
  | some x => rw [e] at h; exact congrArg some h
theorem sApp_some {i : Nat} {m : Mean} {ρ : Env} {S : Store} {r : Out} (h : sApp i m ρ S = some r) : ∃ d S1 ds, m ρ S = some (.d d, S1) ∧ ρ[i]? = some (some (.d (.list ds))) ∧ ds.length < 1000000 ∧ r = .nx (ρ.set i (some (.d (.list (ds ++ [d]))))) S1 := by
  unfold sApp at h
  split at h
  · rename_i d S1 e
    split at h
    · rename_i ds e2
      split at h
      · rename_i e3
        cases h
        exact ⟨d, S1, ds, e, getD_some e2, e3, rfl⟩
      · cases h
    · cases h
  · cases h
variable {m : Mean} {e : Expr} {px apos cpos pos : Pos} {x : Str}
theorem ms_append {i : Nat} (c : Ctx Γ X) (hi : i ∈ O) (pv : PE X (.Name x px) (tVar i)) (he : PE X e (T Γ O m true)) (hs : swapsWith (.Call (.Attribute (.Name x px) "append" apos) [e] [] cpos) none pos.line X.env = pure false := by rfl)
    (hbase : attributeBase (.Name x px) "append" X.env (eval (.Name x px) X.env) = eval (.Name x px) X.env := by rfl)
    (hfew : ((backTo cpos (starEach [e] X.env)).all (fun x => !x.1) && (backToKw cpos (keywordEach [] X.env)).all (fun x => x.1.isSome)
      && decide ([e].length + ([] : List Keyword).length + (if ([] : List Keyword).isEmpty then 0 else 1) < 30)) = true := by rfl)
    (hline : (apos.endLine == cpos.line) = true := by rfl) (hst : starEach [e] X.env = (false, eval e X.env) :: starEach [] X.env := by rfl) (hplain : (backTo cpos (starEach [] X.env)).any (·.1) = false := by rfl) :
    PS X (.Expr (.Call (.Attribute (.Name x px) "append" apos) [e] [] cpos) pos) (TS_ Γ O (sApp i m)) :=
  PS.mono (ps_expr (pe_bm PySem.F.plainAttrs_list PySem.F.slot_list_append PySem.F.type_list_append mt_append pv (pa_cons he pa_nil hst) hbase hfew hline hst hplain) hs) fun D σ H ⟨ω₀, ω, ρ, r, e1, E, e2, k⟩ => by
  obtain ⟨d, S1, ds, em, ei, hz, rfl⟩ := sApp_some e2
  obtain ⟨p, xs, ds', eu, es, hH, dr, hF, hφ⟩ := E.env.own i _ ei hi
  cases eu
  subst e1
  refine ⟨.ref p, es, .inl ⟨rfl, _, SqL.of hH⟩, ω, ρ, _, S1, rfl, E.ok, E.env, em, fun ω' v l ok' es' r' => ?_⟩
  have hH' := l.H p _ hH hφ
  have dr' := dr.sub l.F
  refine ⟨p, xs, v, rfl, rfl, hH', ?_, ?_⟩
  · rw [dr.length]; rw [sizeLine_eq]; omega
  · exact k { ω' with H := L2.upd ω'.H p (.lst (xs ++ [v])) } σ ((E.le_ l ok').upd hi ei es (dr'.append (.cons r' .nil))) l.F es'
def sExt (i : Nat) (m : Mean) : SMean := fun ρ S => match m ρ S with
  | some (.d (.list es), S1) => match ρ.getD i none with
    | some (.d (.list ds)) => if ds.length + es.length ≤ 1000000 then some (.nx (ρ.set i (some (.d (.list (ds ++ es))))) S1) else none
    | _ => none
  | _ => none
theorem ms_extend {i : Nat} (c : Ctx Γ X) (hi : i ∈ O) (pv : PE X (.Name x px) (tVar i)) (he : PE X e (T Γ O m true)) (hs : swapsWith (.Call (.Attribute (.Name x px) "extend" apos) [e] [] cpos) none pos.line X.env = pure false := by rfl)
    (hbase : attributeBase (.Name x px) "extend" X.env (eval (.Name x px) X.env) = eval (.Name x px) X.env := by rfl)
    (hfew : ((backTo cpos (starEach [e] X.env)).all (fun x => !x.1) && (backToKw cpos (keywordEach [] X.env)).all (fun x => x.1.isSome)
      && decide ([e].length + ([] : List Keyword).length + (if ([] : List Keyword).isEmpty then 0 else 1) < 30)) = true := by rfl)
    (hline : (apos.endLine == cpos.line) = true := by rfl) (hst : starEach [e] X.env = (false, eval e X.env) :: starEach [] X.env := by rfl) (hplain : (backTo cpos (starEach [] X.env)).any (·.1) = false := by rfl) :
    PS X (.Expr (.Call (.Attribute (.Name x px) "extend" apos) [e] [] cpos) pos) (TS_ Γ O (sExt i m)) :=
  PS.mono (ps_expr (pe_bm PySem.F.plainAttrs_list PySem.F.slot_list_extend PySem.F.type_list_extend mt_extend pv (pa_cons he pa_nil hst) hbase hfew hline hst hplain) hs) fun D σ H ⟨ω₀, ω, ρ, r, e1, E, e2, k⟩ => by
  have key : ∃ es S1 ds, m ρ ω.S = some (.d (.list es), S1) ∧ ρ[i]? = some (some (.d (.list ds))) ∧ ds.length + es.length ≤ 1000000 ∧ r = .nx (ρ.set i (some (.d (.list (ds ++ es))))) S1 := by
    unfold sExt at e2
    split at e2
    · rename_i d S1 e
      split at e2
      · rename_i ds e3
        split at e2
        · rename_i e4
          cases e2
          exact ⟨_, S1, ds, e, getD_some e3, e4, rfl⟩
        · cases e2
      · cases e2
    · cases e2
  obtain ⟨fs, S1, ds, em, ei, hz, rfl⟩ := key
  obtain ⟨p, xs, ds', eu, es, hH, dr, hF, hφ⟩ := E.env.own i _ ei hi
  cases eu
  subst e1
  refine ⟨.ref p, es, .inl ⟨rfl, _, SqL.of hH⟩, ω, ρ, _, S1, rfl, E.ok, E.env, em, fun ω' v l ok' es' r' => ?_⟩
  have hH' := l.H p _ hH hφ
  have dr' := dr.sub l.F
  have r' : DR Γ.K ω'.F v (.list fs) := r'
  obtain ⟨b, zs, rfl, hB, dz⟩ := r'.of_lst
  refine ⟨p, b, xs, zs, rfl, rfl, hH', ok'.sub _ _ hB, ?_, ?_⟩
  · rw [dr.length, dz.length]; exact lineM hz
  · exact k { ω' with H := L2.upd ω'.H p (.lst (xs ++ zs)) } σ ((E.le_ l ok').upd hi ei es (dr'.append dz)) l.F es'
end
end MP
set_option Elab.async false
set_option linter.all false
set_option maxRecDepth 20000
/-! Part 9: objects changed; augmented names; minus; isinstance; three names at once; pop then append. -/
namespace MP
open PySem L2
open PySem.PyData (strOk)
section
variable {Γ : Gam} {X : Cx} {O : List Nat}
/-- the n-th object becomes b -/
def Wd.chg (ω : Wd) (n : Nat) (a : Addr) (o : HO) (b : Ob) : Wd := { ω with H := L2.upd ω.H a o, S := ω.S.set n b }
theorem Wd.chg_le {ω : Wd} {n : Nat} {a : Addr} {o : HO} {b : Ob} (h : ω.φ[n]? = some a) : Le ω (ω.chg n a o b) where
  F := Sub.refl _
  φ := List.prefix_refl _
  H := fun p u e np => by
    have hne : p ≠ a := fun z => np (z ▸ List.mem_of_getElem? h)
    show L2.upd ω.H a o p = some u
    rw [upd_ne hne]; exact e
  Hs := fun p e => by
    show L2.upd ω.H a o p ≠ none
    by_cases hq : p = a
    · rw [hq, upd_same]; simp
    · rw [upd_ne hq]; exact e
  nF := fun _ _ e => .inl e
  nφ := fun _ e => .inl e
theorem ObR.chg {ω : Wd} {n : Nat} {a c : Addr} {o : HO} {b d : Ob} (hne : c ≠ a) (r : ObR Γ ω c d) : ObR Γ (ω.chg n a o b) c d := by
  cases d with
  | cells xs => obtain ⟨vs, e, d⟩ := r; exact ⟨vs, by show L2.upd ω.H a o c = _; rw [upd_ne hne]; exact e, d⟩
  | inst c2 fs => obtain ⟨dx, vs, e, d, l⟩ := r; exact ⟨dx, vs, by show L2.upd ω.H a o c = _; rw [upd_ne hne]; exact e, d, l⟩
theorem nodup_get {α : Type} {l : List α} (h : l.Nodup) {i j : Nat} {a : α} (h1 : l[i]? = some a) (h2 : l[j]? = some a) : i = j := by
  obtain ⟨hi, e1⟩ := List.getElem?_eq_some_iff.mp h1
  obtain ⟨hj, e2⟩ := List.getElem?_eq_some_iff.mp h2
  have h := List.pairwise_iff_getElem.mp h
  rcases Nat.lt_trichotomy i j with q | q | q
  · exact absurd (e1.trans e2.symm) (h i j hi hj q)
  · exact q
  · exact absurd (e2.trans e1.symm) (h j i hj hi q)
theorem Wd.chg_ok {ω : Wd} (ok : WOk Γ ω) {n : Nat} {a : Addr} {o : HO} {b : Ob} (h : ω.φ[n]? = some a) (new : ObR Γ (ω.chg n a o b) a b) : WOk Γ (ω.chg n a o b) where
  sub := fun p u e => by
    have hne : p ≠ a := fun z => by
      subst z
      have e : ω.F p = some u := e
      rw [ok.fr p (List.mem_of_getElem? h)] at e
      cases e
    show L2.upd ω.H a o p = some u
    rw [upd_ne hne]; exact ok.sub p u e
  len := by show ω.φ.length = (ω.S.set n b).length; rw [List.length_set]; exact ok.len
  nd := ok.nd
  fr := ok.fr
  ob := fun k d e => by
    have e : (ω.S.set n b)[k]? = some d := e
    by_cases hk : n = k
    · subst hk
      have hl : n < ω.S.length := by
        have := (List.getElem?_eq_some_iff.mp e).1
        rwa [List.length_set] at this
      rw [List.getElem?_set_self hl] at e
      cases e
      exact ⟨a, h, new⟩
    · rw [List.getElem?_set_ne hk] at e
      obtain ⟨c, e1, r⟩ := ok.ob k d e
      exact ⟨c, e1, r.chg fun z => hk (by subst z; exact nodup_get ok.nd h e1)⟩
def putAt (fs : List Val) (i : Nat) (u : Val) : Option (List Val) := if i < fs.length then some (fs.set i u) else if i = fs.length then some (fs ++ [u]) else none
theorem putF_zip {f : Str} {v : V} : ∀ {ns : List Str} {vs : List V} {i : Nat}, ns.Nodup → ns[i]? = some f → i ≤ vs.length → putF f v (ns.zip vs) = ns.zip (if i < vs.length then vs.set i v else vs ++ [v])
  | [], vs, i, _, h, _ => by simp at h
  | n :: ns, [], i, nd, h, hl => by
    have : i = 0 := by simpa using hl
    subst this
    simp at h
    subst h
    simp [putF]
  | n :: ns, w :: vs, 0, nd, h, hl => by
    simp at h
    subst h
    simp [putF]
  | n :: ns, w :: vs, i + 1, nd, h, hl => by
    have h : ns[i]? = some f := by simpa using h
    have hne : n ≠ f := fun z => by
      subst z
      exact (List.nodup_cons.mp nd).1 (List.mem_of_getElem? h)
    have ih := putF_zip (v := v) (List.nodup_cons.mp nd).2 h (show i ≤ vs.length by simpa using hl)
    rw [List.zip_cons_cons]
    show (if n = f then _ else (n, w) :: putF f v (ns.zip vs)) = _
    rw [if_neg hne, ih]
    by_cases hi : i < vs.length
    · rw [if_pos hi, if_pos (by simpa using hi)]; simp
    · rw [if_neg hi, if_neg (by simpa using hi)]; simp
variable {m mo mi mv : Mean} {e o ie : Expr} {px apos cpos pos pos' : Pos} {x : Str}
/-- o.f = e -/
def sFldSet (c i : Nat) (mo mv : Mean) : SMean := fun ρ S => match mv ρ S with
  | some (u, S1) => match mo ρ S1 with
    | some (.obj n, S2) => match S2[n]? with
      | some (.inst c' fs) => if c' = c then (putAt fs i u).map fun fs' => .nx ρ (S2.set n (.inst c fs')) else none
      | _ => none
    | _ => none
  | none => none
theorem sFldSet_some {c i : Nat} {ρ : Env} {S : Store} {r : Out} (h : sFldSet c i mo mv ρ S = some r) : ∃ u S1 n S2 fs fs', mv ρ S = some (u, S1) ∧ mo ρ S1 = some (.obj n, S2) ∧ S2[n]? = some (.inst c fs) ∧ putAt fs i u = some fs' ∧ r = .nx ρ (S2.set n (.inst c fs')) := by
  unfold sFldSet at h
  split at h
  · rename_i u S1 e1
    split at h
    · rename_i n S2 e2
      split at h
      · rename_i c' fs e3
        split at h
        · rename_i e4
          subst e4
          cases e5 : putAt fs i u with
          | none => rw [e5] at h; cases h
          | some fs' => rw [e5] at h; cases h; exact ⟨u, S1, n, S2, fs, fs', e1, e2, e3, e5, rfl⟩
        · cases h
      · cases h
    · cases h
  · cases h
theorem ms_fld {c i : Nat} {f : Str} (hc : Cls X.K (Γ.cls c)) (hf : NoAttr X.K (Γ.cls c) f) (hnd : (Γ.flds c).Nodup) (hi : (Γ.flds c)[i]? = some f) (hz : (Γ.flds c).length < 1000) (hv : PE X e (T Γ O mv true)) (ho : PE X o (T Γ O mo true))
    (hs : swapsWith e (some (.Attribute o f pos')) pos.line X.env = pure false := by rfl) : PS X (.Assign [.Attribute o f pos'] e pos) (TS_ Γ O (sFldSet c i mo mv)) :=
  PS.mono (ps_fld ho hv hs) fun D σ H ⟨ω₀, ω, ρ, r, e1, E, e2, k⟩ => by
  obtain ⟨u, S1, n, S2, fs, fs', ev, eo, en, ep, rfl⟩ := sFldSet_some e2
  refine ⟨ω, ρ, u, S1, e1, E.ok, E.env, ev, fun ω1 v l1 ok1 es1 r1 => ?_⟩
  refine ⟨ω1, ρ, _, S2, rfl, ok1, E.env.le l1, by rw [es1]; exact eo, fun ω2 w l2 ok2 es2 r2 => ?_⟩
  obtain ⟨a, dx, vs, rfl, ha, hφ, hH, d, hlen⟩ := ok2.inst (by rw [es2]; exact en) r2
  have hvl := d.length
  refine ⟨a, Γ.cls c, dx, _, rfl, hH, hc, hf, ?_, ?_⟩
  · rw [List.length_zip]; omega
  · have hi2 : i ≤ vs.length := by
      unfold putAt at ep
      split at ep
      · omega
      · split at ep
        · omega
        · cases ep
    rw [putF_zip hnd hi hi2]
    have hfl : i < (Γ.flds c).length := (List.getElem?_eq_some_iff.mp hi).1
    have r1' : RV Γ ω2.F ω2.φ v u := (RT.rv r1).le l2
    have new : RVs Γ ω2.F ω2.φ (if i < vs.length then vs.set i v else vs ++ [v]) fs' ∧ fs'.length ≤ (Γ.flds c).length := by
      unfold putAt at ep
      by_cases h1 : i < fs.length
      · rw [if_pos h1] at ep
        cases ep
        rw [if_pos (by omega)]
        exact ⟨d.set r1' i, by rw [List.length_set]; exact hlen⟩
      · rw [if_neg h1] at ep
        by_cases h2 : i = fs.length
        · rw [if_pos h2] at ep
          cases ep
          rw [if_neg (by omega)]
          exact ⟨d.append (.cons r1' .nil), by simp; omega⟩
        · rw [if_neg h2] at ep
          cases ep
    have hok := Wd.chg_ok (o := .ins (Γ.cls c) dx ((Γ.flds c).zip (if i < vs.length then vs.set i v else vs ++ [v]))) (b := .inst c fs') ok2 hφ ⟨dx, _, upd_same, new.1, new.2⟩
    refine k (ω2.chg n a _ (.inst c fs')) σ (((E.le_ l1 ok1).le_ l2 ok2).le_ (Wd.chg_le hφ) hok) (l1.F.trans l2.F) ?_
    show ω2.S.set n _ = S2.set n _
    rw [es2]
/-- o[i] = e, o an object of cells -/
def sCell (mo mi mv : Mean) : SMean := fun ρ S => match mv ρ S with
  | some (.d d, S1) => match mo ρ S1 with
    | some (.obj n, S2) => match mi ρ S2 with
      | some (.d (.int i), S3) => match S3[n]? with
        | some (.cells xs) => (ixN xs.length i).map fun j => .nx ρ (S3.set n (.cells (xs.set j d)))
        | _ => none
      | _ => none
    | _ => none
  | _ => none
theorem sCell_some {ρ : Env} {S : Store} {r : Out} (h : sCell mo mi mv ρ S = some r) : ∃ d S1 n S2 i S3 xs j, mv ρ S = some (.d d, S1) ∧ mo ρ S1 = some (.obj n, S2) ∧ mi ρ S2 = some (.d (.int i), S3) ∧ S3[n]? = some (.cells xs) ∧ ixN xs.length i = some j ∧ r = .nx ρ (S3.set n (.cells (xs.set j d))) := by
  unfold sCell at h
  split at h
  · rename_i d S1 e1
    split at h
    · rename_i n S2 e2
      split at h
      · rename_i i S3 e3
        split at h
        · rename_i xs e4
          cases e5 : ixN xs.length i with
          | none => rw [e5] at h; cases h
          | some j => rw [e5] at h; cases h; exact ⟨d, S1, n, S2, i, S3, xs, j, e1, e2, e3, e4, e5, rfl⟩
        · cases h
      · cases h
    · cases h
  · cases h
theorem ms_cell (hv : PE X e (T Γ O mv true)) (ho : PE X o (T Γ O mo true)) (hi : PE X ie (T Γ O mi true))
    (hs : swapsWithSole [.Subscript o ie pos'] e pos.line X.env = pure false := by rfl) (hw : swappedStores [.Subscript o ie pos'] e X.env = pure none := by rfl)
    (h1 : (assignEach [.Subscript o ie pos'] X.env).map (·.2) = [assign (.Subscript o ie pos') X.env] := by rfl)
    (ha : ∀ v, assign (.Subscript o ie pos') X.env v = (do
      let ov ← holding [v] (eval o X.env)
      let iv ← holding [v, ov] (eval ie X.env)
      standAt pos'
      holding [v, ov, iv] (setItem ov iv v)
      release [v, ov, iv] []) := by intro _; rfl) : PS X (.Assign [.Subscript o ie pos'] e pos) (TS_ Γ O (sCell mo mi mv)) :=
  PS.mono (ps_asg hv (pg_sub ho hi set_list ha) hs hw h1) fun D σ H ⟨ω₀, ω, ρ, r, e1, E, e2, k⟩ => by
  obtain ⟨d, S1, n, S2, i, S3, xs, j, ev, eo, ei, en, ej, rfl⟩ := sCell_some e2
  refine ⟨ω, ρ, _, S1, e1, E.ok, E.env, ev, fun ω1 v l1 ok1 es1 r1 => ?_⟩
  refine ⟨ω1, ρ, _, S2, rfl, ok1, E.env.le l1, by rw [es1]; exact eo, fun ω2 w l2 ok2 es2 r2 => ?_⟩
  refine ⟨ω2, ρ, _, S3, rfl, ok2, (E.env.le l1).le l2, by rw [es2]; exact ei, fun ω3 z l3 ok3 es3 r3 => ?_⟩
  obtain ⟨a, hφ, rfl⟩ := (RT.rv r2).le l3
  obtain ⟨a', e', vs, hH, dr⟩ := ok3.ob n _ (by rw [es3]; exact en)
  rw [hφ] at e'
  cases e'
  have rz : z = .int i := DR.of_int r3
  have rv : DR Γ.K ω3.F v d := DR.sub (DR.sub r1 l2.F) l3.F
  refine ⟨a, vs, i, j, rfl, rz, hH, by rw [dr.length]; exact ej, ?_⟩
  have hok := Wd.chg_ok (o := .lst (vs.set j v)) (b := .cells (xs.set j d)) ok3 hφ ⟨_, upd_same, dr.set j rv⟩
  refine k (ω3.chg n a _ _) σ ((((E.le_ l1 ok1).le_ l2 ok2).le_ l3 ok3).le_ (Wd.chg_le hφ) hok) ((l1.F.trans l2.F).trans l3.F) ?_
  show ω3.S.set n _ = S3.set n _
  rw [es3]
/-- own[i] = e -/
def sOwnSet (s : Nat) (mi mv : Mean) : SMean := fun ρ S => match mv ρ S with
  | some (.d d, S1) => match mi ρ S1 with
    | some (.d (.int i), S2) => match ρ.getD s none with
      | some (.d (.list xs)) => (ixN xs.length i).map fun j => .nx (ρ.set s (some (.d (.list (xs.set j d))))) S2
      | _ => none
    | _ => none
  | _ => none
theorem ms_ownSet {s : Nat} (hs0 : s ∈ O) (hv : PE X e (T Γ O mv true)) (pv : PE X (.Name x px) (tVar s)) (hi : PE X ie (T Γ O mi true))
    (hs : swapsWithSole [.Subscript (.Name x px) ie pos'] e pos.line X.env = pure false := by rfl) (hw : swappedStores [.Subscript (.Name x px) ie pos'] e X.env = pure none := by rfl)
    (h1 : (assignEach [.Subscript (.Name x px) ie pos'] X.env).map (·.2) = [assign (.Subscript (.Name x px) ie pos') X.env] := by rfl)
    (ha : ∀ v, assign (.Subscript (.Name x px) ie pos') X.env v = (do
      let ov ← holding [v] (eval (.Name x px) X.env)
      let iv ← holding [v, ov] (eval ie X.env)
      standAt pos'
      holding [v, ov, iv] (setItem ov iv v)
      release [v, ov, iv] []) := by intro _; rfl) : PS X (.Assign [.Subscript (.Name x px) ie pos'] e pos) (TS_ Γ O (sOwnSet s mi mv)) :=
  PS.mono (ps_asg hv (pg_sub pv hi set_list ha) hs hw h1) fun D σ H ⟨ω₀, ω, ρ, r, e1, E, e2, k⟩ => by
  have key : ∃ d S1 i S2 xs j, mv ρ ω.S = some (.d d, S1) ∧ mi ρ S1 = some (.d (.int i), S2) ∧ ρ[s]? = some (some (.d (.list xs))) ∧ ixN xs.length i = some j ∧ r = .nx (ρ.set s (some (.d (.list (xs.set j d))))) S2 := by
    unfold sOwnSet at e2
    split at e2
    · rename_i d S1 e3
      split at e2
      · rename_i i S2 e4
        split at e2
        · rename_i xs e5
          cases e6 : ixN xs.length i with
          | none => rw [e6] at e2; cases e2
          | some j => rw [e6] at e2; cases e2; exact ⟨d, S1, i, S2, xs, j, e3, e4, getD_some e5, e6, rfl⟩
        · cases e2
      · cases e2
    · cases e2
  obtain ⟨d, S1, i, S2, xs, j, ev, ei, en, ej, rfl⟩ := key
  obtain ⟨p, vs, ds', eu, es, hH, dr, hF, hφ⟩ := E.env.own s _ en hs0
  cases eu
  refine ⟨ω, ρ, _, S1, e1, E.ok, E.env, ev, fun ω1 v l1 ok1 es1 r1 => ?_⟩
  refine ⟨.ref p, es, ω1, ρ, _, S2, rfl, ok1, E.env.le l1, by rw [es1]; exact ei, fun ω2 z l2 ok2 es2 r2 => ?_⟩
  have rz : z = .int i := DR.of_int r2
  have rv : DR Γ.K ω2.F v d := DR.sub r1 l2.F
  have hH2 := (l1.trans l2).H p _ hH hφ
  refine ⟨p, vs, i, j, rfl, rz, hH2, by rw [dr.length]; exact ej, ?_⟩
  exact k { ω2 with H := L2.upd ω2.H p (.lst (vs.set j v)) } σ (((E.le_ l1 ok1).le_ l2 ok2).upd hs0 en es ((dr.sub (l1.F.trans l2.F)).set j rv)) (l1.F.trans l2.F) es2
/-! ### name op= e -/
def sAug (f : Int → Int → Int) (i : Nat) (m : Mean) : SMean := fun ρ S => match ρ.getD i none with
  | some (.d (.int a)) => match m ρ S with
    | some (.d (.int b), S1) => some (.nx (ρ.set i (some (.d (.int (f a b))))) S1)
    | _ => none
  | _ => none
theorem ms_aug {i : Nat} {op : Operator} {f : Int → Int → Int} (c : Ctx Γ X) (ho : PIp X op (ipI f)) (hO : i ∉ O) (he : PE X e (T Γ O m true)) (hi : X.N[i]? = some x := by rfl) (hx : Loc X.env.scope x := by first | exact Or.inl rfl | exact Or.inr rfl)
    (hf : X.fn x = true ∨ X.env.scope.names.lookup x = some .local := by first | exact .inl rfl | exact .inr rfl) : PS X (.AugAssign (.Name x pos') op e pos) (TS_ Γ O (sAug f i m)) :=
  PS.mono (ps_aug c.nd hi hx he ho hf) fun D σ H ⟨ω₀, ω, ρ, r, e1, E, e2, k⟩ => by
  have key : ∃ a b S1, ρ[i]? = some (some (.d (.int a))) ∧ m ρ ω.S = some (.d (.int b), S1) ∧ r = .nx (ρ.set i (some (.d (.int (f a b))))) S1 := by
    unfold sAug at e2
    split at e2
    · rename_i a e3
      split at e2
      · rename_i b S1 e4
        cases e2
        exact ⟨a, b, S1, getD_some e3, e4, rfl⟩
      · cases e2
    · cases e2
  obtain ⟨a, b, S1, ea, em, rfl⟩ := key
  obtain ⟨v, ev, rv⟩ := E.env.var i _ ea hO
  refine ⟨v, ev, ω, ρ, _, S1, e1, E.ok, E.env, em, fun ω1 w l1 ok1 es1 r1 => ⟨a, b, DR.of_int rv, DR.of_int r1, ?_⟩⟩
  exact k ω1 _ ((E.le_ l1 ok1).set hO (u := .d (.int (f a b))) (DR.int _)) l1.F es1
theorem ms_augAdd {i : Nat} (c : Ctx Γ X) (hO : i ∉ O) (he : PE X e (T Γ O m true)) (hi : X.N[i]? = some x := by rfl) (hx : Loc X.env.scope x := by first | exact Or.inl rfl | exact Or.inr rfl)
    (hf : X.fn x = true ∨ X.env.scope.names.lookup x = some .local := by first | exact .inl rfl | exact .inr rfl) : PS X (.AugAssign (.Name x pos') .Add e pos) (TS_ Γ O (sAug (fun i j => i + j) i m)) := ms_aug c ip_add hO he hi hx hf
theorem ms_augSub {i : Nat} (c : Ctx Γ X) (hO : i ∉ O) (he : PE X e (T Γ O m true)) (hi : X.N[i]? = some x := by rfl) (hx : Loc X.env.scope x := by first | exact Or.inl rfl | exact Or.inr rfl)
    (hf : X.fn x = true ∨ X.env.scope.names.lookup x = some .local := by first | exact .inl rfl | exact .inr rfl) : PS X (.AugAssign (.Name x pos') .Sub e pos) (TS_ Γ O (sAug (fun i j => i - j) i m)) := ms_aug c ip_sub hO he hi hx hf
/-- -e of an int -/
def eNeg (a : Mean) : Mean := fun ρ S => match a ρ S with
  | some (.d (.int i), S1) => some (.d (.int (-i)), S1)
  | _ => none
theorem me_neg (ha : PE X e (T Γ O m true)) : PE X (.UnaryOp .USub e pos) (T Γ O (eNeg m) true) := PE.mono (pe_un un_neg ha) fun σ H Q ⟨ω, ρ, c, S', e1, ok, E, e2, k⟩ => by
  unfold eNeg at e2
  split at e2
  · rename_i i S1 em
    cases e2
    exact ⟨ω, ρ, _, _, e1, ok, E, em, fun ω1 v l1 ok1 es1 r1 => ⟨i, DR.of_int r1, k ω1 _ l1 ok1 es1 (DR.int (-i))⟩⟩
  · cases e2
end
end MP
set_option Elab.async false
set_option linter.all false
set_option maxRecDepth 20000
/-! Part 10: sorted of a list of data; isinstance; three names at once; pop then append; the place in a list; a module's tuple. -/
namespace MP
open PySem L2
open PySem.PyData (strOk)
open PySem.W (EachIs alike AllAlike Sortable dataLe)
def isT1 : D → Bool
  | .tuple (_ :: _) => true
  | _ => false
def notTN : D → Bool
  | .none => false
  | .tuple _ => false
  | _ => true
/-- the list can be sorted -/
def sortOk (ds : List D) : Bool := (ds.all fun d => ds.all fun e => alike d e) && (ds.all isT1 || ds.all notTN) && ds.all okD
def sortD (ds : List D) : List D := ds.mergeSort (dataLe false id)
theorem isT1_eq {d : D} (h : isT1 d = true) : ∃ x r, d = .tuple (x :: r) := by
  unfold isT1 at h
  split at h
  · exact ⟨_, _, rfl⟩
  · cases h
theorem notTN_eq {d : D} (h : notTN d = true) : d ≠ .none ∧ ∀ xs, d ≠ .tuple xs := by
  unfold notTN at h
  split at h
  · cases h
  · cases h
  · rename_i h1 h2; exact ⟨h1, h2⟩
theorem sortOk_use {ds : List D} (h : sortOk ds = true) : AllAlike ds ∧ Sortable ds ∧ ∀ d ∈ ds, d.depth ≤ 1500 := by
  unfold sortOk at h
  rw [Bool.and_eq_true, Bool.and_eq_true, Bool.or_eq_true] at h
  obtain ⟨⟨h1, h2⟩, h3⟩ := h
  refine ⟨fun d hd d' hd' => List.all_eq_true.mp (List.all_eq_true.mp h1 d hd) d' hd', ?_, fun d hd => of_decide_eq_true (List.all_eq_true.mp h3 d hd)⟩
  rcases h2 with h2 | h2
  · exact .inl fun d hd => isT1_eq (List.all_eq_true.mp h2 d hd)
  · exact .inr fun d hd => notTN_eq (List.all_eq_true.mp h2 d hd)
section
variable {Γ : Gam} {X : Cx} {O : List Nat}
theorem each_reads {K : PySem.W.Frag} {pins : List (Addr × Obj)} {σ : St} {F H : Hp} {s : Shared} (I : Inv X pins σ H s) (hK : K = X.K) (sF : Sub F H) : ∀ {ds : List D} {xs : List V} {its : List Value}, DRs K F xs ds → Vals xs its →
    EachIs (fun v b => ∃ x, RelV x v ∧ DR K F x b) its ds ∧ EachIs (fun v b => ∃ as, Reads s.heap v (id b) as) its ds := by
  intro ds
  induction ds with
  | nil =>
    intro xs its r q
    cases r
    cases q
    exact ⟨EachIs.nil, EachIs.nil⟩
  | cons d ds ih =>
    intro xs its r q
    obtain ⟨y, ys, rfl, h, k⟩ := r.of_cons
    cases q with
    | cons rv rvs =>
      obtain ⟨i1, i2⟩ := ih k rvs
      subst hK
      exact ⟨EachIs.cons ⟨y, rv, h⟩ i1, EachIs.cons (Dp.reads I d y _ (h.sub sF).dp rv) i2⟩
theorem each_back {K : PySem.W.Frag} {F : Hp} : ∀ {ds : List D} {its : List Value}, EachIs (fun v b => ∃ x, RelV x v ∧ DR K F x b) its ds → ∃ xs, Vals xs its ∧ DRs K F xs ds
  | _, _, EachIs.nil => ⟨[], Paired.nil, DRs.nil⟩
  | _, _, EachIs.cons ⟨x, h, k⟩ t => by
    obtain ⟨xs, h2, k2⟩ := each_back t
    exact ⟨x :: xs, Paired.cons h h2, DRs.cons k k2⟩
def rSortD (K : PySem.W.Frag) : List V → Hp → VK → Prop := fun vs H Q => ∃ (F : Hp) (a : Addr) (xs : List V) (ds : List D), vs = [V.ref a] ∧ SqL K H a xs ∧ Sub F H ∧ DRs K F xs ds ∧ sortOk ds = true ∧
  ∀ (ys : List V) (p : Addr), DRs K F ys (sortD ds) → H p = none → Q (.ref p) (L2.upd H p (.lst ys))
theorem cr_sortD (c : Ctx Γ X) : CallR X (.builtin "sorted") (rSortD X.K) := by
  intro pins s σ H vs us Q I r h
  obtain ⟨F, a, xs, ds, rfl, hs, sF, hd, hok, q⟩ := h
  obtain ⟨its, rv, hl, hz⟩ := I.list hs
  rw [Vals.ref1 r]
  obtain ⟨e1, e2⟩ := each_reads I rfl sF hd rv
  obtain ⟨s1, s2, s3⟩ := sortOk_use hok
  have hlen : ds.length ≤ sizeLine := by rw [← hd.length]; exact hz
  have hm : ds.map id = ds := List.map_id ds
  refine PySem.W.sorted_data (enc := id) hl.isList e1 e2 (by rw [hm]; exact s1) (by rw [hm]; exact s2) hlen (fun b hb => ?_) fun out ho eo => ?_
  · have := s3 b hb
    have := c.units
    show X.A.units + 2 + (id b).depth < cLine
    simp only [id]
    omega
  · obtain ⟨ys, rv2, dr⟩ := each_back eo
    obtain ⟨ep, he⟩ := PyProof.Rows.sortedAll_at s.heap its (List.toArray out)
    have hyl : ys.length ≤ sizeLine := by rw [rv2.length, ho]; exact hlen
    exact ⟨.ref _, L2.upd H (s.heap.objs.size + 1) (.lst ys), I.laid (t' := s.toks) (fun _ _ => PyProof.Rows.sortedAll_old) (Nat.le_succ _) ⟨hyl, out, ep, rv2, he⟩, rfl, q ys _ dr (I.hok.fresh (Nat.le_succ _))⟩
def opSorted : Val → Option D
  | .d (.list ds) => if sortOk ds then some (.list (sortD ds)) else none
  | _ => none
theorem sv_sorted (c : Ctx Γ X) : Serves1 Γ (rSortD X.K) opSorted := fun ω x u z Q ok r h q => by
  cases u with
  | obj n => cases h
  | scr ns => cases h
  | d y =>
    cases y with
    | list ds =>
      simp only [opSorted] at h
      split at h
      · rename_i hok
        cases h
        obtain ⟨p, vs, rfl, e, d⟩ := DT.list ok r
        rw [← c.hK]
        exact ⟨ω.F, p, vs, ds, rfl, .of e, ok.sub, d, hok, fun ys p2 dr hp => new_list ok dr q hp⟩
      · cases h
    | _ => cases h
variable {a b e : Expr} {ma mb m : Mean} {c1 : Bool} {p pos pos' px : Pos} {x : Str}
theorem me_sorted (c : Ctx Γ X) (hg : Gl X "sorted") (ha : PE X a (T Γ O ma c1)) (na : starEach [a] X.env = (false, eval a X.env) :: starEach [] X.env := by rfl) : PE X (.Call (.Name "sorted" p) [a] [] pos) (T Γ O (eU opSorted ma) true) :=
  me_b1 (cr_sortD c) (sv_sorted c) c.b_sorted (by decide +kernel) hg ha (by decide) (by decide) na
/-! ### isinstance -/
def tyD : D → String
  | .none => "NoneType"
  | .bool _ => "bool"
  | .int _ => "int"
  | .str _ => "str"
  | .list _ => "list"
  | .tuple _ => "tuple"
  | .dict _ => "dict"
def isiT (a t : String) : Bool := a == t || (a == "bool" && t == "int")
def isiD (d : D) (t : String) : Bool := isiT (tyD d) t
def eIsi (t : String) (a : Mean) : Mean := fun ρ S => match a ρ S with
  | some (.d x, S1) => some (.d (.bool (isiD x t)), S1)
  | _ => none
/-- a class that isinstance asks about -/
def KitT (t : String) : Prop := ∀ a ∈ ["NoneType", "bool", "int", "str", "list", "tuple"], kitB a t = some (isiT a t)
theorem kitT_tuple : KitT "tuple" := by unfold KitT; decide +kernel
theorem kitT_list : KitT "list" := by unfold KitT; decide +kernel
theorem kitT_bool : KitT "bool" := by unfold KitT; decide +kernel
theorem kitT_int : KitT "int" := by unfold KitT; decide +kernel
theorem kitT_str : KitT "str" := by unfold KitT; decide +kernel
theorem tyD_in {d : D} (h : ∀ kvs, d ≠ .dict kvs) : tyD d ∈ ["NoneType", "bool", "int", "str", "list", "tuple"] := by
  cases d <;> first | exact absurd rfl (h _) | simp [tyD]
theorem tyx_seqT {H : Hp} {K : PySem.W.Frag} {a : Addr} {xs : List V} (h : SqT K H a xs) : TyX K H (.ref a) (.type "tuple") := by
  rcases h with (h | ⟨o, h⟩) | ⟨o, its, n, h, hc, _⟩
  · exact .base (.tup h)
  · exact .fTuple h
  · exact .kTuple h hc
theorem DR.tyx {K : PySem.W.Frag} {H : Hp} {v : V} {d : D} (h : DR K H v d) : TyX K H v (.type (tyD d)) := by
  cases h with
  | non => exact .base .non
  | bl b => exact .base (.bl b)
  | int i => exact .base (.int i)
  | str k => exact .base (.str _)
  | lst h _ => exact .base (.lst h)
  | tup h _ => exact tyx_seqT h
theorem me_isi {t : String} {y : Str} {py : Pos} (c : Ctx Γ X) (kt : KitT t) (hg : Gl X "isinstance") (hgt : Gl X y) (hmt : X.mg y = none) (hbt : bootBuiltins y = some (.type t)) (ha : PE X a (T Γ O ma c1)) (hn : y ≠ "__name__" := by decide) (hd : (y == ("__debug__" : Str)) = false := by decide)
    (n1 : starEach [a, .Name y py] X.env = (false, eval a X.env) :: starEach [.Name y py] X.env := by rfl) (n2 : starEach [.Name y py] X.env = (false, eval (.Name y py) X.env) :: starEach [] X.env := by rfl)
    (hpl : (backTo pos (starEach [.Name y py] X.env)).any (·.1) = false := by rfl) : PE X (.Call (.Name "isinstance" p) [a, .Name y py] [] pos) (T Γ O (eIsi t ma) true) :=
  PE.mono (pe_callB call_isi hg c.b_isi (by decide +kernel) (pa_cons (PM.weak ha) (pa_cons (pe_bltn (v := .ty t) hgt hmt hbt rfl hn hd) pa_nil n2) n1) (by decide) (by decide) n1 hpl) fun σ H Q ⟨ω, ρ, w, S', e1, ok, E, e2, k⟩ => by
  unfold eIsi at e2
  split at e2
  · rename_i d S1 em
    cases e2
    refine ⟨ω, ρ, _, _, e1, ok, E, em, fun ω1 v l1 ok1 es1 r1 => ?_⟩
    have r2 : DR Γ.K ω1.H v d := DT.inH ok1 r1
    refine ⟨v, .ty t, _, .type t, isiD d t, rfl, .ty t, ?_, kit_ty (kt _ (tyD_in fun kvs z => by subst z; exact r2.no_dict)), k ω1 _ l1 ok1 es1 (DR.bl _)⟩
    rw [← c.hK]
    exact r2.tyx
  · cases e2
/-! ### a, b, c = x, y, z -/
theorem ms_par3 {i j l : Nat} {x y z : Str} {d : Expr} {ms : Means} {px py pz pt : Pos} {kt k2 : Nat} {pt2 : Pos} (c : Ctx Γ X) (hO : ∀ k ∈ [i, j, l], k ∉ O) (hij : i ≠ j) (hil : i ≠ l) (hjl : j ≠ l) (ha : PA X [a, b, d] (TAs Γ O ms)) (hl : aLen [a, b, d] ms)
    (hi : X.N[i]? = some x := by rfl) (hj : X.N[j]? = some y := by rfl) (hk : X.N[l]? = some z := by rfl)
    (hx : X.env.scope.names.lookup x = some .local := by rfl) (hy : X.env.scope.names.lookup y = some .local := by rfl) (hz : X.env.scope.names.lookup z = some .local := by rfl)
    (hw : swappedStores [.Tuple [.Name x px, .Name y py, .Name z pz] kt pt] (.Tuple [a, b, d] k2 pt2) X.env = pure (some [x, y, z]) := by rfl)
    (hs : swapsWithSole [.Tuple [.Name x px, .Name y py, .Name z pz] kt pt] (.Tuple [a, b, d] k2 pt2) pos.line X.env = pure false := by rfl) :
    PS X (.Assign [.Tuple [.Name x px, .Name y py, .Name z pz] kt pt] (.Tuple [a, b, d] k2 pt2) pos) (TS_ Γ O (sPar [i, j, l] ms)) := PS.mono (L2.ps_par3 c.calm c.nd hi hj hk hij hil hjl hx hy hz ha hw hs) fun D σ H ⟨ω₀, ω, ρ, r, e1, E, e2, k⟩ => by
  unfold sPar at e2
  split at e2
  · rename_i us S1 em
    split at e2
    · rename_i hlen
      cases e2
      refine ⟨ω, ρ, us, S1, e1, E.ok, E.env, em, fun ω' vs l' ok' es r' => ?_⟩
      have hvl : vs.length = 3 := by rw [r'.length]; exact hlen
      obtain ⟨v, w, u, rfl⟩ : ∃ v w u, vs = [v, w, u] := by
        match vs, hvl with
        | [v, w, u], _ => exact ⟨v, w, u, rfl⟩
      refine ⟨v, w, u, rfl, ?_⟩
      exact k ω' _ ((E.le_ l' ok').setAll hO r') l'.F es
    · cases e2
  · cases e2
/-! ### own.append(other.pop(e)) -/
def sPopApp (i j : Nat) (m : Mean) : SMean := fun ρ S => match m ρ S with
  | some (.d (.int n), S1) => match ρ.getD i none, ρ.getD j none with
    | some (.d (.list ds)), some (.d (.list es)) => if ds.length < 1000000 then
        (if es.length ≤ 1000000 then (match ixN es.length n with
          | some k => match es[k]? with
            | some d => some (.nx ((ρ.set j (some (.d (.list (es.eraseIdx k))))).set i (some (.d (.list (ds ++ [d]))))) S1)
            | none => none
          | none => none) else none) else none
    | _, _ => none
  | _ => none
end
end MP
set_option Elab.async false
set_option linter.all false
set_option maxRecDepth 20000
/-! Part 11: own.append(other.pop(e)); the place in a list; a module's tuple. -/
namespace MP
open PySem L2
open PySem.PyData (strOk)
section
variable {Γ : Gam} {X : Cx} {O : List Nat}
variable {a b e : Expr} {ma mb m : Mean} {c1 c2 : Bool} {p pos pos' px apos cpos : Pos} {x : Str}
theorem sPopApp_some {i j : Nat} {ρ : Env} {S : Store} {r : Out} (h : sPopApp i j m ρ S = some r) : ∃ n S1 ds es k d, m ρ S = some (.d (.int n), S1) ∧ ρ[i]? = some (some (.d (.list ds))) ∧ ρ[j]? = some (some (.d (.list es))) ∧ ds.length < 1000000 ∧ es.length ≤ 1000000 ∧ ixN es.length n = some k ∧ es[k]? = some d ∧
    r = .nx ((ρ.set j (some (.d (.list (es.eraseIdx k))))).set i (some (.d (.list (ds ++ [d]))))) S1 := by
  unfold sPopApp at h
  split at h
  · rename_i n S1 e1
    split at h
    · rename_i ds es e2 e3
      split at h
      · rename_i e4
        split at h
        · rename_i e5
          split at h
          · rename_i k e6
            split at h
            · rename_i d e7
              cases h
              exact ⟨n, S1, ds, es, k, d, e1, getD_some e2, getD_some e3, e4, e5, e6, e7, rfl⟩
            · cases h
          · cases h
        · cases h
      · cases h
    · cases h
  · cases h
theorem ms_popApp {i j : Nat} {y : Str} {py ap2 cp2 : Pos} (c : Ctx Γ X) (hij : i ≠ j) (hi : i ∈ O) (hj : j ∈ O) (pv : PE X (.Name x px) (tVar i)) (pw : PE X (.Name y py) (tVar j)) (he : PE X e (T Γ O m true))
    (hs : swapsWith (.Call (.Attribute (.Name x px) "append" apos) [.Call (.Attribute (.Name y py) "pop" ap2) [e] [] cp2] [] cpos) none pos.line X.env = pure false := by rfl)
    (hbase : attributeBase (.Name x px) "append" X.env (eval (.Name x px) X.env) = eval (.Name x px) X.env := by rfl)
    (hfew : ((backTo cpos (starEach [.Call (.Attribute (.Name y py) "pop" ap2) [e] [] cp2] X.env)).all (fun x => !x.1) && (backToKw cpos (keywordEach [] X.env)).all (fun x => x.1.isSome)
      && decide ([Expr.Call (.Attribute (.Name y py) "pop" ap2) [e] [] cp2].length + ([] : List Keyword).length + (if ([] : List Keyword).isEmpty then 0 else 1) < 30)) = true := by rfl)
    (hline : (apos.endLine == cpos.line) = true := by rfl) (hst : starEach [.Call (.Attribute (.Name y py) "pop" ap2) [e] [] cp2] X.env = (false, eval (.Call (.Attribute (.Name y py) "pop" ap2) [e] [] cp2) X.env) :: starEach [] X.env := by rfl)
    (hplain : (backTo cpos (starEach [] X.env)).any (·.1) = false := by rfl)
    (kbase : attributeBase (.Name y py) "pop" X.env (eval (.Name y py) X.env) = eval (.Name y py) X.env := by rfl)
    (kfew : ((backTo cp2 (starEach [e] X.env)).all (fun x => !x.1) && (backToKw cp2 (keywordEach [] X.env)).all (fun x => x.1.isSome)
      && decide ([e].length + ([] : List Keyword).length + (if ([] : List Keyword).isEmpty then 0 else 1) < 30)) = true := by rfl)
    (kline : (ap2.endLine == cp2.line) = true := by rfl) (kst : starEach [e] X.env = (false, eval e X.env) :: starEach [] X.env := by rfl) (kplain : (backTo cp2 (starEach [] X.env)).any (·.1) = false := by rfl) :
    PS X (.Expr (.Call (.Attribute (.Name x px) "append" apos) [.Call (.Attribute (.Name y py) "pop" ap2) [e] [] cp2] [] cpos) pos) (TS_ Γ O (sPopApp i j m)) :=
  PS.mono (ps_expr (pe_bm PySem.F.plainAttrs_list PySem.F.slot_list_append PySem.F.type_list_append mt_append pv
    (pa_cons (pe_bm PySem.F.plainAttrs_list PySem.F.slot_list_pop PySem.F.type_list_pop mt_popAt pw (pa_cons he pa_nil kst) kbase kfew kline kst kplain) pa_nil hst) hbase hfew hline hst hplain) hs) fun D σ H ⟨ω₀, ω, ρ, r, e1, E, e2, k⟩ => by
  obtain ⟨n, S1, ds, es, kk, d, em, ei, ej, hz, hsm, hix, hd, rfl⟩ := sPopApp_some e2
  obtain ⟨p, xs, ds', eu, es1, hH, dr, hF, hφ⟩ := E.env.own i _ ei hi
  cases eu
  obtain ⟨q, ys, es', eu, es2, hH2, dr2, hF2, hφ2⟩ := E.env.own j _ ej hj
  cases eu
  have hne : q ≠ p := fun z => by
    subst z
    exact E.env.apart i j _ _ q hi hj hij ei ej es1 es2
  subst e1
  refine ⟨.ref p, es1, .inl ⟨rfl, _, SqL.of hH⟩, .ref q, es2, .inl ⟨rfl, _, SqL.of hH2⟩, ω, ρ, _, S1, rfl, E.ok, E.env, em, fun ω' v l ok' es3 r' => ?_⟩
  obtain ⟨hs1, hs2, hs3, hs4⟩ := ixN_seq hix
  have g1 := l.H p _ hH hφ
  have g2 := l.H q _ hH2 hφ2
  have dr' := dr.sub l.F
  have dr2' := dr2.sub l.F
  obtain ⟨w, hw, rw'⟩ := dr2'.get hd
  have E1 := (E.le_ l ok').upd hj ej es2 (dr2'.eraseIdx kk)
  have hlen : ys.length = es.length := dr2.length
  refine ⟨q, ys, n, kk, w, rfl, ?_, g2, ?_, ?_, by rw [hlen]; exact hs1, hw, ?_⟩
  · rw [show v = .int n from DR.of_int r']
  · have : (2:Int)^63 = 9223372036854775808 := by decide
    omega
  · have : (2:Int)^63 = 9223372036854775808 := by decide
    omega
  · refine ⟨p, xs, w, rfl, rfl, by rw [upd_ne (Ne.symm hne)]; exact g1, by rw [dr.length, sizeLine_eq]; omega, ?_⟩
    have ei' : (ρ.set j (some (Val.d (.list (es.eraseIdx kk)))))[i]? = some (some (.d (.list ds))) := by rw [List.getElem?_set_ne (Ne.symm hij)]; exact ei
    exact k _ σ (E1.upd hi ei' es1 (dr'.append (.cons rw' .nil))) l.F es3
/-! ### own.index(e) -/
def eIndex (a b : Mean) : Mean := fun ρ S => match a ρ S with
  | some (.d (.list ds), S1) => match b ρ S1 with
    | some (.d d, S2) => if (PyData.list ds).depth ≤ 64 ∧ d.depth ≤ 64 then (ds.findIdx? fun z => PyData.eqv z d).map fun j => (.d (.int (j : Nat)), S2) else none
    | _ => none
  | _ => none
theorem me_index {ap2 cp2 : Pos} {o : Expr} (c : Ctx Γ X) (ho : PE X o (T Γ O ma c1)) (he : PE X e (T Γ O mb c2))
    (kbase : attributeBase o "index" X.env (eval o X.env) = eval o X.env := by rfl)
    (kfew : ((backTo cp2 (starEach [e] X.env)).all (fun x => !x.1) && (backToKw cp2 (keywordEach [] X.env)).all (fun x => x.1.isSome)
      && decide ([e].length + ([] : List Keyword).length + (if ([] : List Keyword).isEmpty then 0 else 1) < 30)) = true := by rfl)
    (kline : (ap2.endLine == cp2.line) = true := by rfl) (kst : starEach [e] X.env = (false, eval e X.env) :: starEach [] X.env := by rfl) (kplain : (backTo cp2 (starEach [] X.env)).any (·.1) = false := by rfl) :
    PE X (.Call (.Attribute o "index" ap2) [e] [] cp2) (T Γ O (eIndex ma mb) true) :=
  PE.mono (pe_bm PySem.F.plainAttrs_list PySem.F.slot_list_index PySem.F.type_list_index (mt_indexD (by have := c.units; omega)) (PM.weak ho) (pa_cons (PM.weak he) pa_nil kst) kbase kfew kline kst kplain) fun σ H Q ⟨ω, ρ, w, S', e1, ok, E, e2, k⟩ => by
  unfold eIndex at e2
  split at e2
  · rename_i ds S1 ea
    split at e2
    · rename_i d S2 eb
      split at e2
      · rename_i hdp
        cases ei : ds.findIdx? (fun z => PyData.eqv z d) with
        | none => rw [ei] at e2; cases e2
        | some j =>
          rw [ei] at e2
          cases e2
          refine ⟨ω, ρ, _, S1, e1, ok, E, ea, fun ω1 v1 l1 ok1 es1 r1 => ?_⟩
          obtain ⟨q, vs, rfl, hH, dr⟩ := DT.list ok1 r1
          refine ⟨.inl ⟨rfl, _, SqL.of hH⟩, ω1, ρ, _, S', rfl, ok1, E.le l1, by rw [es1]; exact eb, fun ω2 v2 l2 ok2 es2 r2 => ?_⟩
          have R1 : DR Γ.K ω2.H (.ref q) (.list ds) := DT.inH ok2 (DT.le l2 r1)
          have R2 : DR Γ.K ω2.H v2 d := DT.inH ok2 r2
          obtain ⟨hlt, hp, hno⟩ := List.findIdx?_eq_some_iff_getElem.mp ei
          rw [← c.hK]
          refine ⟨q, v2, d, ds, j, ds[j], rfl, rfl, R1.dp, R2.dp, ?_, ?_, List.getElem?_eq_getElem hlt, hp, fun m z hm hz => ?_, k ω2 _ (l1.trans l2) ok2 es2 (DR.int _)⟩
          · show (_ && _) = true
            rw [R1.can, decide_eq_true hdp.1]; rfl
          · show (_ && _) = true
            rw [R2.can, decide_eq_true hdp.2]; rfl
          · have := hno m hm
            obtain ⟨h1, h2⟩ := List.getElem?_eq_some_iff.mp hz
            rw [h2] at this
            simpa using this
      · cases e2
    · cases e2
  · cases e2
/-! ### a module's data -/
theorem me_glob {u : Value} {v : V} {d : D} (hg : Gl X x) (hm : X.mg x = some u) (r : RelV v u) (hD : ∀ F, DR Γ.K F v d) (hd : (x == ("__debug__" : Str)) = false := by decide) : PE X (.Name x pos) (T Γ O (eC d) true) :=
  PE.mono (pe_glob (v := v) hg hm r hd) fun σ H Q ⟨ω, ρ, w, S', e1, ok, E, e2, k⟩ => by
  cases e2
  subst e1
  exact k ω v (Le.refl ω) ok rfl (hD _)
end
end MP
set_option Elab.async false
set_option linter.all false
set_option maxRecDepth 100000
set_option maxHeartbeats 4000000
/-! Part 12: sorted(set(xs)) of a list of ints. -/
namespace MP
open PySem PySem.Calls PySem.Spec PyProof.Rows L2
section
variable {P : Program} {w : World} {A : Around} {E : Value → Shared → Prop} {s : Shared}
def set0 (w : World) : Obj := { cls := .type "set", dict := none, data := .set #[] 0 (.fresh 0 0 (!w.params.followText "set-order")) }
/-- the list's items are put into the new set at q -/
theorem init_set_list {l q : Addr} {vs : Array Value} {ns : List Int} {s1 : Shared} {R : Result → Shared → Prop} (hH : A.handled = none) (hq : s1.heap.get? q = some (set0 w)) (hlist : s1.heap.IsList l vs) (hql : q ≠ l) (hints : IntsAre vs.toList ns) (hbnd : ns.length + 1 < scanBound)
    (done : ∀ (h2 : Heap) (tk c : Nat), SetR w h2 q (fun j => decide (j ∈ ns)) c → c ≤ ns.length → (∀ b o, b ≠ q → s1.heap.get? b = some o → h2.get? b = some o) → R (.ok (.ret .none)) { s1 with heap := h2, toks := tk }) :
    wpAny (model P w) A.in1 (Builtin.«set.__init__» ⟨[.ref q, .ref l], []⟩)
      (fun fin s2 => match fin with | .done f => R (.ok f) s2 | .again c => c.quiet = true ∧ codeAny (model P w) A c R s2) (fun e s2 => R (.error e) s2) s1 := by
  have hvn : vs.size = ns.length := (Array.length_toList (xs := vs)).symm.trans (IntsAre.length hints)
  have hlt : l < s1.heap.objs.size := by obtain ⟨o, ho, _⟩ := hlist; exact Heap.lt_size ho
  have hqt : q < s1.heap.objs.size := Heap.lt_size hq
  obtain ⟨⟨k1, k2, k3, k4⟩, ho, hk, n, hdt⟩ := hlist
  simp only at hk hdt
  subst hk hdt
  have isL : s1.heap.IsList l vs := ⟨_, ho, rfl, n, rfl⟩
  have u1 := F.sub_list_set
  have u2 := F.sub_list_frozenset
  have u3 : (Value.type "list" == Value.type "dict") = false := by decide
  have tq : s1.TypeIs (.ref q) "set" := ⟨_, hq, rfl⟩
  have hq' := hq
  unfold set0 at hq'
  unfold Builtin.«set.__init__» noKeywords Builtin.Frozenset.updateFrom
  generalize hgen : pyIter = G
  wp_walk
  subst hgen
  refine wpAny_pyIter_list isL (wpAny_bind (wpAny_runValue ?_))
  have in3 : A.in1.in1.handled = none := by simp [hH]
  have gl : l ≠ s1.heap.objs.size := Nat.ne_of_lt hlt
  have gq : q ∉ [s1.heap.objs.size, l] := by
    intro z
    rcases List.mem_cons.mp z with e | e
    · exact absurd e (Nat.ne_of_lt hqt)
    · exact hql (List.mem_singleton.mp e)
  have got : ∀ (i : Nat) (v : Value), vs[i]? = some v → ∃ k t, ns[i]? = some k ∧ v = .int k t := fun i v hv => by
    have hi : i < ns.length := hvn ▸ (Array.getElem?_eq_some_iff.mp hv).1
    obtain ⟨t, e⟩ := PyProof.Rows.IntsAre.int_at hints i v (by rw [Array.getElem?_toList]; exact hv)
    exact ⟨ns[i], t, List.getElem?_eq_getElem hi, by rw [e, List.getD_eq_getElem?_getD, List.getElem?_eq_getElem hi]; rfl⟩
  have sq : (s1.heap.push { cls := .type "list_iterator", data := .fields #[.ref l, .int 0 0] }).get? q = some (set0 w) := Heap.get?_push_of_some _ hq
  refine set_update_ints ((Walks.list in3 _ l gl vs).toS) q gq ns hvn hbnd got (vs.size - 0) 0 _ (by omega) (Nat.zero_le _) ⟨⟨_, Heap.get?_push_size _ rfl, rfl, rfl⟩, isL.push _⟩ ⟨0, Nat.le_refl 0, setR_new_at sq⟩ fun s3 c mv hc hS => ?_
  obtain ⟨h3, g3, d3, t3, o3⟩ := s3
  obtain rfl : g3 = s1.gens := mv.gens
  obtain rfl : d3 = s1.drawn := mv.drawn
  obtain rfl : o3 = s1.os := mv.os
  show wpAny _ _ _ _ _ _
  refine wpAny_pure ?_
  show wpAny _ _ (ret Value.none) _ _ _
  rw [hvn] at hc
  refine wpAny_pure (done h3 t3 c hS hc fun b o hb e => ?_)
  refine mv.heap b o (fun z => ?_) (Heap.get?_push_of_some _ e)
  rcases List.mem_cons.mp z with e2 | e2
  · exact hb e2
  · exact absurd (List.mem_singleton.mp e2) (Nat.ne_of_lt (Heap.lt_size e))
/-- set(xs) -/
theorem call_set_listR {l : Addr} {vs : Array Value} {ns : List Int} {Q : Value → Shared → Prop} (hH : A.handled = none) (hlist : s.heap.IsList l vs) (hints : IntsAre vs.toList ns) (hbnd : ns.length + 1 < scanBound)
    (fin : ∀ (h2 : Heap) (tk c : Nat), SetR w h2 s.heap.objs.size (fun j => decide (j ∈ ns)) c → c ≤ ns.length → (∀ b o, s.heap.get? b = some o → h2.get? b = some o) → Q (.ref s.heap.objs.size) { s with heap := h2, toks := tk }) :
    wpAny (model P w) A (call (.type "set") [.ref l]) Q E s := by
  have hlt : l < s.heap.objs.size := by obtain ⟨o, ho, _⟩ := hlist; exact Heap.lt_size ho
  obtain ⟨mc, mt, m1⟩ := F.called_set.mro
  have m2 := F.called_set.made
  have m3 := F.called_set.sub
  have m4 := F.called_set.notType
  have m5 := F.called_set.canCreate
  have m6 := F.typeCall_set_1 (.ref l)
  refine wpAny_call (codeAny_of_tree ?_)
  show wpAny _ _ (callAny (.type "set") _) _ _ _
  refine wpAny_pure ⟨Code.quiet_builtin _ (by decide +kernel), codeAny_builtin F.entry_type_call ?_⟩
  rw [Around.under_plain (weight_type_call_type "set" [.ref l] []) rfl]
  repeat (any_goals (first | assumption | wp_step))
  refine codeAny_mono (code_set_led1 (.ref l) (E := E) (Q₁ := fun v t => v = .ref s.heap.objs.size ∧ t = { s with heap := s.heap.push (set0 w) }) ⟨rfl, rfl⟩) fun r t hr => ?_
  cases r with
  | error e => exact hr
  | ok fl =>
    cases fl with
    | ret v =>
      obtain ⟨rfl, rfl⟩ := hr
      have q1 : (s.heap.push (set0 w)).get? s.heap.objs.size = some (set0 w) := Heap.get?_push_size _ rfl
      have q2 : Shared.TypeIs { s with heap := s.heap.push (set0 w) } (.ref s.heap.objs.size) "set" := ⟨_, q1, rfl⟩
      have q3 := F.called_set.init.lookup
      have q4 := F.called_set.init.bind (.ref s.heap.objs.size)
      repeat (any_goals (first | assumption | wp_step))
      refine codeAny_mono (codeAny_call_builtin (R := wants (fun v t => v = .none ∧ ∃ h2 tk c, t = { s with heap := h2, toks := tk } ∧ SetR w h2 s.heap.objs.size (fun j => decide (j ∈ ns)) c ∧ c ≤ ns.length ∧ (∀ b o, s.heap.get? b = some o → h2.get? b = some o)) E)
        F.called_set.init.plain F.entry_set_init (check_set_init_1 q2 ?_)) fun r2 t2 hr2 => ?_
      · refine init_set_list (s1 := { s with heap := s.heap.push (set0 w) }) (A := A.in1) (by simp [hH]) q1 (hlist.push _) (Nat.ne_of_gt hlt) hints hbnd fun h2 tk c hS hc hk => ?_
        exact ⟨rfl, h2, tk, c, rfl, hS, hc, fun b o e => hk b o (Nat.ne_of_lt (Heap.lt_size e)) (Heap.get?_push_of_some _ e)⟩
      · cases r2 with
        | error e => exact hr2
        | ok f2 =>
          cases f2 with
          | ret v2 =>
            obtain ⟨rfl, h2, tk, c, rfl, hS, hc, hk⟩ := hr2
            repeat (any_goals (first | assumption | wp_step))
            exact fin _ _ _ hS hc hk
          | _ => exact hr2.elim
    | _ => exact hr.elim
end
end MP
set_option Elab.async false
set_option linter.all false
set_option maxRecDepth 20000
/-! Part 13: sorted(set(xs)), the rule. -/
namespace MP
open PySem L2
open PySem.PyData (strOk)
/-- x among the rising xs -/
def insI (x : Int) : List Int → List Int
  | [] => [x]
  | y :: ys => if x < y then x :: y :: ys else if x = y then y :: ys else y :: insI x ys
def setI : List Int → List Int
  | [] => []
  | x :: xs => insI x (setI xs)
theorem insI_mem {x k : Int} : ∀ {ys : List Int}, k ∈ insI x ys ↔ k = x ∨ k ∈ ys
  | [] => by simp [insI]
  | y :: ys => by
    unfold insI
    split
    · simp
    · split
      · rename_i h1 h2; subst h2; simp
      · rw [List.mem_cons, insI_mem, List.mem_cons]
        constructor
        · rintro (h | h | h)
          · exact .inr (.inl h)
          · exact .inl h
          · exact .inr (.inr h)
        · rintro (h | h | h)
          · exact .inr (.inl h)
          · exact .inl h
          · exact .inr (.inr h)
theorem insI_up {x : Int} : ∀ {ys : List Int}, ys.Pairwise (· < ·) → (insI x ys).Pairwise (· < ·)
  | [], _ => by simp [insI]
  | y :: ys, h => by
    have h' := List.pairwise_cons.mp h
    unfold insI
    split
    · rename_i h1
      exact List.pairwise_cons.mpr ⟨fun z hz => by
        rcases List.mem_cons.mp hz with e | e
        · omega
        · have := h'.1 z e; omega, h⟩
    · split
      · exact h
      · rename_i h1 h2
        refine List.pairwise_cons.mpr ⟨fun z hz => ?_, insI_up h'.2⟩
        rcases insI_mem.mp hz with e | e
        · omega
        · exact h'.1 z e
theorem setI_mem {k : Int} : ∀ {xs : List Int}, k ∈ setI xs ↔ k ∈ xs
  | [] => by simp [setI]
  | x :: xs => by rw [setI, insI_mem, setI_mem, List.mem_cons]
theorem setI_up : ∀ (xs : List Int), (setI xs).Pairwise (· < ·)
  | [] => by simp [setI]
  | x :: xs => insI_up (setI_up xs)
theorem up_uniq : ∀ {xs ys : List Int}, xs.Pairwise (· < ·) → ys.Pairwise (· < ·) → (∀ k, k ∈ xs ↔ k ∈ ys) → xs = ys
  | [], [], _, _, _ => rfl
  | [], y :: ys, _, _, h => absurd ((h y).mpr List.mem_cons_self) (by simp)
  | x :: xs, [], _, _, h => absurd ((h x).mp List.mem_cons_self) (by simp)
  | x :: xs, y :: ys, h1, h2, h => by
    have p1 := List.pairwise_cons.mp h1
    have p2 := List.pairwise_cons.mp h2
    have e : x = y := by
      have a := (h x).mp List.mem_cons_self
      have b := (h y).mpr List.mem_cons_self
      rcases List.mem_cons.mp a with a | a
      · exact a
      · rcases List.mem_cons.mp b with b | b
        · exact b.symm
        · have := p2.1 x a
          have := p1.1 y b
          omega
    subst e
    rw [up_uniq p1.2 p2.2 fun k => ?_]
    constructor
    · intro hk
      have := p1.1 k hk
      rcases List.mem_cons.mp ((h k).mp (List.mem_cons_of_mem _ hk)) with e | e
      · omega
      · exact e
    · intro hk
      have := p2.1 k hk
      rcases List.mem_cons.mp ((h k).mpr (List.mem_cons_of_mem _ hk)) with e | e
      · omega
      · exact e
section
variable {Γ : Gam} {X : Cx} {O : List Nat}
def rSetOfL (K : PySem.W.Frag) (w : World) : List V → Hp → VK → Prop := fun vs H Q => ∃ (a : Addr) (ns : List Int), vs = [V.ref a] ∧ SqL K H a (ns.map V.int) ∧ ns.length < 64 ∧
  ∀ (p : Addr) (c : Nat), H p = none → c ≤ ns.length → Q (.ref p) (L2.upd H p (SetO w p (fun j => decide (j ∈ ns)) c))
theorem cr_setOfL (hc : X.calm = true) : CallR X (.type "set") (rSetOfL X.K X.w) := by
  intro pins s σ H vs us Q I r h
  obtain ⟨a, ns, rfl, hs, h64, q⟩ := h
  obtain ⟨its, rv, hl, hz⟩ := I.list hs
  rw [Vals.ref1 r]
  refine call_set_listR (I.ok.hd hc) hl.isList (ns := ns) (by simpa using rv.ints) (by unfold scanBound; omega) fun h2 tk c R hcn hk => ?_
  exact ⟨.ref _, L2.upd H s.heap.objs.size (SetO X.w s.heap.objs.size (fun j => decide (j ∈ ns)) c), I.laid (t' := tk) hk (Nat.le_refl _) (setO_new R), rfl, q _ c (I.hok.fresh (Nat.le_refl _)) hcn⟩
def eSortSet (a : Mean) : Mean := fun ρ S => match a ρ S with
  | some (.d (.list ds), S1) => match intsD ds with
    | some is => if is.length < 64 then some (.d (.list ((setI is).map PyData.int)), S1) else none
    | none => none
  | _ => none
variable {a : Expr} {ma : Mean} {c1 : Bool} {p p2 pos pos2 : Pos}
theorem me_sortSet (c : Ctx Γ X) (hg : Gl X "sorted") (hg2 : Gl X "set") (ha : PE X a (T Γ O ma c1)) (na : starEach [a] X.env = (false, eval a X.env) :: starEach [] X.env := by rfl)
    (nb : starEach [.Call (.Name "set" p2) [a] [] pos2] X.env = (false, eval (.Call (.Name "set" p2) [a] [] pos2) X.env) :: starEach [] X.env := by rfl)
    (hpl : (backTo pos (starEach [] X.env)).any (·.1) = false := by rfl) (hpl2 : (backTo pos2 (starEach [] X.env)).any (·.1) = false := by rfl) :
    PE X (.Call (.Name "sorted" p) [.Call (.Name "set" p2) [a] [] pos2] [] pos) (T Γ O (eSortSet ma) true) :=
  PE.mono (pe_callB (cr_sortedSet c.calm) hg c.b_sorted (by decide +kernel) (pa_cons (pe_callTy (cr_setOfL c.calm) hg2 c.b_set (by decide +kernel) (pa_cons (PM.weak ha) pa_nil na) (by decide) (by decide) na hpl2) pa_nil nb) (by decide) (by decide) nb hpl) fun σ H Q ⟨ω, ρ, w, S', e1, ok, E, e2, k⟩ => by
  unfold eSortSet at e2
  split at e2
  · rename_i ds S1 em
    split at e2
    · rename_i is ei
      split at e2
      · rename_i hn
        cases e2
        refine ⟨ω, ρ, _, _, e1, ok, E, em, fun ω1 v l1 ok1 es1 r1 => ?_⟩
        rw [ints_map ei] at r1
        obtain ⟨q, vs, rfl, hH, dr⟩ := DT.list ok1 r1
        rw [dr.intsD] at hH
        refine ⟨q, is, rfl, .of hH, hn, fun p3 c3 hp hc => ?_⟩
        refine ⟨p3, _, c3, rfl, upd_same, by omega, fun ns p4 hu hm hl hp4 => ?_⟩
        have e : ns = setI is := up_uniq hu (setI_up is) fun j => by rw [hm, setI_mem]; simp
        subst e
        have l2 := Wd.lay_le ok1 (SetO X.w p3 (fun j => decide (j ∈ is)) c3) hp
        have ok2 := Wd.lay_ok ok1 (SetO X.w p3 (fun j => decide (j ∈ is)) c3) hp
        exact new_list ok2 (DRs.of_ints (setI is)) (fun ω4 v4 l4 ok4 es4 r4 => k ω4 v4 ((l1.trans l2).trans l4) ok4 (es4.trans es1) r4) hp4
      · cases e2
    · cases e2
  · cases e2
end
end MP
set_option Elab.async false
set_option linter.all false
set_option maxRecDepth 20000
/-! Part 14: defs, the table, the law's end. -/
namespace MP
open PySem L2
open PySem.PyData (strOk)
/-- the built-in names are not the module's -/
structure Bl (mg : Str → Option Value) : Prop where
  b_len : mg "len" = none
  b_range : mg "range" = none
  b_sorted : mg "sorted" = none
  b_set : mg "set" = none
  b_all : mg "all" = none
  b_any : mg "any" = none
  b_sum : mg "sum" = none
  b_max : mg "max" = none
  b_tuple : mg "tuple" = none
  b_list : mg "list" = none
  b_dict : mg "dict" = none
  b_int : mg "int" = none
  b_bool : mg "bool" = none
  b_str : mg "str" = none
  b_isi : mg "isinstance" = none
def start0 (n : Nat) (us : List Val) : Env := us.map some ++ List.replicate (n - us.length) none
/-- a def's meaning from its body's -/
def runFn (n : Nat) (body : SMean) (us : List Val) (S : Store) : Option (Val × Store) := match body (start0 n us) S with
  | some (.nx _ S1) => some (.d .none, S1)
  | some (.ret u S1) => some (u, S1)
  | _ => none
/-- the defs at a level -/
def callN (tbl : Calls → Calls) : Nat → Calls
  | 0 => fun _ _ _ => none
  | n + 1 => tbl (callN tbl n)
section
variable {P : Program} {w : World} {K : PySem.W.Frag} {mg : Str → Option Value} {base : Heap} {Γ : Gam}
theorem spF_len {B : Calls} {f n : Nat} {vs : List V} {H : Hp} {Q : VK} {E : XK} (h : spF Γ B f n vs H Q E) : vs.length = n := by
  obtain ⟨ω, us, u, S', _, _, r, hl, _⟩ := h
  rw [r.length, hl]
theorem fn_none {B : Calls} {f n k : Nat} {fa : Addr} {fd : FuncData} {ps : List Str} (hB : ∀ us S, B f us S = none) : FnOk P w K mg base CX0 k fa fd ps (spF Γ B f n) :=
  ⟨fun vs H Q E ⟨ω, us, u, S', _, _, r, hl, e, _⟩ => (by rw [hB] at e; cases e), fun A outer s H args us vs Q E hr he hb hv ⟨ω, us', u, S', _, _, r, hl, e, _⟩ => (by rw [hB] at e; cases e)⟩
theorem start_get {n : Nat} {us : List Val} {i : Nat} {u : Val} (h : (start0 n us)[i]? = some (some u)) : i < us.length ∧ us[i]? = some u := by
  unfold start0 at h
  by_cases hi : i < us.length
  · rw [List.getElem?_append_left (by simpa using hi), List.getElem?_map] at h
    refine ⟨hi, ?_⟩
    cases e : us[i]? with
    | none => rw [e] at h; cases h
    | some x => rw [e] at h; cases h; rfl
  · rw [List.getElem?_append_right (by simpa using hi)] at h
    rw [List.getElem?_replicate] at h
    split at h <;> cases h
theorem start_env {O : List Nat} {N : List Str} {ω : Wd} {vs : List V} {us : List Val} (ok : WOk Γ ω) (r : RVs Γ ω.F ω.φ vs us) (hO : ∀ i ∈ O, us.length ≤ i) : EnvS Γ O ω ω (start0 N.length us) (L2.start N vs) := by
  have hl := r.length
  have no : ∀ {i : Nat} {u : Val}, i ∈ O → (start0 N.length us)[i]? = some (some u) → False := fun hi e => by
    have := (start_get e).1
    have := hO _ hi
    omega
  refine ⟨⟨?_, fun i u e n => ?_, fun i u e n => (no n e).elim, fun i j u z p hi hj hne e => (no hi e).elim⟩, Le.refl ω, ok, fun i u p hi e => (no hi e).elim⟩
  · unfold start0 L2.start
    simp [hl]
  · obtain ⟨hi, eu⟩ := start_get e
    obtain ⟨v, ev, rv⟩ := r.get eu
    refine ⟨v, ?_, rv⟩
    unfold L2.start
    rw [List.getElem?_append_left (by rw [List.length_map, hl]; exact hi), List.getElem?_map, ev]
    rfl
/-- THE RULE for a def -/
theorem fn_ok {x qual : Str} {st : Stmt} {f : Addr} {fd : FuncData} {N ps : List Str} {k ar i : Nat} {B : Calls} {body : SMean} {O : List Nat} (F : L2.Fun K x qual st f fd) (Sc : FnScope N ps (defScope st)) (bl : Bl mg) (hK : Γ.K = K) (har : ps.length = ar) (hO : ∀ i ∈ O, ar ≤ i) (hk : 100 ≤ k)
    (hB : ∀ us S, B i us S = runFn N.length body us S)
    (hbody : ∀ (cdv : Value) (A : Around) (outer : List PySem.Env) (s : Shared) (H : Hp) (E : XK), Room k (A.deeper (PyProof.Rows.envOfC qual (defScope st) s.heap.objs.size f cdv)) → Ctx Γ (cxOf CX0 P w K mg base N qual (defScope st) f cdv A outer s H E).nox →
      PSs (cxOf CX0 P w K mg base N qual (defScope st) f cdv A outer s H E).nox (defBody st) (TS_ Γ O body)) : FnOk P w K mg base CX0 (k + 1) f fd ps (spF Γ B i ar) := by
  refine F.ok Sc (fun vs H Q E h => (spF_len h).trans har.symm) (fun cdv A outer s H vs Q E hr h => ?_)
  have c : Ctx Γ (cxOf CX0 P w K mg base N qual (defScope st) f cdv A outer s H E).nox :=
    ⟨hK, hr.mono hk, rfl, Sc.nd, PassesOwn.never, bl.b_len, bl.b_range, bl.b_sorted, bl.b_set, bl.b_all, bl.b_any, bl.b_sum, bl.b_max, bl.b_tuple, bl.b_list, bl.b_dict, bl.b_int, bl.b_bool, bl.b_str, bl.b_isi⟩
  refine ⟨_, hbody cdv A outer s H E hr c, ?_⟩
  obtain ⟨ω, us, u, S', rfl, ok, r, hl, e, q⟩ := h
  rw [hB] at e
  unfold runFn at e
  split at e
  · rename_i ρ1 S1 eb
    cases e
    exact ⟨ω, ω, _, _, rfl, start_env ok r (by rw [hl]; exact hO), eb, fun ω' σ' E' s' es => q ω' _ E'.le E'.ok es .non⟩
  · rename_i u1 S1 eb
    cases e
    exact ⟨ω, ω, _, _, rfl, start_env ok r (by rw [hl]; exact hO), eb, fun ω' v l ok' es rv => q ω' v l ok' es rv⟩
  · cases e
end
/-- the law's own promise, from its meaning -/
theorem law_sp {Γ : Gam} {B : Calls} {f : Nat} {H : Hp} {a : Addr} {ns : List Int} {S' : Store} (hS : SqL Γ.K H a (ns.map V.int)) (h : B f [.scr ns] [] = some (.d (.bool true), S')) :
    spF Γ B f 1 [.ref a] H (fun v _ => v = .bl true) (fun _ _ _ => False) :=
  ⟨⟨H, H, [], []⟩, [.scr ns], _, S', rfl, ⟨Sub.refl _, rfl, List.nodup_nil, fun a h => absurd h (by simp), fun n o h => by simp at h⟩, .cons ⟨a, rfl, hS⟩ .nil, rfl, h, fun ω' v l ok es r => DR.of_bl r⟩
/-- the law's promise -/
def spLaw (K : PySem.W.Frag) : Sp := fun vs H Q _ => ∃ (a : Addr) (ns : List Int), vs = [.ref a] ∧ SqL K H a (ns.map V.int) ∧ ns.length ≤ 63 ∧ ∀ H', Q (.bl true) H'
theorem fn_law {P : Program} {w : World} {K : PySem.W.Frag} {mg : Str → Option Value} {base : Heap} {Γ : Gam} {k i : Nat} {fa : Addr} {fd : FuncData} {ps : List Str} {B : Calls} (F : FnOk P w K mg base CX0 k fa fd ps (spF Γ B i 1)) (hK : Γ.K = K)
    (law : ∀ ns : List Int, ns.length ≤ 63 → ∃ S', B i [.scr ns] [] = some (.d (.bool true), S')) : FnOk P w K mg base CX0 k fa fd ps (spLaw K) := F.imp fun vs H Q E ⟨a, ns, e, hS, hl, q⟩ => by
  subst e
  obtain ⟨S', h⟩ := law ns hl
  subst hK
  exact ⟨⟨H, H, [], []⟩, [.scr ns], _, S', rfl, ⟨Sub.refl _, rfl, List.nodup_nil, fun a h => absurd h (by simp), fun n o h => by simp at h⟩, .cons ⟨a, rfl, hS⟩ .nil, rfl, h, fun ω' v l ok es r => by rw [DR.of_bl r]; exact q _⟩
theorem walkL {l : PySem.W.OpenLaw} {q : Program} {loose : List Str} {XP : (Str → Option Value) → Heap → Prop} {YP : World → Heap → Prop} {d : DefRec} {K : Params → PySem.W.Frag} {k : Nat} (hr : Room k callerA) (hn : l.most = some 63) (hdf : d.params.defaults = [])
    (hY : ∀ (w : World) (h : Heap), YP w h → (K w.params).In h)
    (F : ∀ (w : World) (mg : Str → Option Value) (fa : Addr) (h : Heap), (K w.params).In h → h.Ns mainGlobals mg → mg d.name = some (.ref fa) →
      ∃ fd : FuncData, (∀ (s : Shared) (u : Value), BindsTo s fd ⟨[u], []⟩ [("script", u)]) ∧ ∀ base : Heap, (K w.params).In base → base.Ns mainGlobals mg → FnOk l.prog w (K w.params) mg base CX0 k fa fd ["script"] (spLaw (K w.params))) :
    PySem.W.WalkO q loose XP YP l.row.toRowW d [] (fun f vs => PySem.call f vs) :=
  L2.walk_of (n := 63) (k := k) (x := "script") (CX := fun _ => CX0) (sp := fun w => spLaw (K w.params)) hn (by decide) hdf hr hY F (fun _ _ a ns hl _ hS => ⟨a, ns, rfl, hS, hl, fun _ => rfl⟩) fun _ _ _ _ _ z => z
end MP
set_option Elab.async false
set_option linter.all false
set_option maxRecDepth 20000
/-! Part 15: short words for the printed proofs. -/
namespace MP
open PySem L2
open PySem.PyData (strOk)
def eNever : Mean := fun _ _ => none
section
variable {Γ : Gam} {X : Cx} {O : List Nat} {e : Expr} {es : List Expr} {ms : Means} {pos p : Pos} {x : Str} {cl : Bool}
theorem me_never : PE X e (T Γ O eNever cl) := ⟨fun pins s σ H Q I ⟨ω, ρ, u, S', e1, ok, E, e2, k⟩ => by cases e2⟩
/-- a def of the text, as it stands -/
structure DF (K : PySem.W.Frag) (x qual : Str) (st : Stmt) (ps : List Str) where
  fa : Addr
  fd : FuncData
  fn : L2.Fun K x qual st fa fd
  bind : Binds K fd ps []
def df_mk {K : PySem.W.Frag} {x qual : Str} {st : Stmt} {ps : List Str} {f : Addr} {oc : Value} {od an : Option Addr} {osl : Array (Option Value)} {kV doc pm cdv ct : Value} (l : K.lookup f = some ⟨oc, od, .func (PySem.W.fnOf x qual (defArgs st) (defBody st) (defScope st) .none kV doc pm an cdv ct), osl⟩)
    (c : PySem.W.codeIn K cdv qual = true) (k : PySem.W.keepIn K (.ref f) = true)
    (h : ∀ (kV doc pm : Value) (an : Option Addr) (cdv ct : Value) (us : List Value), us.length = ps.length → bindArgs (PySem.W.fnOf x qual (defArgs st) (defBody st) (defScope st) .none kV doc pm an cdv ct) ⟨us, []⟩ = pure (ps.zip us)) : DF K x qual st ps :=
  ⟨f, _, fun_mk l c k, (fun_mk l c k).binds h⟩
/-- the levels -/
def lv : Nat → Nat
  | 0 => 100
  | n + 1 => lv n + 2
theorem lv_ge : ∀ n, 100 ≤ lv n + 1
  | 0 => by decide
  | n + 1 => Nat.le_trans (lv_ge n) (by show lv n + 1 ≤ lv n + 2 + 1; omega)
theorem me_call0 {B : Calls} {f n k : Nat} {fa : Addr} {fd : FuncData} {ps : List Str}
    (F : FnOk X.prog X.w X.K X.mg X.base CX0 k fa fd ps (spF Γ B f n)) (hr : Room k X.A) (hm : X.mg x = some (.ref fa)) (hk : PySem.W.keepIn X.K (.ref fa) = true) (hb : Binds X.K fd ps []) (ha : PA X (e :: es) (TAs Γ O ms)) (hl : aLen (e :: es) ms)
    (hg : Gl X x := by rfl) (hn : (e :: es).length + ([] : List Val).length = n := by rfl) (hdb : (x == ("__debug__" : Str)) = false := by decide)
    (he : starEach (e :: es) X.env = (false, eval e X.env) :: starEach es X.env := by rfl) (hpl : (backTo pos (starEach es X.env)).any (·.1) = false := by rfl) :
    PE X (.Call (.Name x p) (e :: es) [] pos) (T Γ O (eCall B f ms []) true) := me_call F hr hm hk hb .nil (fun _ => .nil) hg hn ha hl hdb he hpl
theorem me_make0_ {B : Calls} {c f n k : Nat} {fa : Addr} {fd : FuncData} {ps : List Str} {C : Addr}
    (F : FnOk X.prog X.w X.K X.mg X.base CX0 k fa fd ps (spF Γ B f n)) (hr : Room (k + 1) X.A) (M : Mk X.K C fa) (hm : X.mg x = some (.ref C)) (hb : Binds X.K fd ps []) (ha : PA X (e :: es) (TAs Γ O ms)) (hl : aLen (e :: es) ms)
    (hC : Γ.cls c = C := by rfl) (hg : Gl X x := by rfl) (hn : (e :: es).length + 1 = n := by rfl) (hdb : (x == ("__debug__" : Str)) = false := by decide)
    (he : starEach (e :: es) X.env = (false, eval e X.env) :: starEach es X.env := by rfl) (hpl : (backTo pos (starEach es X.env)).any (·.1) = false := by rfl) :
    PE X (.Call (.Name x p) (e :: es) [] pos) (T Γ O (eMake B c f ms) true) := by
  subst hC
  exact me_make F hr M hm hb hg hn ha hl hdb he hpl
theorem me_meth0 {B : Calls} {c f n k : Nat} {fa : Addr} {fd : FuncData} {ps : List Str} {m : Str} {apos : Pos} {o : Expr} {mo : Mean} {pl : Sem Bool} {C : Addr}
    (F : FnOk X.prog X.w X.K X.mg X.base CX0 k fa fd ps (spF Γ B f n)) (hr : Room k X.A) (hc : Cls X.K C) (hm : Meth X.K C m fa) (hb : Binds X.K fd ps []) (hmn : m ∉ Γ.flds c)
    (ho : PE X o (T Γ O mo true)) (ha : PA X (e :: es) (TAs Γ O ms)) (hl : aLen (e :: es) ms) (hC : Γ.cls c = C := by rfl) (hn : (e :: es).length + 1 = n := by rfl)
    (hst : starEach (e :: es) X.env = (false, eval e X.env) :: starEach es X.env := by rfl) (hpl : (backTo pos (starEach es X.env)).any (·.1) = false := by rfl)
    (ht : eval (.Call (.Attribute o m apos) (e :: es) [] pos) X.env = (do
      let ov ← eval o X.env
      standAt apos.atName
      let (f, first) ← holding [ov] (getMethod ov m pl)
      callWith pos f first (backTo pos (starEach (e :: es) X.env)) (backToKw pos (keywordEach [] X.env))) := by rfl) :
    PE X (.Call (.Attribute o m apos) (e :: es) [] pos) (T Γ O (eMeth B c f mo ms) true) := by
  subst hC
  exact me_meth F hr hc hm hb hmn hn ho ha hl hst hpl ht
/-- a block's names, by one test -/
def blkB (N : List Str) (sc scope : Scope) (own : List (Str × Nat)) : Bool :=
  (match scope.kind with | .function => true | _ => false) && scope.names.all (fun y => decide (scope.names.lookup y.1 = some y.2)) && own.all (fun p => decide (N[p.2]? = some p.1)) &&
  scope.names.all (fun y => decide (y.2 = .free → sc.names.lookup y.1 = some .cell ∨ sc.names.lookup y.1 = some .free)) && scope.names.all fun y => decide (y.2 = .local ∨ y.2 = .cell → y.1 ∈ own.map (·.1) ∨ y.1 ∉ N)
theorem blk_ok {N : List Str} {sc scope : Scope} {own : List (Str × Nat)} (h : blkB N sc scope own = true) : BlkOk N sc scope own := by
  unfold blkB at h
  simp only [Bool.and_eq_true, List.all_eq_true, decide_eq_true_eq] at h
  obtain ⟨⟨⟨⟨h1, h2⟩, h3⟩, h4⟩, h5⟩ := h
  refine ⟨?_, h2, h3, h4, h5⟩
  split at h1
  · assumption
  · cases h1
theorem tg1 {i : Nat} (hi : X.N[i]? = some x := by rfl) (hx : Loc X.env.scope x := by first | exact Or.inl rfl | exact Or.inr rfl) (hf : X.fn x = true ∨ X.env.scope.names.lookup x = some .local := by first | exact Or.inl rfl | exact Or.inr rfl) : TgOk X (.Name x pos) (.n i) := .n hi hx hf
end
/-- what a written tuple holds -/
inductive DV (K : PySem.W.Frag) (F : Hp) : List Value → List D → Prop
  | nil : DV K F [] []
  | str {x : Str} {t : Tok} {us : List Value} {ds : List D} (h : strOk x = true) (r : DV K F us ds) : DV K F (.str x t :: us) (.str x :: ds)
theorem DV.rel {K : PySem.W.Frag} {F : Hp} {us : List Value} {ds : List D} (h : DV K F us ds) : ∃ vs, Vals vs us ∧ DRs K F vs ds := by
  induction h with
  | nil => exact ⟨[], .nil, .nil⟩
  | @str x t us ds h _ ih =>
    obtain ⟨vs, r, d⟩ := ih
    exact ⟨.str x :: vs, .cons ⟨t, rfl⟩ r, .cons (.str h) d⟩
theorem dv_nil {K : PySem.W.Frag} {F : Hp} : DV K F [] [] := .nil
theorem dv_cons {K : PySem.W.Frag} {F : Hp} {x : Str} {t : Tok} {us : List Value} {ds : List D} (h : strOk x = true) (r : DV K F us ds) : DV K F (.str x t :: us) (.str x :: ds) := .str h r
theorem dr_ktup {K : PySem.W.Frag} {F : Hp} {a : Addr} {od : Option Addr} {us : Array Value} {n : Nat} {sl : Array (Option Value)} {ds : List D} (l : K.lookup a = some ⟨.type "tuple", od, .seq us n, sl⟩) (hz : us.size ≤ 1000) (h : DV K F us.toList ds) : DR K F (V.ref a) (.tuple ds) := by
  obtain ⟨vs, r, d⟩ := h.rel
  exact .tup (.inr ⟨_, us, n, l, rfl, rfl, lineM (by omega), r⟩) d
end MP
set_option Elab.async false
set_option linter.all false
set_option maxRecDepth 20000
/-! Part 16: the meanings reckoned out. -/
namespace MP
open PySem L2
section
variable {ρ : Env} {S : Store} {a b t : Mean} {ms : Means} {B : Calls}
@[simp] theorem x_var (i : Nat) : eVar i ρ S = (ρ.getD i none).map fun u => (u, S) := rfl
@[simp] theorem x_c (d : D) : eC d ρ S = some (.d d, S) := rfl
@[simp] theorem x_bin (op : D → D → Option D) : eBin op a b ρ S = match a ρ S with
  | some (.d x, S1) => match b ρ S1 with
    | some (.d y, S2) => (op x y).map fun z => (.d z, S2)
    | _ => none
  | _ => none := rfl
@[simp] theorem x_and : eAnd a b ρ S = match a ρ S with
  | some (.d (.bool true), S1) => b ρ S1
  | some (.d (.bool false), S1) => some (.d (.bool false), S1)
  | _ => none := rfl
@[simp] theorem x_or : eOr a b ρ S = match a ρ S with
  | some (.d (.bool true), S1) => some (.d (.bool true), S1)
  | some (.d (.bool false), S1) => b ρ S1
  | _ => none := rfl
@[simp] theorem x_not : eNot a ρ S = match a ρ S with
  | some (.d (.bool b), S1) => some (.d (.bool (!b)), S1)
  | _ => none := rfl
@[simp] theorem x_if : eIf t a b ρ S = match t ρ S with
  | some (.d (.bool true), S1) => a ρ S1
  | some (.d (.bool false), S1) => b ρ S1
  | _ => none := rfl
@[simp] theorem x_neg : eNeg a ρ S = match a ρ S with
  | some (.d (.int i), S1) => some (.d (.int (-i)), S1)
  | _ => none := rfl
@[simp] theorem x_nil : aNil ρ S = some ([], S) := rfl
@[simp] theorem x_cons : aCons a ms ρ S = match a ρ S with
  | some (u, S1) => match ms ρ S1 with
    | some (us, S2) => some (u :: us, S2)
    | none => none
  | none => none := rfl
@[simp] theorem x_tup : eTup ms ρ S = match ms ρ S with
  | some (us, S1) => (datas us).map fun ds => (.d (.tuple ds), S1)
  | none => none := rfl
@[simp] theorem x_lst : eLst ms ρ S = match ms ρ S with
  | some (us, S1) => (datas us).map fun ds => (.d (.list ds), S1)
  | none => none := rfl
@[simp] theorem x_datas0 : datas [] = some [] := rfl
@[simp] theorem x_datas (d : D) (r : List Val) : datas (.d d :: r) = (datas r).map (d :: ·) := rfl
@[simp] theorem x_call (f : Nat) : eCall B f ms [] ρ S = match ms ρ S with
  | some (us, S1) => B f us S1
  | none => none := by
  unfold eCall
  cases ms ρ S with
  | none => rfl
  | some r => simp only [List.append_nil]
@[simp] theorem x_u (op : Val → Option D) : eU op a ρ S = match a ρ S with
  | some (u, S1) => (op u).map fun z => (.d z, S1)
  | none => none := rfl
@[simp] theorem x_ix : eIx a b ρ S = match a ρ S with
  | some (u, S1) => match b ρ S1 with
    | some (.d (.int i), S2) => match items S2 u with
      | some ds => (L2.atI ds i).map fun z => (.d z, S2)
      | none => none
    | _ => none
  | none => none := rfl
@[simp] theorem x_itemsL (ds : List D) : items S (.d (.list ds)) = some ds := rfl
@[simp] theorem x_itemsT (ds : List D) : items S (.d (.tuple ds)) = some ds := rfl
@[simp] theorem x_oNo : oNo ρ S = some (none, S) := rfl
@[simp] theorem x_oSome : oSome a ρ S = match a ρ S with
  | some (.d (.int i), S1) => some (some i, S1)
  | _ => none := rfl
@[simp] theorem x_sl (lo hi : MO) : eSl a lo hi ρ S = match a ρ S with
  | some (u, S1) => match lo ρ S1 with
    | some (l, S2) => match hi ρ S2 with
      | some (h, S3) => (opSl u l h).map fun z => (.d z, S3)
      | none => none
    | none => none
  | none => none := rfl
@[simp] theorem x_slL (ds : List D) (l h : Option Int) : opSl (.d (.list ds)) l h = some (.list (cutD ds l h)) := rfl
@[simp] theorem x_slT (ds : List D) (l h : Option Int) : opSl (.d (.tuple ds)) l h = some (.tuple (cutD ds l h)) := rfl
@[simp] theorem x_comp (src : MSrc) (tg : Tg) (vs : List Nat) (tst elt : Mean) : eComp src tg vs tst elt ρ S = match src ρ S with
  | some (ds, S1) => match compRun tg tst elt (wipeE ρ vs) ds S1 with
    | some (ys, S2) => some (.d (.list ys), S2)
    | none => none
  | none => none := rfl
@[simp] theorem x_sq : sSq a ρ S = match a ρ S with
  | some (.d (.list ds), S1) => some (ds, S1)
  | some (.d (.tuple ds), S1) => some (ds, S1)
  | _ => none := rfl
@[simp] theorem x_rg1 : sRg1 a ρ S = match a ρ S with
  | some (.d (.int k), S1) => if -1000000 ≤ k ∧ k ≤ 1000000 then some (upFrom 0 k.toNat, S1) else none
  | _ => none := rfl
@[simp] theorem x_wipe0 : wipeE ρ [] = ρ := rfl
@[simp] theorem x_wipe (v : Nat) (vs : List Nat) : wipeE ρ (v :: vs) = (wipeE ρ vs).set v none := rfl
@[simp] theorem x_list : eList a ρ S = match a ρ S with
  | some (.d (.list ds), S1) => some (.d (.list ds), S1)
  | some (.d (.tuple ds), S1) => some (.d (.list ds), S1)
  | some (.scr ns, S1) => some (.d (.list (ns.map PyData.int)), S1)
  | _ => none := rfl
@[simp] theorem x_rev : eRev a ρ S = match a ρ S with
  | some (.d (.list ds), S1) => some (.d (.list ds.reverse), S1)
  | _ => none := rfl
@[simp] theorem x_isi (ty : String) : eIsi ty a ρ S = match a ρ S with
  | some (.d x, S1) => some (.d (.bool (isiD x ty)), S1)
  | _ => none := rfl
@[simp] theorem x_sortSet : eSortSet a ρ S = match a ρ S with
  | some (.d (.list ds), S1) => match intsD ds with
    | some is => if is.length < 64 then some (.d (.list ((setI is).map PyData.int)), S1) else none
    | none => none
  | _ => none := rfl
@[simp] theorem x_index : eIndex a b ρ S = match a ρ S with
  | some (.d (.list ds), S1) => match b ρ S1 with
    | some (.d d, S2) => if (PyData.list ds).depth ≤ 64 ∧ d.depth ≤ 64 then (ds.findIdx? fun z => PyData.eqv z d).map fun j => (.d (.int (j : Nat)), S2) else none
    | _ => none
  | _ => none := rfl
@[simp] theorem x_rep : eRep a b ρ S = match a ρ S with
  | some (.d (.list ds), S1) => match b ρ S1 with
    | some (.d (.int k), S2) => if 0 ≤ k ∧ k ≤ 1000 ∧ ds.length ≤ 1000 then some (.d (.list (List.replicate k.toNat ds).flatten), S2) else none
    | _ => none
  | _ => none := rfl
@[simp] theorem x_fld (c i : Nat) : eFld c i a ρ S = match a ρ S with
  | some (.obj n, S1) => match S1[n]? with
    | some (.inst c' fs) => if c' = c then (fs[i]?).map fun u => (u, S1) else none
    | _ => none
  | _ => none := rfl
@[simp] theorem x_meth (c f : Nat) : eMeth B c f a ms ρ S = match a ρ S with
  | some (.obj n, S1) => match S1[n]? with
    | some (.inst c' _) => if c' = c then (match ms ρ S1 with
      | some (us, S2) => B f (.obj n :: us) S2
      | none => none) else none
    | _ => none
  | _ => none := rfl
@[simp] theorem x_make (c f : Nat) : eMake B c f ms ρ S = match ms ρ S with
  | some (us, S1) => match B f (.obj S1.length :: us) (S1 ++ [.inst c []]) with
    | some (.d .none, S2) => some (.obj S1.length, S2)
    | _ => none
  | none => none := rfl
variable {m n : SMean}
@[simp] theorem x_skip : sSkip ρ S = some (.nx ρ S) := rfl
@[simp] theorem x_seq : sSeq m n ρ S = match m ρ S with
  | some (.nx ρ1 S1) => n ρ1 S1
  | r => r := rfl
@[simp] theorem x_never : sNever ρ S = none := rfl
@[simp] theorem x_brk : sBrk ρ S = some (.brk ρ S) := rfl
@[simp] theorem x_cnt : sCnt ρ S = some (.cnt ρ S) := rfl
@[simp] theorem x_drop : sDrop a ρ S = match a ρ S with
  | some (_, S1) => some (.nx ρ S1)
  | none => none := rfl
@[simp] theorem x_ret : sRet a ρ S = match a ρ S with
  | some (u, S1) => some (.ret u S1)
  | none => none := rfl
@[simp] theorem x_sIf : sIf t m n ρ S = match t ρ S with
  | some (.d (.bool true), S1) => m ρ S1
  | some (.d (.bool false), S1) => n ρ S1
  | _ => none := rfl
@[simp] theorem x_set (i : Nat) : sSet i a ρ S = match a ρ S with
  | some (u, S1) => some (.nx (ρ.set i (some u)) S1)
  | none => none := rfl
@[simp] theorem x_unp (tg : Tg) : sUnp tg a ρ S = match a ρ S with
  | some (.d d, S1) => (tg.set d ρ).map fun ρ1 => .nx ρ1 S1
  | _ => none := rfl
@[simp] theorem x_par (is : List Nat) : sPar is ms ρ S = match ms ρ S with
  | some (us, S1) => if us.length = is.length then some (.nx (setAll ρ is us) S1) else none
  | none => none := rfl
@[simp] theorem x_for (src : MSrc) (tg : Tg) : sFor src tg m ρ S = match src ρ S with
  | some (ds, S1) => forRun tg m ds ρ S1
  | none => none := rfl
@[simp] theorem x_app (i : Nat) : sApp i a ρ S = match a ρ S with
  | some (.d d, S1) => match ρ.getD i none with
    | some (.d (.list ds)) => if ds.length < 1000000 then some (.nx (ρ.set i (some (.d (.list (ds ++ [d]))))) S1) else none
    | _ => none
  | _ => none := rfl
@[simp] theorem x_aug (f : Int → Int → Int) (i : Nat) : sAug f i a ρ S = match ρ.getD i none with
  | some (.d (.int x)) => match a ρ S with
    | some (.d (.int y), S1) => some (.nx (ρ.set i (some (.d (.int (f x y))))) S1)
    | _ => none
  | _ => none := rfl
@[simp] theorem x_tgn (i : Nat) (d : D) : (Tg.n i).set d ρ = some (ρ.set i (some (.d d))) := rfl
@[simp] theorem x_all0 {α : Type} (l : List (Option α)) (xs : List α) : setAll l [] xs = l := by cases xs <;> rfl
@[simp] theorem x_all1 {α : Type} (l : List (Option α)) (i : Nat) (is : List Nat) (x : α) (xs : List α) : setAll l (i :: is) (x :: xs) = setAll (l.set i (some x)) is xs := rfl
@[simp] theorem x_tgt (is : List Nat) (ds : List D) : (Tg.t is).set (.tuple ds) ρ = if ds.length = is.length then some (setAll ρ is (ds.map .d)) else none := rfl
@[simp] theorem x_len1 (ds : List D) : opLen (.d (.list ds)) = some (.int ds.length) := rfl
@[simp] theorem x_len2 (ds : List D) : opLen (.d (.tuple ds)) = some (.int ds.length) := rfl
@[simp] theorem x_tuple1 (ds : List D) : opTuple (.d (.list ds)) = some (.tuple ds) := rfl
@[simp] theorem x_tuple2 (ds : List D) : opTuple (.d (.tuple ds)) = some (.tuple ds) := rfl
@[simp] theorem x_all (ds : List D) : opAll (.d (.list ds)) = (boolsD ds).map fun bs => .bool (bs.all id) := rfl
@[simp] theorem x_any (ds : List D) : opAny (.d (.list ds)) = (boolsD ds).map fun bs => .bool (bs.any id) := rfl
@[simp] theorem x_sum (ds : List D) : opSum (.d (.list ds)) = (intsD ds).map fun is => .int is.sum := rfl
@[simp] theorem x_int (i : Int) : opInt (.d (.int i)) = some (.int i) := rfl
@[simp] theorem x_sorted (ds : List D) : opSorted (.d (.list ds)) = if sortOk ds then some (.list (sortD ds)) else none := rfl
@[simp] theorem x_addI (i j : Int) : opAdd (.int i) (.int j) = some (.int (i + j)) := rfl
@[simp] theorem x_addT (x y : List D) : opAdd (.tuple x) (.tuple y) = if x.length + y.length ≤ 1000000 then some (.tuple (x ++ y)) else none := rfl
@[simp] theorem x_addL (x y : List D) : opAdd (.list x) (.list y) = if x.length + y.length ≤ 1000000 then some (.list (x ++ y)) else none := rfl
@[simp] theorem x_subI (i j : Int) : opSub (.int i) (.int j) = some (.int (i - j)) := rfl
@[simp] theorem x_gtI (i j : Int) : opGt (.int i) (.int j) = some (.bool (decide (j < i))) := rfl
@[simp] theorem x_geI (i j : Int) : opGe (.int i) (.int j) = some (.bool (decide (j ≤ i))) := rfl
@[simp] theorem x_leI (i j : Int) : opLe (.int i) (.int j) = some (.bool (decide (i ≤ j))) := rfl
@[simp] theorem x_ltI (i j : Int) : opLt (.int i) (.int j) = some (.bool (decide (i < j))) := rfl
@[simp] theorem x_mulI (i j : Int) : opMul (.int i) (.int j) = if smallI i || smallI j then some (.int (i * j)) else none := rfl
@[simp] theorem x_modI (i j : Int) : opMod (.int i) (.int j) = if 0 < j then some (.int (i % j)) else none := rfl
@[simp] theorem x_fdivI (i j : Int) : opFdiv (.int i) (.int j) = if 0 < j ∧ j < 1073741824 then some (.int (i / j)) else none := rfl
@[simp] theorem x_isN (x : D) : opIs x .none = some (.bool (isN x)) := rfl
@[simp] theorem x_isNotN (x : D) : opIsNot x .none = some (.bool (!isN x)) := rfl
@[simp] theorem x_isN0 : isN .none = true := rfl
@[simp] theorem x_isN1 (i : Int) : isN (.int i) = false := rfl
@[simp] theorem x_isN2 (s : Str) : isN (.str s) = false := rfl
@[simp] theorem x_isN3 (s : List D) : isN (.tuple s) = false := rfl
@[simp] theorem x_isN4 (s : List D) : isN (.list s) = false := rfl
end
/-! ### equality of plain data -/
mutual
/-- no bool, no dict in it -/
def pd : D → Bool
  | .none => true
  | .int _ => true
  | .str _ => true
  | .list xs => pds xs
  | .tuple xs => pds xs
  | .bool _ => false
  | .dict _ => false
def pds : List D → Bool
  | [] => true
  | x :: xs => pd x && pds xs
end
mutual
theorem eqv_pd : ∀ (x y : D), pd x = true → pd y = true → (PyData.eqv x y = true ↔ x = y)
  | .none, y, _, hy => by cases y <;> simp [PyData.eqv, pd] at *
  | .int i, y, _, hy => by cases y <;> simp [PyData.eqv, pd] at *
  | .str i, y, _, hy => by cases y <;> simp [PyData.eqv, pd] at *
  | .list xs, y, hx, hy => by
    cases y <;> simp [PyData.eqv, pd] at *
    exact eqvAll_pd xs _ hx hy
  | .tuple xs, y, hx, hy => by
    cases y <;> simp [PyData.eqv, pd] at *
    exact eqvAll_pd xs _ hx hy
  | .bool b, y, hx, _ => by simp [pd] at hx
  | .dict b, y, hx, _ => by simp [pd] at hx
theorem eqvAll_pd : ∀ (xs ys : List D), pds xs = true → pds ys = true → (PyData.eqvAll xs ys = true ↔ xs = ys)
  | [], ys, _, hy => by cases ys <;> simp [PyData.eqvAll]
  | x :: xs, ys, hx, hy => by
    cases ys with
    | nil => simp [PyData.eqvAll]
    | cons y ys =>
      simp only [pds, Bool.and_eq_true] at hx hy
      simp only [PyData.eqvAll, Bool.and_eq_true, List.cons.injEq, eqv_pd x y hx.1 hy.1, eqvAll_pd xs ys hx.2 hy.2]
end
theorem eqv_dec {x y : D} (hx : pd x = true) (hy : pd y = true) : PyData.eqv x y = true ↔ x = y := eqv_pd x y hx hy
/-- x in xs -/
theorem any_eqv {x : D} {ds : List D} (hx : pd x = true) (hd : ∀ d ∈ ds, pd d = true) : (ds.any fun z => PyData.eqv z x) = true ↔ x ∈ ds := by
  rw [List.any_eq_true]
  constructor
  · rintro ⟨z, hz, h⟩
    rw [eqv_dec (hd z hz) hx] at h
    exact h ▸ hz
  · intro h
    exact ⟨x, h, (eqv_dec hx hx).mpr rfl⟩
/-! ### loops -/
/-- a comprehension that changes nothing -/
theorem compRun_of {α : Type} {t : Tg} {tst elt : Mean} {ρ : Env} {S : Store} (emb : α → D) (p : α → Bool) (g : α → D) : ∀ (l : List α), (∀ a ∈ l, ∃ ρ1, t.set (emb a) ρ = some ρ1 ∧ tst ρ1 S = some (.d (.bool (p a)), S) ∧ (p a = true → elt ρ1 S = some (.d (g a), S))) →
    compRun t tst elt ρ (l.map emb) S = some ((l.filter p).map g, S)
  | [], _ => rfl
  | a :: l, h => by
    obtain ⟨ρ1, h1, h2, h3⟩ := h a List.mem_cons_self
    have ih := compRun_of emb p g l fun b hb => h b (List.mem_cons_of_mem _ hb)
    rw [List.map_cons]
    unfold compRun
    rw [h1]
    simp only [h2]
    cases hp : p a with
    | true =>
      simp only [h3 hp, ih, List.filter_cons, hp]
      simp
    | false =>
      simp only [ih, List.filter_cons, hp]
      simp
/-- a loop by an invariant of the environment; the body never leaves it -/
theorem forRun_of {α σ : Type} {t : Tg} {b : SMean} {S : Store} (emb : α → D) (I : σ → Env → Prop) (step : σ → α → σ) : ∀ (l : List α) (s : σ) (ρ : Env), I s ρ →
    (∀ (s : σ) (a : α) (ρ : Env), a ∈ l → I s ρ → ∃ ρ1 ρ2, t.set (emb a) ρ = some ρ1 ∧ (b ρ1 S = some (.nx ρ2 S) ∨ b ρ1 S = some (.cnt ρ2 S)) ∧ I (step s a) ρ2) →
    ∃ ρ2, forRun t b (l.map emb) ρ S = some (.nx ρ2 S) ∧ I (l.foldl step s) ρ2
  | [], s, ρ, hi, _ => ⟨ρ, rfl, hi⟩
  | a :: l, s, ρ, hi, h => by
    obtain ⟨ρ1, ρ2, h1, h2, h3⟩ := h s a ρ List.mem_cons_self hi
    obtain ⟨ρ3, h4, h5⟩ := forRun_of emb I step l (step s a) ρ2 h3 fun s' a' ρ' ha => h s' a' ρ' (List.mem_cons_of_mem _ ha)
    refine ⟨ρ3, ?_, h5⟩
    rw [List.map_cons]
    unfold forRun
    rw [h1]
    rcases h2 with h2 | h2
    · simp only [h2]; exact h4
    · simp only [h2]; exact h4
end MP
set_option Elab.async false
set_option linter.all false
set_option maxRecDepth 20000
/-! Part 17: typed data: steps, queues, states, deeds; sorting; loops that leave early. -/
namespace MP
open PySem L2
open PySem.W (alike alikeAll dataLe)
theorem cut_to (ds : List D) (k : Nat) : cutD ds none (some (k : Int)) = ds.take k := by
  unfold cutD
  rw [HT.sIx_nat, HT.sIx_none, List.drop_zero, Nat.sub_zero]
  by_cases h : k ≤ ds.length
  · rw [Nat.min_eq_left h]
  · rw [Nat.min_eq_right (by omega), List.take_of_length_le (Nat.le_refl _), List.take_of_length_le (by omega)]
theorem cut_from (ds : List D) (k : Nat) : cutD ds (some (k : Int)) none = ds.drop k := by
  unfold cutD
  rw [HT.sIx_nat, HT.sIx_none]
  by_cases h : k ≤ ds.length
  · rw [Nat.min_eq_left h, List.take_of_length_le (by rw [List.length_drop]; exact Nat.le_refl _)]
  · rw [Nat.min_eq_right (by omega), Nat.sub_self, List.take_zero, List.drop_eq_nil_of_le (by omega)]
theorem ixN_nat {n k : Nat} (h : k < n) : ixN n (k : Int) = some k := by
  unfold ixN
  rw [if_pos (by omega), if_pos (by omega), Int.toNat_natCast]
theorem atI_nat {α : Type} {l : List α} {k : Nat} {x : α} (h : l[k]? = some x) : L2.atI l (k : Int) = some x := by
  unfold L2.atI
  rw [ixN_nat (List.getElem?_eq_some_iff.mp h).1]
  exact h
/-- sorted by what its items stand for -/
def sortBy {α : Type} (f : α → D) (l : List α) : List α := l.mergeSort fun x y => dataLe false id (f x) (f y)
theorem sortD_map {α : Type} (f : α → D) (l : List α) : sortD (l.map f) = (sortBy f l).map f := by
  unfold sortD sortBy
  exact (List.map_mergeSort (r := fun x y => dataLe false id (f x) (f y)) (s := dataLe false id) (f := f) fun a _ b _ => rfl).symm
theorem sortBy_one {α : Type} (f : α → D) (x : α) : sortBy f [x] = [x] := by
  unfold sortBy
  exact List.mergeSort_singleton x
theorem sortBy_nil {α : Type} (f : α → D) : sortBy f [] = [] := by
  unfold sortBy
  exact List.mergeSort_nil
/-- a loop that may leave with u -/
theorem forRun_find {α : Type} {t : Tg} {b : SMean} {S : Store} {u : Val} (emb : α → D) (I : Env → Prop) (p : α → Bool) : ∀ (l : List α) (ρ : Env), I ρ →
    (∀ (a : α) (ρ : Env), a ∈ l → I ρ → ∃ ρ1, t.set (emb a) ρ = some ρ1 ∧ (p a = true → b ρ1 S = some (.ret u S)) ∧ (p a = false → ∃ ρ2, b ρ1 S = some (.nx ρ2 S) ∧ I ρ2)) →
    (l.any p = true → forRun t b (l.map emb) ρ S = some (.ret u S)) ∧ (l.any p = false → ∃ ρ2, forRun t b (l.map emb) ρ S = some (.nx ρ2 S) ∧ I ρ2)
  | [], ρ, hi, _ => ⟨fun h => by simp at h, fun _ => ⟨ρ, rfl, hi⟩⟩
  | a :: l, ρ, hi, h => by
    obtain ⟨ρ1, h1, h2, h3⟩ := h a ρ List.mem_cons_self hi
    rw [List.any_cons, List.map_cons]
    unfold forRun
    rw [h1]
    cases hp : p a with
    | true =>
      exact ⟨fun _ => by simp only [h2 hp], fun z => by simp at z⟩
    | false =>
      obtain ⟨ρ2, h4, h5⟩ := h3 hp
      simp only [h4]
      have ih := forRun_find emb I p l ρ2 h5 fun a' ρ' ha => h a' ρ' (List.mem_cons_of_mem _ ha)
      simpa using ih
/-! ### typed -/
def iT (l : List Int) : D := .tuple (l.map PyData.int)
theorem iT_inj {l m : List Int} (h : iT l = iT m) : l = m := by
  unfold iT at h
  injection h with h
  exact (List.map_inj_right fun x y e => by injection e).mp h
def wD (b : Bool) : D := .str (if b then "send" else "hear")
theorem wD_inj {a b : Bool} (h : wD a = wD b) : a = b := by
  unfold wD at h
  injection h with h
  revert h
  cases a <;> cases b <;> decide
structure Qe where
  a : Int
  b : Int
  row : List Int
deriving DecidableEq
def Qe.d (e : Qe) : D := .tuple [.int e.a, .int e.b, iT e.row]
theorem Qe.inj {x y : Qe} (h : x.d = y.d) : x = y := by
  cases x; cases y
  simp only [Qe.d, PyData.tuple.injEq, List.cons.injEq, PyData.int.injEq, and_true] at h
  obtain ⟨h1, h2, h3⟩ := h
  rw [h1, h2, iT_inj h3]
def qsD (q : List Qe) : D := .tuple (q.map Qe.d)
structure Here where
  st : List Int
  q : List Qe
deriving DecidableEq
def Here.d (h : Here) : D := .tuple [iT h.st, qsD h.q]
theorem Here.inj {x y : Here} (h : x.d = y.d) : x = y := by
  cases x; cases y
  simp only [Here.d, qsD, PyData.tuple.injEq, List.cons.injEq, and_true] at h
  obtain ⟨h1, h2⟩ := h
  rw [iT_inj h1, (List.map_inj_right fun x y e => Qe.inj e).mp h2]
structure Step where
  src : Int
  snd : Bool
  other : Int
  letter : Int
  dst : Int
deriving DecidableEq
def Step.d (s : Step) : D := .tuple [.int s.src, wD s.snd, .int s.other, .int s.letter, .int s.dst]
/-- a machine: its number of states, its steps -/
abbrev Mach := Int × List Step
def Mach.d (m : Mach) : D := .tuple [.int m.1, .tuple (m.2.map Step.d)]
def msD (ms : List Mach) : D := .tuple (ms.map Mach.d)
structure Deed where
  role : Int
  snd : Bool
  other : Int
  letter : Int
  behind : Here
deriving DecidableEq
def Deed.d (x : Deed) : D := .tuple [.int x.role, wD x.snd, .int x.other, .int x.letter, x.behind.d]
/-! plain, shallow, alike -/
theorem pd_iT (l : List Int) : pd (iT l) = true := by
  unfold iT
  simp only [pd]
  induction l with
  | nil => rfl
  | cons x l ih => simp [pds, pd, ih]
theorem pd_qs (q : List Qe) : pd (qsD q) = true := by
  unfold qsD
  simp only [pd]
  induction q with
  | nil => rfl
  | cons x l ih => simp [pds, pd, ih, Qe.d, pd_iT]
theorem pd_here (h : Here) : pd h.d = true := by simp [Here.d, pd, pds, pd_iT, pd_qs]
theorem dp_iT (l : List Int) : (iT l).depth ≤ 1 := by
  unfold iT
  simp only [PyData.depth]
  induction l with
  | nil => simp [PyData.depthAll]
  | cons x l ih => simp only [List.map_cons, PyData.depthAll, PyData.depth]; omega
theorem dp_qs (q : List Qe) : (qsD q).depth ≤ 3 := by
  unfold qsD
  simp only [PyData.depth]
  induction q with
  | nil => simp [PyData.depthAll]
  | cons x l ih =>
    have := dp_iT x.row
    simp only [List.map_cons, PyData.depthAll, Qe.d, PyData.depth]
    omega
theorem dp_here (h : Here) : h.d.depth ≤ 4 := by
  have := dp_iT h.st
  have := dp_qs h.q
  simp only [Here.d, PyData.depth, PyData.depthAll]
  omega
theorem dp_deed (x : Deed) : x.d.depth ≤ 5 := by
  have := dp_here x.behind
  simp only [Deed.d, PyData.depth, PyData.depthAll, wD]
  omega
theorem dp_qe (x : Qe) : x.d.depth ≤ 2 := by
  have := dp_iT x.row
  simp only [Qe.d, PyData.depth, PyData.depthAll]
  omega
theorem okD_of {d : D} {n : Nat} (h : d.depth ≤ n) (hn : n ≤ 1500) : okD d = true := decide_eq_true (by omega)
theorem alike_iT (l m : List Int) : alike (iT l) (iT m) = true := by
  unfold iT
  simp only [alike]
  exact PySem.W.alike_ints l m
theorem alike_qe (x y : Qe) : alike x.d y.d = true := by simp [Qe.d, alike, alikeAll, alike_iT]
theorem alike_qs : ∀ (p q : List Qe), alike (qsD p) (qsD q) = true := by
  intro p q
  unfold qsD
  simp only [alike]
  induction p generalizing q with
  | nil => simp [alikeAll]
  | cons x p ih =>
    cases q with
    | nil => simp [alikeAll]
    | cons y q => simp [alikeAll, alike_qe, ih]
theorem alike_deed (x y : Deed) : alike x.d y.d = true := by simp [Deed.d, Here.d, alike, alikeAll, alike_iT, alike_qs, wD]
theorem sortOk_map {α : Type} (f : α → D) (l : List α) (h1 : ∀ x y, alike (f x) (f y) = true) (h2 : ∀ x, isT1 (f x) = true) (h3 : ∀ x, okD (f x) = true) : sortOk (l.map f) = true := by
  unfold sortOk
  simp only [List.all_map, Bool.and_eq_true, Bool.or_eq_true, List.all_eq_true, Function.comp]
  exact ⟨⟨fun x _ y _ => h1 x y, .inl fun x _ => h2 x⟩, fun x _ => h3 x⟩
theorem sortOk_qs (l : List Qe) : sortOk (l.map Qe.d) = true := sortOk_map _ l alike_qe (fun x => rfl) fun x => okD_of (dp_qe x) (by omega)
theorem sortOk_deeds (l : List Deed) : sortOk (l.map Deed.d) = true := sortOk_map _ l alike_deed (fun x => rfl) fun x => okD_of (dp_deed x) (by omega)
/-! ### what they do -/
def rowOf (q : List Qe) (a b : Int) : List Int := match q.filter (fun e => decide (e.a = a) && decide (e.b = b)) with
  | [] => []
  | e :: _ => e.row
def withRow (q : List Qe) (a b : Int) (row : List Int) : List Qe := sortBy Qe.d (q.filter (fun e => !(decide (e.a = a) && decide (e.b = b))) ++ if 0 < row.length then [⟨a, b, row⟩] else [])
def stepsAt (ms : List Mach) (st : List Int) (r : Nat) : List Step := (ms.getD r (0, [])).2.filter fun s => decide (s.src = st.getD r 0)
def stepDeed (ms : List Mach) (h : Here) (room : Int) (r : Nat) (s : Step) : List Deed :=
  if s.snd = true then
    (if s.other < (ms.length : Int) ∧ s.other ≠ (r : Int) ∧ ((rowOf h.q r s.other).length : Int) < room then [⟨r, true, s.other, s.letter, ⟨h.st.set r s.dst, withRow h.q r s.other (rowOf h.q r s.other ++ [s.letter])⟩⟩] else [])
  else (if (rowOf h.q s.other r).take 1 = [s.letter] then [⟨r, false, s.other, s.letter, ⟨h.st.set r s.dst, withRow h.q s.other r ((rowOf h.q s.other r).drop 1)⟩⟩] else [])
def deedsAt (ms : List Mach) (h : Here) (room : Int) : List Deed := (List.range ms.length).flatMap fun r => (stepsAt ms h.st r).flatMap (stepDeed ms h room r)
def deedsT (ms : List Mach) (h : Here) (room : Int) : List Deed := sortBy Deed.d (deedsAt ms h room)
def isUnheard (steps : List Step) (q : List Qe) (r : Int) : Bool := (setI (steps.map Step.other)).any fun o => decide (0 < (rowOf q o r).length) && !((steps.filter fun s => decide (s.other = o)).map Step.letter).contains ((rowOf q o r).getD 0 0)
inductive Tr where
  | unheard | left | stuck
deriving DecidableEq
def Tr.d : Tr → D
  | .unheard => .str "unheard"
  | .left => .str "left"
  | .stuck => .str "stuck"
def optTr : Option Tr → D
  | none => .none
  | some t => t.d
def troubleT (ms : List Mach) (h : Here) (room : Int) : Option Tr :=
  if (List.range ms.length).any (fun r => decide (0 < (stepsAt ms h.st r).length) && (stepsAt ms h.st r).all (fun s => !s.snd) && isUnheard (stepsAt ms h.st r) h.q r) then some .unheard
  else if 0 < (deedsAt ms h room).length then none
  else if (List.range ms.length).all fun r => decide ((stepsAt ms h.st r).length = 0) then (if 0 < h.q.length then some .left else none)
  else some .stuck
/-- a loop, by what holds ahead of its k-th turn -/
theorem forRun_ix {α : Type} {t : Tg} {b : SMean} {S : Store} (emb : α → D) (I : Nat → Env → Prop) : ∀ (l : List α) (i : Nat) (ρ : Env), I i ρ →
    (∀ (k : Nat) (a : α) (ρ : Env), l[k]? = some a → I (i + k) ρ → ∃ ρ1 ρ2, t.set (emb a) ρ = some ρ1 ∧ (b ρ1 S = some (.nx ρ2 S) ∨ b ρ1 S = some (.cnt ρ2 S)) ∧ I (i + k + 1) ρ2) →
    ∃ ρ2, forRun t b (l.map emb) ρ S = some (.nx ρ2 S) ∧ I (i + l.length) ρ2
  | [], i, ρ, hi, _ => ⟨ρ, rfl, hi⟩
  | a :: l, i, ρ, hi, h => by
    obtain ⟨ρ1, ρ2, h1, h2, h3⟩ := h 0 a ρ rfl hi
    obtain ⟨ρ3, h4, h5⟩ := forRun_ix emb I l (i + 1) ρ2 h3 fun k a' ρ' ha hi' => by
      have := h (k + 1) a' ρ' (by simpa using ha) (by rw [show i + (k + 1) = i + 1 + k by omega]; exact hi')
      rwa [show i + (k + 1) + 1 = i + 1 + k + 1 by omega] at this
    refine ⟨ρ3, ?_, by rw [List.length_cons, show i + (l.length + 1) = i + 1 + l.length by omega]; exact h5⟩
    rw [List.map_cons]
    unfold forRun
    rw [h1]
    rcases h2 with h2 | h2
    · simp only [h2]; exact h4
    · simp only [h2]; exact h4
theorem upFrom_range (n : Nat) : upFrom 0 n = (List.range n).map fun (i : Nat) => PyData.int (i : Int) := by
  unfold upFrom
  congr 1
  funext i
  rw [Int.zero_add]
/-- sizes -/
structure WF (ms : List Mach) (room : Int) (h : Here) : Prop where
  len : h.st.length = ms.length
  few : ms.length ≤ 1000
  steps : ∀ m ∈ ms, m.2.length ≤ 60
  qs : h.q.length ≤ 100
  rows : ∀ e ∈ h.q, e.row.length ≤ 1000
theorem WF.row {ms : List Mach} {room : Int} {h : Here} (w : WF ms room h) (a b : Int) : (rowOf h.q a b).length ≤ 1000 := by
  unfold rowOf
  split
  · simp
  · rename_i e r he
    exact w.rows e (List.mem_filter.mp (by rw [he]; exact List.mem_cons_self)).1
theorem WF.stepsAt {ms : List Mach} {room : Int} {h : Here} (w : WF ms room h) (r : Nat) : (stepsAt ms h.st r).length ≤ 60 := by
  unfold MP.stepsAt
  refine Nat.le_trans (List.length_filter_le _ _) ?_
  rw [List.getD_eq_getElem?_getD]
  cases e : ms[r]? with
  | none => simp
  | some m => simpa using w.steps m (List.mem_of_getElem? e)
theorem stepDeed_le (ms : List Mach) (h : Here) (room : Int) (r : Nat) (s : Step) : (stepDeed ms h room r s).length ≤ 1 := by
  unfold stepDeed
  split
  · split <;> simp
  · split <;> simp
theorem flatMap_le {α β : Type} {f : α → List β} {c : Nat} (h : ∀ a, (f a).length ≤ c) : ∀ (l : List α), (l.flatMap f).length ≤ c * l.length
  | [] => by simp
  | a :: l => by
    have := flatMap_le h l
    have := h a
    rw [List.flatMap_cons, List.length_append, List.length_cons, Nat.mul_add]
    omega
@[simp] theorem iT_len (l : List Int) : opLen (.d (iT l)) = some (.int l.length) := by unfold iT; rw [x_len2, List.length_map]
@[simp] theorem qs_len (l : List Qe) : opLen (.d (qsD l)) = some (.int l.length) := by unfold qsD; rw [x_len2, List.length_map]
@[simp] theorem ms_len (l : List Mach) : opLen (.d (msD l)) = some (.int l.length) := by unfold msD; rw [x_len2, List.length_map]
@[simp] theorem iT_to (l : List Int) : opSl (.d (iT l)) none (some 1) = some (iT (l.take 1)) := by
  unfold iT
  rw [x_slT, show (1 : Int) = ((1 : Nat) : Int) from rfl, cut_to, List.map_take]
@[simp] theorem iT_from (l : List Int) : opSl (.d (iT l)) (some 1) none = some (iT (l.drop 1)) := by
  unfold iT
  rw [x_slT, show (1 : Int) = ((1 : Nat) : Int) from rfl, cut_from, List.map_drop]
theorem iT_add {l : List Int} {x : Int} (h : l.length ≤ 1000) : opAdd (iT l) (.tuple [.int x]) = some (iT (l ++ [x])) := by
  unfold iT
  rw [x_addT, if_pos (by simp; omega)]
  simp
theorem eq_two (a b c d : Int) : opEq (.tuple [.int a, .int b]) (.tuple [.int c, .int d]) = some (.bool (decide (a = c) && decide (b = d))) := by
  simp [opEq, okD, PyData.depth, PyData.depthAll, PyData.eqv, PyData.eqvAll]
  constructor <;> rfl
theorem ne_two (a b c d : Int) : opNe (.tuple [.int a, .int b]) (.tuple [.int c, .int d]) = some (.bool (!(decide (a = c) && decide (b = d)))) := by
  simp [opNe, okD, PyData.depth, PyData.depthAll, PyData.eqv, PyData.eqvAll]
  constructor <;> rfl
theorem eq_int (a b : Int) : opEq (.int a) (.int b) = some (.bool (decide (a = b))) := by
  simp [opEq, okD, PyData.depth, PyData.eqv]
  rfl
theorem ne_int (a b : Int) : opNe (.int a) (.int b) = some (.bool (!decide (a = b))) := by
  simp [opNe, okD, PyData.depth, PyData.eqv]
  rfl
theorem eq_str (a b : Str) : opEq (.str a) (.str b) = some (.bool (decide (a = b))) := by
  simp [opEq, okD, PyData.depth, PyData.eqv]
  rfl
theorem eq_one (l : List Int) (x : Int) : opEq (iT l) (.tuple [.int x]) = some (.bool (decide (l = [x]))) := by
  have h : okD (.tuple [.int x]) = true := by simp [okD, PyData.depth, PyData.depthAll]
  have e : PyData.eqv (iT l) (.tuple [.int x]) = true ↔ l = [x] := by
    show PyData.eqv (iT l) (iT [x]) = true ↔ l = [x]
    rw [eqv_dec (pd_iT l) (pd_iT [x])]
    exact ⟨fun q => iT_inj (m := [x]) q, fun q => by rw [q]⟩
  unfold opEq
  rw [h]
  simp only [Bool.true_or, if_true]
  congr 3
  exact Bool.eq_iff_iff.mpr (by rw [e, decide_eq_true_eq])
theorem w_ss : opEq (.str "send") (.str "send") = some (.bool true) := by rw [eq_str]; rfl
theorem w_hs : opEq (.str "hear") (.str "send") = some (.bool false) := by rw [eq_str]; rfl
theorem w_sh : opEq (.str "send") (.str "hear") = some (.bool false) := by rw [eq_str]; rfl
theorem w_hh : opEq (.str "hear") (.str "hear") = some (.bool true) := by rw [eq_str]; rfl
@[simp] theorem ms_items (S : Store) (l : List Mach) : items S (.d (msD l)) = some (l.map Mach.d) := rfl
@[simp] theorem iT_items (S : Store) (l : List Int) : items S (.d (iT l)) = some (l.map PyData.int) := rfl
@[simp] theorem qs_items (S : Store) (l : List Qe) : items S (.d (qsD l)) = some (l.map Qe.d) := rfl
def mAt (ms : List Mach) (r : Nat) : Mach := ms.getD r (0, [])
def sAt (st : List Int) (r : Nat) : Int := st.getD r 0
theorem stepsAt_eq (ms : List Mach) (st : List Int) (r : Nat) : stepsAt ms st r = (mAt ms r).2.filter fun s => decide (s.src = sAt st r) := rfl
theorem machine_at {ms : List Mach} {r : Nat} (hr : r < ms.length) : L2.atI (ms.map Mach.d) (r : Int) = some (Mach.d (mAt ms r)) := by
  refine MP.atI_nat ?_
  unfold mAt
  rw [List.getElem?_map, List.getD_eq_getElem?_getD, List.getElem?_eq_getElem hr]
  simp
theorem state_at {st : List Int} {r : Nat} (hr : r < st.length) : L2.atI (st.map PyData.int) (r : Int) = some (.int (sAt st r)) := by
  refine MP.atI_nat ?_
  unfold sAt
  rw [List.getElem?_map, List.getD_eq_getElem?_getD, List.getElem?_eq_getElem hr]
  simp
theorem intsD_map : ∀ (l : List Int), intsD (l.map PyData.int) = some l
  | [] => rfl
  | x :: l => by simp [intsD, intsD_map l]
theorem notIn_ints (x : Int) (l : List Int) : opNotIn (.int x) (.list (l.map PyData.int)) = some (.bool (!l.contains x)) := by
  have h : (l.map PyData.int).any (fun z => PyData.eqv z (.int x)) = l.contains x := by
    rw [Bool.eq_iff_iff, any_eqv (by rfl) (fun d hd => by
      obtain ⟨i, _, rfl⟩ := List.mem_map.mp hd
      rfl), List.contains_iff_mem, List.mem_map]
    constructor
    · rintro ⟨i, hi, e⟩
      injection e with e
      exact e ▸ hi
    · exact fun hi => ⟨x, hi, rfl⟩
  unfold opNotIn
  simp only [okD, PyData.depth]
  rw [h]
  rfl
theorem all_true {α : Type} (l : List α) : l.filter (fun _ => true) = l := List.filter_eq_self.mpr fun _ _ => rfl
theorem boolsD_map : ∀ (l : List Bool), boolsD (l.map PyData.bool) = some l
  | [] => rfl
  | x :: l => by simp [boolsD, boolsD_map l]
@[simp] theorem here_set (i j : Nat) (h : Here) (ρ : Env) : (Tg.t [i, j]).set h.d ρ = some ((ρ.set i (some (.d (iT h.st)))).set j (some (.d (qsD h.q)))) := rfl
theorem deedsT_len (ms : List Mach) (h : Here) (room : Int) : (deedsT ms h room).length = (deedsAt ms h room).length := by
  unfold deedsT sortBy
  exact List.length_mergeSort _
end MP
set_option Elab.async false
set_option linter.all false
set_option maxRecDepth 20000
/-! Part 18: the search, typed. -/
namespace MP
open PySem L2
section
variable {σ δ τ : Type} [DecidableEq σ]
def addOne (way : List δ) (s : List σ × List (List δ)) (a : δ × σ) : List σ × List (List δ) :=
  if a.2 ∉ s.1 ∧ s.1.length < 3000 then (s.1 ++ [a.2], s.2 ++ [way ++ [a.1]]) else s
def bfsRun (trouble : σ → Option τ) (next : σ → List (δ × σ)) : Nat → List σ → List (List δ) → Nat → Option (Option (τ × List δ) × List σ)
  | 0, _, _, _ => none
  | k + 1, found, ways, i => match found[i]? with
    | none => some (none, found)
    | some x => match trouble x with
      | some t => some (some (t, ways.getD i []), found)
      | none => bfsRun trouble next k ((next x).foldl (addOne (ways.getD i [])) (found, ways)).1 ((next x).foldl (addOne (ways.getD i [])) (found, ways)).2 (i + 1)
/-- what the lists keep to -/
structure BOk (P : σ → Prop) (found : List σ) (ways : List (List δ)) : Prop where
  len : ways.length = found.length
  few : found.length ≤ 3000
  short : ∀ (k : Nat) (w : List δ), ways[k]? = some w → w.length ≤ k
  all : ∀ x ∈ found, P x
theorem BOk.add {P : σ → Prop} {found : List σ} {ways : List (List δ)} (h : BOk P found ways) {i : Nat} {way : List δ} (hi : ways[i]? = some way) {a : δ × σ} (ha : P a.2) :
    BOk P (addOne way (found, ways) a).1 (addOne way (found, ways) a).2 ∧ (addOne way (found, ways) a).2[i]? = some way := by
  unfold addOne
  split
  · rename_i hc
    have hc : a.2 ∉ found ∧ found.length < 3000 := hc
    have hil := (List.getElem?_eq_some_iff.mp hi).1
    have hs := h.short i way hi
    refine ⟨⟨by simp [h.len], by show (found ++ [a.2]).length ≤ 3000; simp; omega, fun k w hk => ?_, fun x hx => ?_⟩, ?_⟩
    · have hk : (ways ++ [way ++ [a.1]])[k]? = some w := hk
      by_cases hkl : k < ways.length
      · rw [List.getElem?_append_left hkl] at hk
        exact h.short k w hk
      · rw [List.getElem?_append_right (by omega)] at hk
        have hz : k - ways.length = 0 := by
          have := (List.getElem?_eq_some_iff.mp hk).1
          simp at this; omega
        rw [hz] at hk
        simp at hk
        subst hk
        simp
        omega
    · rcases List.mem_append.mp hx with e | e
      · exact h.all x e
      · rw [List.mem_singleton] at e
        subst e
        exact ha
    · show (ways ++ [way ++ [a.1]])[i]? = some way
      rw [List.getElem?_append_left hil]
      exact hi
  · exact ⟨h, hi⟩
theorem BOk.fold {P : σ → Prop} {i : Nat} {way : List δ} : ∀ (l : List (δ × σ)) {found : List σ} {ways : List (List δ)}, BOk P found ways → ways[i]? = some way → (∀ a ∈ l, P a.2) →
    BOk P (l.foldl (addOne way) (found, ways)).1 (l.foldl (addOne way) (found, ways)).2 ∧ (l.foldl (addOne way) (found, ways)).2[i]? = some way
  | [], _, _, h, hi, _ => ⟨h, hi⟩
  | a :: l, found, ways, h, hi, ha => by
    obtain ⟨h1, h2⟩ := h.add hi (ha a List.mem_cons_self)
    rw [List.foldl_cons]
    exact BOk.fold l h1 h2 fun b hb => ha b (List.mem_cons_of_mem _ hb)
end
/-! mapped -/
section
variable {α β σ δ τ : Type} [DecidableEq σ] [DecidableEq α]
def mapR (f : α → σ) (g : β → δ) (r : Option (τ × List β) × List α) : Option (τ × List δ) × List σ := (r.1.map fun p => (p.1, p.2.map g), r.2.map f)
theorem addOne_map {f : α → σ} {g : β → δ} (hf : ∀ x y, f x = f y → x = y) (way : List β) (s : List α × List (List β)) (a : β × α) :
    addOne (way.map g) (s.1.map f, s.2.map (List.map g)) (g a.1, f a.2) = ((addOne way s a).1.map f, (addOne way s a).2.map (List.map g)) := by
  unfold addOne
  have e : f a.2 ∈ s.1.map f ↔ a.2 ∈ s.1 := by
    rw [List.mem_map]
    exact ⟨fun ⟨x, hx, q⟩ => hf _ _ q ▸ hx, fun h => ⟨_, h, rfl⟩⟩
  simp only [e, List.length_map]
  split <;> simp
theorem fold_map {f : α → σ} {g : β → δ} (hf : ∀ x y, f x = f y → x = y) (way : List β) : ∀ (l : List (β × α)) (s : List α × List (List β)),
    (l.map fun a => (g a.1, f a.2)).foldl (addOne (way.map g)) (s.1.map f, s.2.map (List.map g)) = ((l.foldl (addOne way) s).1.map f, (l.foldl (addOne way) s).2.map (List.map g))
  | [], s => rfl
  | a :: l, s => by
    rw [List.map_cons, List.foldl_cons, List.foldl_cons, addOne_map hf way s a]
    exact fold_map hf way l _
/-- a search over other states that stand for these -/
theorem bfs_map {f : α → σ} {g : β → δ} (hf : ∀ x y, f x = f y → x = y) {P : α → Prop} {tr : σ → Option τ} {nx : σ → List (δ × σ)} {trA : α → Option τ} {nxA : α → List (β × α)}
    (ht : ∀ x, P x → tr (f x) = trA x) (hn : ∀ x, P x → nx (f x) = (nxA x).map fun a => (g a.1, f a.2)) (hP : ∀ x, P x → ∀ a ∈ nxA x, P a.2) : ∀ (k : Nat) (found : List α) (ways : List (List β)) (i : Nat), (∀ x ∈ found, P x) →
    bfsRun tr nx k (found.map f) (ways.map (List.map g)) i = (bfsRun trA nxA k found ways i).map (mapR f g)
  | 0, _, _, _, _ => rfl
  | k + 1, found, ways, i, hp => by
    unfold bfsRun
    rw [List.getElem?_map]
    cases hx : found[i]? with
    | none => rfl
    | some x =>
      have px := hp x (List.mem_of_getElem? hx)
      simp only [Option.map_some, ht x px]
      have hw : (ways.map (List.map g)).getD i [] = (ways.getD i []).map g := by
        rw [List.getD_eq_getElem?_getD, List.getD_eq_getElem?_getD, List.getElem?_map]
        cases ways[i]? <;> rfl
      cases htr : trA x with
      | some t => simp only [mapR, Option.map_some, hw]
      | none =>
        simp only [hn x px, hw]
        rw [fold_map hf _ _ (found, ways)]
        have hall : ∀ (l : List (β × α)) (s : List α × List (List β)), (∀ x ∈ s.1, P x) → (∀ a ∈ l, P a.2) → ∀ x ∈ (l.foldl (addOne (ways.getD i [])) s).1, P x := by
          intro l
          induction l with
          | nil => intro s h _; exact h
          | cons a l ih =>
            intro s h ha
            rw [List.foldl_cons]
            refine ih _ ?_ fun b hb => ha b (List.mem_cons_of_mem _ hb)
            unfold addOne
            split
            · intro x hx
              rcases List.mem_append.mp hx with e | e
              · exact h x e
              · rw [List.mem_singleton] at e
                subst e
                exact ha a List.mem_cons_self
            · exact h
        exact bfs_map hf ht hn hP k _ _ _ (hall _ _ hp (hP x px))
end
/-! keys -/
structure DKey where
  role : Int
  word : Str
  other : Int
  letter : Int
deriving DecidableEq
def DKey.d (k : DKey) : D := .tuple [.int k.role, .str k.word, .int k.other, .int k.letter]
theorem DKey.inj {x y : DKey} (h : x.d = y.d) : x = y := by
  cases x; cases y
  simpa [DKey.d] using h
def Deed.key (x : Deed) : DKey := ⟨x.role, if x.snd then "send" else "hear", x.other, x.letter⟩
def wayD (w : List DKey) : D := .tuple (w.map DKey.d)
def nextT (ms : List Mach) (room : Int) (h : Here) : List (DKey × Here) := (deedsT ms h room).map fun x => (x.key, x.behind)
theorem notIn_here (h : Here) (f : List Here) : opNotIn h.d (.list (f.map Here.d)) = some (.bool (decide (h ∉ f))) := by
  have e : ((f.map Here.d).any fun z => PyData.eqv z h.d) = decide (h ∈ f) := by
    rw [Bool.eq_iff_iff, any_eqv (pd_here h) (fun d hd => by
      obtain ⟨x, _, rfl⟩ := List.mem_map.mp hd
      exact pd_here x), decide_eq_true_eq, List.mem_map]
    exact ⟨fun ⟨x, hx, q⟩ => Here.inj q ▸ hx, fun q => ⟨h, q, rfl⟩⟩
  show (if okD h.d = true then some (PyData.bool !((f.map Here.d).any fun z => PyData.eqv z h.d)) else none) = _
  rw [e, okD_of (dp_here h) (by omega)]
  simp
/-- a state and what was spent -/
structure HereS where
  h : Here
  s : Int
deriving DecidableEq
def HereS.d (x : HereS) : D := .tuple [x.h.d, .int x.s]
theorem HereS.inj {x y : HereS} (h : x.d = y.d) : x = y := by
  cases x; cases y
  simp only [HereS.d, PyData.tuple.injEq, List.cons.injEq, PyData.int.injEq, and_true] at h
  obtain ⟨h1, h2⟩ := h
  rw [Here.inj h1, h2]
theorem notIn_hereS (x : HereS) (f : List HereS) : opNotIn (.tuple [x.h.d, .int x.s]) (.list (f.map HereS.d)) = some (.bool (decide (x ∉ f))) := by
  have pdx : ∀ x : HereS, pd x.d = true := fun x => by simp [HereS.d, pd, pds, pd_here]
  have e : ((f.map HereS.d).any fun z => PyData.eqv z x.d) = decide (x ∈ f) := by
    rw [Bool.eq_iff_iff, any_eqv (pdx x) (fun d hd => by
      obtain ⟨x, _, rfl⟩ := List.mem_map.mp hd
      exact pdx x), decide_eq_true_eq, List.mem_map]
    exact ⟨fun ⟨y, hy, q⟩ => HereS.inj q ▸ hy, fun q => ⟨x, q, rfl⟩⟩
  have dp : okD (.tuple [x.h.d, .int x.s]) = true := by
    have := dp_here x.h
    exact decide_eq_true (by simp only [PyData.depth, PyData.depthAll]; omega)
  show (if okD (.tuple [x.h.d, .int x.s]) = true then some (PyData.bool !((f.map HereS.d).any fun z => PyData.eqv z x.d)) else none) = _
  rw [e, dp]
  simp
end MP
set_option Elab.async false
set_option linter.all false
set_option maxRecDepth 100000
namespace K53
open PySem MP
/-- _law_same: 0 actual, 1 due, 2 k -/
def b__law_same (B : Calls) : SMean := sSeq (sIf (eOr (eIsi "tuple" (eVar 1)) (eIsi "list" (eVar 1))) (sSeq (sIf (eOr (eBin opNe (eIsi "tuple" (eVar 1)) (eIsi "tuple" (eVar 0))) (eOr (eBin opNe (eIsi "list" (eVar 1)) (eIsi "list" (eVar 0))) (eBin opNe (eU opLen (eVar 0)) (eU opLen (eVar 1))))) (sRet (eC (.bool false))) (sSkip)) (sRet (eBin opEq (eU opLen (eComp (sRg1 (eU opLen (eVar 1))) (.n 2) [2] (eNot (eCall B 0 (aCons (eIx (eVar 0) (eVar 2)) (aCons (eIx (eVar 1) (eVar 2)) (aNil))) [])) (eVar 2))) (eC (.int 0))))) (sSkip)) (sSeq (sIf (eBin opIs (eVar 1) (eC .none)) (sRet (eBin opIs (eVar 0) (eC .none))) (sSkip)) (sSeq (sIf (eOr (eIsi "bool" (eVar 1)) (eIsi "bool" (eVar 0))) (sRet (eAnd (eIsi "bool" (eVar 1)) (eAnd (eIsi "bool" (eVar 0)) (eBin opEq (eVar 0) (eVar 1))))) (sSkip)) (sSeq (sIf (eIsi "int" (eVar 1)) (sRet (eAnd (eIsi "int" (eVar 0)) (eBin opEq (eVar 0) (eVar 1)))) (sSkip)) (sRet (eAnd (eIsi "str" (eVar 0)) (eAnd (eIsi "str" (eVar 1)) (eBin opEq (eVar 0) (eVar 1))))))))
/-- _law_pool: 0 script, 1 salt, 2 cell -/
def l0__law_pool (B : Calls) : SMean := sSet 1 (eBin opMod (eU opInt (eBin opAdd (eBin opMul (eVar 1) (eC (.int 31))) (eVar 2))) (eC (.int 1000003)))
def b__law_pool (B : Calls) : SMean := sSeq (sSet 1 (eC (.int 7))) (sSeq (sFor (sSq (eSl (eVar 0) (oNo) (oSome (eC (.int 63))))) (.n 2) (l0__law_pool B)) (sRet (eCells (aCons (eList (eVar 0)) (aCons (eC (.int 0)) (aCons (eC (.int 0)) (aCons (eC (.int 0)) (aCons (eVar 1) (aNil)))))))))
/-- _law_spread: 0 cell, 1 mixed, 2 total, 3 k -/
def l0__law_spread (B : Calls) : SMean := sSeq (sSet 1 (eBin opMod (eU opInt (eBin opAdd (eBin opAdd (eBin opMul (eVar 1) (eC (.int 48271))) (eC (.int 12345))) (eVar 3))) (eC (.int 2147483647)))) (sSet 2 (eBin opAdd (eBin opMul (eVar 2) (eC (.int 2147483647))) (eVar 1)))
def b__law_spread (B : Calls) : SMean := sSeq (sSet 1 (eBin opMod (eU opInt (eVar 0)) (eC (.int 2147483647)))) (sSeq (sSet 2 (eC (.int 1))) (sSeq (sFor (sRg1 (eC (.int 4))) (.n 3) (l0__law_spread B)) (sRet (eVar 2))))
/-- _law_draw: 0 pool, 1 many, 2 cell, 3 mixed, 4 value -/
def b__law_draw (B : Calls) : SMean := sSeq (sIf (eAnd (eBin opLe (eIx (eVar 0) (eC (.int 2))) (eC (.int 0))) (eBin opLt (eIx (eVar 0) (eC (.int 1))) (eU opLen (eIx (eVar 0) (eC (.int 0)))))) (sSeq (sSet 2 (eIx (eIx (eVar 0) (eC (.int 0))) (eIx (eVar 0) (eC (.int 1))))) (sSeq (sCell (eVar 0) (eC (.int 1)) (eBin opAdd (eIx (eVar 0) (eC (.int 1))) (eC (.int 1)))) (sSeq (sCell (eVar 0) (eC (.int 2)) (eVar 2)) (sIf (eBin opLt (eVar 2) (eC (.int 1000000000000000000))) (sCell (eVar 0) (eC (.int 2)) (eCall B 2 (aCons (eVar 2) (aNil)) [])) (sSkip))))) (sSkip)) (sSeq (sCell (eVar 0) (eC (.int 3)) (eBin opAdd (eIx (eVar 0) (eC (.int 3))) (eC (.int 1)))) (sSeq (sIf (eBin opLe (eIx (eVar 0) (eC (.int 2))) (eC (.int 0))) (sSeq (sSet 3 (eBin opMod (eU opInt (eBin opAdd (eBin opAdd (eBin opMul (eIx (eVar 0) (eC (.int 4))) (eC (.int 48271))) (eBin opMul (eIx (eVar 0) (eC (.int 3))) (eC (.int 69621)))) (eC (.int 1)))) (eC (.int 2147483647)))) (sSeq (sSet 3 (eBin opMod (eU opInt (eBin opAdd (eBin opMul (eVar 3) (eC (.int 16807))) (eIx (eVar 0) (eC (.int 3))))) (eC (.int 2147483629)))) (sRet (eBin opMod (eBin opFdiv (eVar 3) (eC (.int 5))) (eVar 1))))) (sSkip)) (sSeq (sSet 4 (eBin opMod (eU opInt (eIx (eVar 0) (eC (.int 2)))) (eVar 1))) (sSeq (sCell (eVar 0) (eC (.int 2)) (eBin opFdiv (eIx (eVar 0) (eC (.int 2))) (eVar 1))) (sRet (eVar 4))))))
/-- _law_shuffled: 0 pool, 1 items, 2 left, 3 found -/
def l0__law_shuffled (B : Calls) : SMean := sPopApp 3 2 (eCall B 3 (aCons (eVar 0) (aCons (eU opLen (eVar 2)) (aNil))) [])
def b__law_shuffled (B : Calls) : SMean := sSeq (sSet 2 (eList (eVar 1))) (sSeq (sSet 3 (eLst (aNil))) (sSeq (sWhile 100 (eBin opNe (eVar 2) (eLst (aNil))) (l0__law_shuffled B)) (sRet (eVar 3))))
/-- _law_line_of: 0 p, 1 q, 2 letters, 3 rest, 4 letter -/
def l0__law_line_of (B : Calls) : SMean := sSet 3 (eTup (aCons (eC (.str "say")) (aCons (eVar 0) (aCons (eVar 1) (aCons (eTup (aCons (eTup (aCons (eVar 4) (aCons (eVar 3) (aNil)))) (aNil))) (aNil))))))
def b__law_line_of (B : Calls) : SMean := sSeq (sFor (sSq (eRev (eVar 2))) (.n 4) (l0__law_line_of B)) (sRet (eVar 3))
/-- law: 0 script, 1 pool, 2 roles, 3 letter, 4 many, 5 talk, 6 machines, 7 room, 8 word, 9 due, 10 more, 11 told, 12 row, 13 bad, 14 sends, 15 hears, 16 on_way_v, 17 deed, 18 part -/
def l0_law (B : Calls) : SMean := sSeq (sSet 16 (eBin opAdd (eVar 16) (eIf (eBin opEq (eVar 17) (eVar 14)) (eC (.int 1)) (eIf (eBin opEq (eVar 17) (eVar 15)) (eNeg (eC (.int 1))) (eIf (eBin opEq (eVar 8) (eC (.str "lost"))) (eNeg (eC (.int 1))) (eC (.int 1))))))) (sIf (eBin opLt (eVar 16) (eC (.int 0))) (sRet (eC (.bool false))) (sSkip))
def l1_law (B : Calls) : SMean := sSeq (sUnp (.t [11, 12]) (eCall B 26 (aCons (eVar 6) (aCons (eVar 7) (aCons (eVar 8) (aNil)))) [])) (sSeq (sSet 13 (eTup (aCons (eIx (eVar 2) (eC (.int 0))) (aCons (eVar 8) (aCons (eIx (eVar 2) (eC (.int 1))) (aCons (eC (.int 0)) (aNil))))))) (sSeq (sUnp (.t [14, 15]) (eTup (aCons (eTup (aCons (eIx (eVar 2) (eC (.int 0))) (aCons (eC (.str "send")) (aCons (eIx (eVar 2) (eC (.int 1))) (aCons (eVar 3) (aNil)))))) (aCons (eTup (aCons (eIx (eVar 2) (eC (.int 1))) (aCons (eC (.str "hear")) (aCons (eIx (eVar 2) (eC (.int 0))) (aCons (eVar 3) (aNil)))))) (aNil))))) (sSeq (sIf (eOr (eBin opNe (eVar 11) (eVar 9)) (eOr (eBin opNe (eU opLen (eVar 12)) (eBin opAdd (eBin opMul (eC (.int 2)) (eVar 4)) (eVar 10))) (eBin opNe (eU opLen (eComp (sSq (eVar 12)) (.n 17) [17] (eBin opEq (eVar 17) (eVar 13)) (eVar 17))) (eC (.int 1))))) (sRet (eC (.bool false))) (sSkip)) (sSeq (sIf (eNot (eCall B 0 (aCons (eLst (aCons (eU opLen (eComp (sSq (eVar 12)) (.n 17) [17] (eBin opEq (eVar 17) (eVar 14)) (eVar 17))) (aCons (eU opLen (eComp (sSq (eVar 12)) (.n 17) [17] (eBin opEq (eVar 17) (eVar 15)) (eVar 17))) (aNil)))) (aCons (eLst (aCons (eVar 4) (aCons (eBin opAdd (eBin opSub (eVar 4) (eC (.int 1))) (eVar 10)) (aNil)))) (aNil))) [])) (sRet (eC (.bool false))) (sSkip)) (sSeq (sSet 16 (eC (.int 0))) (sSeq (sFor (sSq (eVar 12)) (.n 17) (l0_law B)) (sIf (eBin opNe (eVar 16) (eVar 10)) (sRet (eC (.bool false))) (sSkip))))))))
def b_law (B : Calls) : SMean := sSeq (sSet 1 (eCall B 1 (aCons (eVar 0) (aNil)) [])) (sSeq (sPar [2, 3, 4] (aCons (eCall B 4 (aCons (eVar 1) (aCons (eLst (aCons (eC (.int 0)) (aCons (eC (.int 1)) (aCons (eC (.int 2)) (aCons (eC (.int 3)) (aNil)))))) (aNil))) []) (aCons (eCall B 3 (aCons (eVar 1) (aCons (eC (.int 6)) (aNil))) []) (aCons (eCall B 3 (aCons (eVar 1) (aCons (eC (.int 5)) (aNil))) []) (aNil))))) (sSeq (sSet 5 (eCall B 5 (aCons (eIx (eVar 2) (eC (.int 0))) (aCons (eIx (eVar 2) (eC (.int 1))) (aCons (eRep (eLst (aCons (eVar 3) (aNil))) (eVar 4)) (aCons (eTup (aCons (eC (.str "end")) (aNil))) (aNil))))) [])) (sSeq (sSet 6 (eU opTuple (eComp (sSq (eCall B 12 (aCons (eVar 5) (aNil)) [])) (.n 18) [18] (eC (.bool true)) (eCall B 15 (aCons (eVar 18) (aNil)) [])))) (sSeq (sSet 7 (eBin opAdd (eBin opAdd (eVar 4) (eC (.int 1))) (eCall B 3 (aCons (eVar 1) (aCons (eC (.int 3)) (aNil))) []))) (sSeq (sIf (eOr (eBin opIsNot (eCall B 24 (aCons (eVar 6) (aCons (eVar 7) (aNil))) []) (eC .none)) (eBin opNe (eAnd (eCall B 27 (aCons (eVar 6) (aCons (eVar 7) (aCons (eC (.str "lost")) (aNil)))) []) (eCall B 27 (aCons (eVar 6) (aCons (eVar 7) (aCons (eC (.str "doubled")) (aNil)))) [])) (eBin opEq (eVar 4) (eC (.int 0))))) (sRet (eC (.bool false))) (sSkip)) (sSeq (sIf (eBin opEq (eVar 4) (eC (.int 0))) (sRet (eAnd (eBin opIs (eCall B 26 (aCons (eVar 6) (aCons (eVar 7) (aCons (eC (.str "lost")) (aNil)))) []) (eC .none)) (eBin opIs (eCall B 26 (aCons (eVar 6) (aCons (eVar 7) (aCons (eC (.str "doubled")) (aNil)))) []) (eC .none)))) (sSkip)) (sSeq (sFor (sSq (eTup (aCons (eTup (aCons (eC (.str "lost")) (aCons (eC (.str "stuck")) (aCons (eC (.int 0)) (aNil))))) (aCons (eTup (aCons (eC (.str "doubled")) (aCons (eC (.str "left")) (aCons (eC (.int 1)) (aNil))))) (aNil))))) (.t [8, 9, 10]) (l1_law B)) (sRet (eC (.bool true))))))))))
/-- Parter.__init__: 0 self, 1 role -/
def b_Parter_init (B : Calls) : SMean := sSeq (sFldSet 0 0 (eVar 0) (eVar 1)) (sFldSet 0 1 (eVar 0) (eC .none))
/-- Parter.part: 0 self, 1 value, 2 number, 3 one, 4 two -/
def b_Parter_part (B : Calls) : SMean := sSeq (sIf (eBin opIn (eIx (eVar 1) (eC (.int 0))) (eTup (aCons (eC (.str "end")) (aCons (eC (.str "again")) (aNil))))) (sRet (eVar 1)) (sSkip)) (sSeq (sIf (eBin opEq (eIx (eVar 1) (eC (.int 0))) (eC (.str "loop"))) (sNever) (sSkip)) (sSeq (sIf (eBin opEq (eIx (eVar 1) (eC (.int 0))) (eC (.str "beside"))) (sNever) (sSkip)) (sRet (eMeth B 0 9 (eVar 0) (aCons (eVar 1) (aCons (eVar 2) (aNil)))))))
/-- Parter.of_saying: 0 self, 1 value, 2 number, 3 here, 4 found, 5 letter, 6 after, 7 whole, 8 _, 9 part -/
def l0_Parter_of_saying (B : Calls) : SMean := sSeq (sApp 4 (eTup (aCons (eVar 5) (aCons (eMeth B 0 8 (eVar 0) (aCons (eVar 6) (aCons (eVar 2) (aNil)))) (aNil))))) (sAug (fun i j => i + j) 2 (eCall B 10 (aCons (eVar 6) (aNil)) []))
def l1_Parter_of_saying (B : Calls) : SMean := sSet 7 (eIf (eBin opIsNot (eVar 7) (eC .none)) (eNever) (eC .none))
def b_Parter_of_saying (B : Calls) : SMean := sSeq (sSet 3 (eVar 2)) (sSeq (sSet 4 (eLst (aNil))) (sSeq (sAug (fun i j => i + j) 2 (eC (.int 1))) (sSeq (sFor (sSq (eIx (eVar 1) (eC (.int 3)))) (.t [5, 6]) (l0_Parter_of_saying B)) (sSeq (sIf (eU opAny (eComp (sSq (eVar 4)) (.t [8, 9]) [8, 9] (eC (.bool true)) (eBin opIs (eVar 9) (eC .none)))) (sRet (eC .none)) (sSkip)) (sSeq (sIf (eBin opEq (eFld 0 0 (eVar 0)) (eIx (eVar 1) (eC (.int 1)))) (sRet (eTup (aCons (eC (.str "send")) (aCons (eIx (eVar 1) (eC (.int 2))) (aCons (eU opTuple (eVar 4)) (aNil)))))) (sSkip)) (sSeq (sIf (eBin opEq (eFld 0 0 (eVar 0)) (eIx (eVar 1) (eC (.int 2)))) (sRet (eTup (aCons (eC (.str "hear")) (aCons (eIx (eVar 1) (eC (.int 1))) (aCons (eU opTuple (eVar 4)) (aNil)))))) (sSkip)) (sSeq (sSet 7 (eIx (eIx (eVar 4) (eC (.int 0))) (eC (.int 1)))) (sSeq (sFor (sSq (eSl (eVar 4) (oSome (eC (.int 1))) (oNo))) (.t [8, 9]) (l1_Parter_of_saying B)) (sRet (eIf (eBin opIs (eVar 7) (eC .none)) (eNever) (eVar 7)))))))))))
/-- size_of: 0 talk, 1 _, 2 after -/
def b_size_of (B : Calls) : SMean := sSeq (sIf (eBin opEq (eIx (eVar 0) (eC (.int 0))) (eC (.str "say"))) (sRet (eBin opAdd (eC (.int 1)) (eU opSum (eComp (sSq (eIx (eVar 0) (eC (.int 3)))) (.t [1, 2]) [1, 2] (eC (.bool true)) (eCall B 10 (aCons (eVar 2) (aNil)) []))))) (sSkip)) (sSeq (sIf (eBin opEq (eIx (eVar 0) (eC (.int 0))) (eC (.str "beside"))) (sRet (eBin opAdd (eBin opAdd (eC (.int 1)) (eCall B 10 (aCons (eIx (eVar 0) (eC (.int 1))) (aNil)) [])) (eCall B 10 (aCons (eIx (eVar 0) (eC (.int 2))) (aNil)) []))) (sSkip)) (sRet (eIf (eBin opEq (eIx (eVar 0) (eC (.int 0))) (eC (.str "loop"))) (eBin opAdd (eC (.int 1)) (eCall B 10 (aCons (eIx (eVar 0) (eC (.int 2))) (aNil)) [])) (eC (.int 1)))))
/-- parted: 0 talk, 1 role, 2 parter, 3 found -/
def b_parted (B : Calls) : SMean := sSeq (sSet 2 (eMake B 0 7 (aCons (eVar 1) (aNil)))) (sSeq (sSet 3 (eMeth B 0 8 (eVar 2) (aCons (eVar 0) (aCons (eC (.int 0)) (aNil))))) (sRet (eIf (eBin opIs (eFld 0 1 (eVar 2)) (eC .none)) (eTup (aCons (eVar 3) (aCons (eC .none) (aNil)))) (eTup (aCons (eC .none) (aCons (eFld 0 1 (eVar 2)) (aNil)))))))
/-- parts: 0 talk, 1 found, 2 role, 3 part -/
def b_parts (B : Calls) : SMean := sSeq (sSet 1 (eComp (sRg1 (eC (.int 4))) (.n 2) [2] (eC (.bool true)) (eIx (eCall B 11 (aCons (eVar 0) (aCons (eVar 2) (aNil))) []) (eC (.int 0))))) (sRet (eIf (eU opAny (eComp (sSq (eVar 1)) (.n 3) [3] (eC (.bool true)) (eBin opIs (eVar 3) (eC .none)))) (eC .none) (eVar 1)))
/-- opened: 0 value -/
def l0_opened (B : Calls) : SMean := sNever
def b_opened (B : Calls) : SMean := sSeq (sWhile 1 (eBin opEq (eIx (eVar 0) (eC (.int 0))) (eC (.str "loop"))) (l0_opened B)) (sRet (eVar 0))
/-- steps_from: 0 machine, 1 state, 2 step -/
def b_steps_from (B : Calls) : SMean := sRet (eComp (sSq (eIx (eVar 0) (eC (.int 1)))) (.n 2) [2] (eBin opEq (eIx (eVar 2) (eC (.int 0))) (eVar 1)) (eVar 2))
/-- machine_of: 0 part, 1 found, 2 steps, 3 at, 4 here, 5 letter, 6 after -/
def l0_machine_of (B : Calls) : SMean := sSeq (sSet 6 (eCall B 13 (aCons (eVar 6) (aNil)) [])) (sSeq (sIf (eBin opNotIn (eVar 6) (eVar 1)) (sApp 1 (eVar 6)) (sSkip)) (sApp 2 (eTup (aCons (eVar 3) (aCons (eIx (eVar 4) (eC (.int 0))) (aCons (eIx (eVar 4) (eC (.int 1))) (aCons (eVar 5) (aCons (eIndex (eVar 1) (eVar 6)) (aNil)))))))))
def l1_machine_of (B : Calls) : SMean := sSeq (sSet 4 (eIx (eVar 1) (eVar 3))) (sSeq (sFor (sSq (eIf (eBin opNe (eIx (eVar 4) (eC (.int 0))) (eC (.str "end"))) (eIx (eVar 4) (eC (.int 2))) (eTup (aNil)))) (.t [5, 6]) (l0_machine_of B)) (sAug (fun i j => i + j) 3 (eC (.int 1))))
def b_machine_of (B : Calls) : SMean := sSeq (sSet 1 (eLst (aCons (eCall B 13 (aCons (eVar 0) (aNil)) []) (aNil)))) (sSeq (sSet 2 (eLst (aNil))) (sSeq (sSet 3 (eC (.int 0))) (sSeq (sWhile 1000 (eBin opLt (eVar 3) (eU opLen (eVar 1))) (l1_machine_of B)) (sRet (eTup (aCons (eU opLen (eVar 1)) (aCons (eU opTuple (eU opSorted (eVar 2))) (aNil))))))))
/-- begin: 0 machines, 1 _ -/
def b_begin (B : Calls) : SMean := sRet (eTup (aCons (eU opTuple (eComp (sSq (eVar 0)) (.n 1) [1] (eC (.bool true)) (eC (.int 0)))) (aCons (eTup (aNil)) (aNil))))
/-- on_way: 0 queues, 1 speaker, 2 hearer, 3 found, 4 a, 5 b, 6 row -/
def b_on_way (B : Calls) : SMean := sSeq (sSet 3 (eComp (sSq (eVar 0)) (.t [4, 5, 6]) [4, 5, 6] (eBin opEq (eTup (aCons (eVar 4) (aCons (eVar 5) (aNil)))) (eTup (aCons (eVar 1) (aCons (eVar 2) (aNil))))) (eVar 6))) (sRet (eIf (eBin opGt (eU opLen (eVar 3)) (eC (.int 0))) (eIx (eVar 3) (eC (.int 0))) (eTup (aNil))))
/-- with_row: 0 queues, 1 speaker, 2 hearer, 3 row, 4 rest, 5 entry -/
def b_with_row (B : Calls) : SMean := sSeq (sSet 4 (eComp (sSq (eVar 0)) (.n 5) [5] (eBin opNe (eSl (eVar 5) (oNo) (oSome (eC (.int 2)))) (eTup (aCons (eVar 1) (aCons (eVar 2) (aNil))))) (eVar 5))) (sRet (eU opTuple (eU opSorted (eBin opAdd (eVar 4) (eIf (eBin opGt (eU opLen (eVar 3)) (eC (.int 0))) (eLst (aCons (eTup (aCons (eVar 1) (aCons (eVar 2) (aCons (eVar 3) (aNil))))) (aNil))) (eLst (aNil)))))))
/-- moved: 0 states, 1 role, 2 state -/
def b_moved (B : Calls) : SMean := sRet (eBin opAdd (eBin opAdd (eSl (eVar 0) (oNo) (oSome (eVar 1))) (eTup (aCons (eVar 2) (aNil)))) (eSl (eVar 0) (oSome (eBin opAdd (eVar 1) (eC (.int 1)))) (oNo)))
/-- deeds: 0 machines, 1 here, 2 room, 3 states, 4 queues, 5 found, 6 role, 7 _, 8 word, 9 other, 10 letter, 11 after, 12 row, 13 behind -/
def l0_deeds (B : Calls) : SMean := sSeq (sSet 12 (eIf (eBin opEq (eVar 8) (eC (.str "send"))) (eCall B 17 (aCons (eVar 4) (aCons (eVar 6) (aCons (eVar 9) (aNil)))) []) (eCall B 17 (aCons (eVar 4) (aCons (eVar 9) (aCons (eVar 6) (aNil)))) []))) (sSeq (sIf (eAnd (eBin opEq (eVar 8) (eC (.str "send"))) (eAnd (eBin opLt (eVar 9) (eU opLen (eVar 0))) (eAnd (eBin opNe (eVar 9) (eVar 6)) (eBin opLt (eU opLen (eVar 12)) (eVar 2))))) (sSeq (sSet 13 (eTup (aCons (eCall B 19 (aCons (eVar 3) (aCons (eVar 6) (aCons (eVar 11) (aNil)))) []) (aCons (eCall B 18 (aCons (eVar 4) (aCons (eVar 6) (aCons (eVar 9) (aCons (eBin opAdd (eVar 12) (eTup (aCons (eVar 10) (aNil)))) (aNil))))) []) (aNil))))) (sApp 5 (eTup (aCons (eVar 6) (aCons (eVar 8) (aCons (eVar 9) (aCons (eVar 10) (aCons (eVar 13) (aNil))))))))) (sSkip)) (sIf (eAnd (eBin opEq (eVar 8) (eC (.str "hear"))) (eBin opEq (eSl (eVar 12) (oNo) (oSome (eC (.int 1)))) (eTup (aCons (eVar 10) (aNil))))) (sSeq (sSet 13 (eTup (aCons (eCall B 19 (aCons (eVar 3) (aCons (eVar 6) (aCons (eVar 11) (aNil)))) []) (aCons (eCall B 18 (aCons (eVar 4) (aCons (eVar 9) (aCons (eVar 6) (aCons (eSl (eVar 12) (oSome (eC (.int 1))) (oNo)) (aNil))))) []) (aNil))))) (sApp 5 (eTup (aCons (eVar 6) (aCons (eVar 8) (aCons (eVar 9) (aCons (eVar 10) (aCons (eVar 13) (aNil))))))))) (sSkip)))
def l1_deeds (B : Calls) : SMean := sFor (sSq (eCall B 14 (aCons (eIx (eVar 0) (eVar 6)) (aCons (eIx (eVar 3) (eVar 6)) (aNil))) [])) (.t [7, 8, 9, 10, 11]) (l0_deeds B)
def b_deeds (B : Calls) : SMean := sSeq (sUnp (.t [3, 4]) (eVar 1)) (sSeq (sSet 5 (eLst (aNil))) (sSeq (sFor (sRg1 (eU opLen (eVar 0))) (.n 6) (l1_deeds B)) (sRet (eU opSorted (eVar 5)))))
/-- trouble_at: 0 machines, 1 here, 2 room, 3 states, 4 queues, 5 role, 6 steps, 7 over, 8 k, 9 step -/
def l0_trouble_at (B : Calls) : SMean := sSeq (sSet 6 (eCall B 14 (aCons (eIx (eVar 0) (eVar 5)) (aCons (eIx (eVar 3) (eVar 5)) (aNil))) [])) (sIf (eAnd (eBin opGt (eU opLen (eVar 6)) (eC (.int 0))) (eU opAll (eComp (sSq (eVar 6)) (.n 9) [9] (eC (.bool true)) (eBin opEq (eIx (eVar 9) (eC (.int 1))) (eC (.str "hear")))))) (sIf (eCall B 22 (aCons (eVar 6) (aCons (eVar 4) (aCons (eVar 5) (aNil)))) []) (sRet (eC (.str "unheard"))) (sSkip)) (sSkip))
def b_trouble_at (B : Calls) : SMean := sSeq (sUnp (.t [3, 4]) (eVar 1)) (sSeq (sFor (sRg1 (eU opLen (eVar 0))) (.n 5) (l0_trouble_at B)) (sSeq (sIf (eBin opGt (eU opLen (eCall B 20 (aCons (eVar 0) (aCons (eVar 1) (aCons (eVar 2) (aNil)))) [])) (eC (.int 0))) (sRet (eC .none)) (sSkip)) (sSeq (sSet 7 (eU opAll (eComp (sRg1 (eU opLen (eVar 0))) (.n 8) [8] (eC (.bool true)) (eBin opEq (eU opLen (eCall B 14 (aCons (eIx (eVar 0) (eVar 8)) (aCons (eIx (eVar 3) (eVar 8)) (aNil))) [])) (eC (.int 0)))))) (sSeq (sIf (eVar 7) (sRet (eIf (eBin opGt (eU opLen (eVar 4)) (eC (.int 0))) (eC (.str "left")) (eC .none))) (sSkip)) (sRet (eC (.str "stuck")))))))
/-- is_unheard: 0 steps, 1 queues, 2 role, 3 other, 4 row, 5 step -/
def l0_is_unheard (B : Calls) : SMean := sSeq (sSet 4 (eCall B 17 (aCons (eVar 1) (aCons (eVar 3) (aCons (eVar 2) (aNil)))) [])) (sIf (eAnd (eBin opGt (eU opLen (eVar 4)) (eC (.int 0))) (eBin opNotIn (eIx (eVar 4) (eC (.int 0))) (eComp (sSq (eVar 0)) (.n 5) [5] (eBin opEq (eIx (eVar 5) (eC (.int 2))) (eVar 3)) (eIx (eVar 5) (eC (.int 3)))))) (sRet (eC (.bool true))) (sSkip))
def b_is_unheard (B : Calls) : SMean := sSeq (sFor (sSq (eSortSet (eComp (sSq (eVar 0)) (.n 5) [5] (eC (.bool true)) (eIx (eVar 5) (eC (.int 2)))))) (.n 3) (l0_is_unheard B)) (sRet (eC (.bool false)))
/-- search: 0 machines, 1 room, 2 found, 3 ways, 4 at, 5 word, 6 role, 7 deed, 8 other, 9 letter, 10 after -/
def l0_search (B : Calls) : SMean := sIf (eAnd (eBin opNotIn (eVar 10) (eVar 2)) (eBin opLt (eU opLen (eVar 2)) (eC (.int 3000)))) (sSeq (sApp 2 (eVar 10)) (sApp 3 (eBin opAdd (eIx (eVar 3) (eVar 4)) (eTup (aCons (eTup (aCons (eVar 6) (aCons (eVar 7) (aCons (eVar 8) (aCons (eVar 9) (aNil)))))) (aNil)))))) (sSkip)
def l1_search (B : Calls) : SMean := sSeq (sSet 5 (eCall B 21 (aCons (eVar 0) (aCons (eIx (eVar 2) (eVar 4)) (aCons (eVar 1) (aNil)))) [])) (sSeq (sIf (eBin opIsNot (eVar 5) (eC .none)) (sRet (eTup (aCons (eTup (aCons (eVar 5) (aCons (eIx (eVar 3) (eVar 4)) (aNil)))) (aCons (eVar 2) (aNil))))) (sSkip)) (sSeq (sFor (sSq (eCall B 20 (aCons (eVar 0) (aCons (eIx (eVar 2) (eVar 4)) (aCons (eVar 1) (aNil)))) [])) (.t [6, 7, 8, 9, 10]) (l0_search B)) (sAug (fun i j => i + j) 4 (eC (.int 1)))))
def b_search (B : Calls) : SMean := sSeq (sSet 2 (eLst (aCons (eCall B 16 (aCons (eVar 0) (aNil)) []) (aNil)))) (sSeq (sSet 3 (eLst (aCons (eTup (aNil)) (aNil)))) (sSeq (sSet 4 (eC (.int 0))) (sSeq (sWhile 4000 (eBin opLt (eVar 4) (eU opLen (eVar 2))) (l1_search B)) (sRet (eTup (aCons (eC .none) (aCons (eVar 2) (aNil))))))))
/-- trouble: 0 machines, 1 room -/
def b_trouble (B : Calls) : SMean := sRet (eIx (eCall B 23 (aCons (eVar 0) (aCons (eVar 1) (aNil))) []) (eC (.int 0)))
/-- spoiled: 0 here, 1 word, 2 states, 3 queues, 4 found, 5 speaker, 6 hearer, 7 _, 8 row, 9 after -/
def l0_spoiled (B : Calls) : SMean := sSeq (sSet 8 (eCall B 17 (aCons (eVar 3) (aCons (eVar 5) (aCons (eVar 6) (aNil)))) [])) (sSeq (sSet 9 (eIf (eBin opEq (eVar 1) (eC (.str "lost"))) (eSl (eVar 8) (oSome (eC (.int 1))) (oNo)) (eBin opAdd (eSl (eVar 8) (oNo) (oSome (eC (.int 1)))) (eVar 8)))) (sApp 4 (eTup (aCons (eVar 5) (aCons (eVar 6) (aCons (eTup (aCons (eVar 2) (aCons (eCall B 18 (aCons (eVar 3) (aCons (eVar 5) (aCons (eVar 6) (aCons (eVar 9) (aNil))))) []) (aNil)))) (aNil)))))))
def b_spoiled (B : Calls) : SMean := sSeq (sUnp (.t [2, 3]) (eVar 0)) (sSeq (sSet 4 (eLst (aNil))) (sSeq (sFor (sSq (eVar 3)) (.t [5, 6, 7]) (l0_spoiled B)) (sRet (eU opSorted (eVar 4)))))
/-- search: 0 machines, 1 room, 2 word, 3 found, 4 ways, 5 at, 6 here, 7 spent, 8 trouble, 9 more, 10 deed, 11 after, 12 used, 13 a, 14 b -/
def l0_search_2 (B : Calls) : SMean := sIf (eAnd (eBin opNotIn (eTup (aCons (eVar 11) (aCons (eVar 12) (aNil)))) (eVar 3)) (eBin opLt (eU opLen (eVar 3)) (eC (.int 3000)))) (sSeq (sApp 3 (eTup (aCons (eVar 11) (aCons (eVar 12) (aNil))))) (sApp 4 (eBin opAdd (eIx (eVar 4) (eVar 5)) (eTup (aCons (eVar 10) (aNil)))))) (sSkip)
def l1_search_2 (B : Calls) : SMean := sSeq (sUnp (.t [6, 7]) (eIx (eVar 3) (eVar 5))) (sSeq (sSet 8 (eCall B 21 (aCons (eVar 0) (aCons (eVar 6) (aCons (eVar 1) (aNil)))) [])) (sSeq (sIf (eBin opIsNot (eVar 8) (eC .none)) (sRet (eTup (aCons (eVar 8) (aCons (eIx (eVar 4) (eVar 5)) (aNil))))) (sSkip)) (sSeq (sSet 9 (eComp (sSq (eCall B 20 (aCons (eVar 0) (aCons (eVar 6) (aCons (eVar 1) (aNil)))) [])) (.n 10) [10] (eC (.bool true)) (eTup (aCons (eSl (eVar 10) (oNo) (oSome (eC (.int 4)))) (aCons (eIx (eVar 10) (eC (.int 4))) (aCons (eVar 7) (aNil))))))) (sSeq (sIf (eBin opEq (eVar 7) (eC (.int 0))) (sSet 9 (eBin opAdd (eVar 9) (eComp (sSq (eCall B 25 (aCons (eVar 6) (aCons (eVar 2) (aNil))) [])) (.t [13, 14, 11]) [13, 14, 11] (eC (.bool true)) (eTup (aCons (eTup (aCons (eVar 13) (aCons (eVar 2) (aCons (eVar 14) (aCons (eC (.int 0)) (aNil)))))) (aCons (eVar 11) (aCons (eC (.int 1)) (aNil)))))))) (sSkip)) (sSeq (sFor (sSq (eVar 9)) (.t [10, 11, 12]) (l0_search_2 B)) (sAug (fun i j => i + j) 5 (eC (.int 1))))))))
def b_search_2 (B : Calls) : SMean := sSeq (sIf (eBin opNotIn (eVar 2) (eC (.tuple [.str "doubled", .str "lost"]))) (sNever) (sSkip)) (sSeq (sSet 3 (eLst (aCons (eTup (aCons (eCall B 16 (aCons (eVar 0) (aNil)) []) (aCons (eC (.int 0)) (aNil)))) (aNil)))) (sSeq (sSet 4 (eLst (aCons (eTup (aNil)) (aNil)))) (sSeq (sSet 5 (eC (.int 0))) (sSeq (sWhile 4000 (eBin opLt (eVar 5) (eU opLen (eVar 3))) (l1_search_2 B)) (sRet (eC .none))))))
/-- bears: 0 machines, 1 room, 2 word -/
def b_bears (B : Calls) : SMean := sRet (eBin opIs (eCall B 26 (aCons (eVar 0) (aCons (eVar 1) (aCons (eVar 2) (aNil)))) []) (eC .none))
def tbl (B : Calls) : Calls := fun f us S => match f with
  | 0 => runFn 3 (b__law_same B) us S
  | 1 => runFn 3 (b__law_pool B) us S
  | 2 => runFn 4 (b__law_spread B) us S
  | 3 => runFn 5 (b__law_draw B) us S
  | 4 => runFn 4 (b__law_shuffled B) us S
  | 5 => runFn 5 (b__law_line_of B) us S
  | 6 => runFn 19 (b_law B) us S
  | 7 => runFn 2 (b_Parter_init B) us S
  | 8 => runFn 5 (b_Parter_part B) us S
  | 9 => runFn 10 (b_Parter_of_saying B) us S
  | 10 => runFn 3 (b_size_of B) us S
  | 11 => runFn 4 (b_parted B) us S
  | 12 => runFn 4 (b_parts B) us S
  | 13 => runFn 1 (b_opened B) us S
  | 14 => runFn 3 (b_steps_from B) us S
  | 15 => runFn 7 (b_machine_of B) us S
  | 16 => runFn 2 (b_begin B) us S
  | 17 => runFn 7 (b_on_way B) us S
  | 18 => runFn 6 (b_with_row B) us S
  | 19 => runFn 3 (b_moved B) us S
  | 20 => runFn 14 (b_deeds B) us S
  | 21 => runFn 10 (b_trouble_at B) us S
  | 22 => runFn 6 (b_is_unheard B) us S
  | 23 => runFn 11 (b_search B) us S
  | 24 => runFn 2 (b_trouble B) us S
  | 25 => runFn 10 (b_spoiled B) us S
  | 26 => runFn 15 (b_search_2 B) us S
  | 27 => runFn 3 (b_bears B) us S
  | _ => none
abbrev i__law_same : Nat := 0
abbrev i__law_pool : Nat := 1
abbrev i__law_spread : Nat := 2
abbrev i__law_draw : Nat := 3
abbrev i__law_shuffled : Nat := 4
abbrev i__law_line_of : Nat := 5
abbrev i_law : Nat := 6
abbrev i_Parter_init : Nat := 7
abbrev i_Parter_part : Nat := 8
abbrev i_Parter_of_saying : Nat := 9
abbrev i_size_of : Nat := 10
abbrev i_parted : Nat := 11
abbrev i_parts : Nat := 12
abbrev i_opened : Nat := 13
abbrev i_steps_from : Nat := 14
abbrev i_machine_of : Nat := 15
abbrev i_begin : Nat := 16
abbrev i_on_way : Nat := 17
abbrev i_with_row : Nat := 18
abbrev i_moved : Nat := 19
abbrev i_deeds : Nat := 20
abbrev i_trouble_at : Nat := 21
abbrev i_is_unheard : Nat := 22
abbrev i_search : Nat := 23
abbrev i_trouble : Nat := 24
abbrev i_spoiled : Nat := 25
abbrev i_search_2 : Nat := 26
abbrev i_bears : Nat := 27
theorem call__law_same (n : Nat) (us : List Val) (S : Store) : callN tbl (n + 1) 0 us S = runFn 3 (b__law_same (callN tbl n)) us S := rfl
theorem call__law_pool (n : Nat) (us : List Val) (S : Store) : callN tbl (n + 1) 1 us S = runFn 3 (b__law_pool (callN tbl n)) us S := rfl
theorem call__law_spread (n : Nat) (us : List Val) (S : Store) : callN tbl (n + 1) 2 us S = runFn 4 (b__law_spread (callN tbl n)) us S := rfl
theorem call__law_draw (n : Nat) (us : List Val) (S : Store) : callN tbl (n + 1) 3 us S = runFn 5 (b__law_draw (callN tbl n)) us S := rfl
theorem call__law_shuffled (n : Nat) (us : List Val) (S : Store) : callN tbl (n + 1) 4 us S = runFn 4 (b__law_shuffled (callN tbl n)) us S := rfl
theorem call__law_line_of (n : Nat) (us : List Val) (S : Store) : callN tbl (n + 1) 5 us S = runFn 5 (b__law_line_of (callN tbl n)) us S := rfl
theorem call_law (n : Nat) (us : List Val) (S : Store) : callN tbl (n + 1) 6 us S = runFn 19 (b_law (callN tbl n)) us S := rfl
theorem call_Parter_init (n : Nat) (us : List Val) (S : Store) : callN tbl (n + 1) 7 us S = runFn 2 (b_Parter_init (callN tbl n)) us S := rfl
theorem call_Parter_part (n : Nat) (us : List Val) (S : Store) : callN tbl (n + 1) 8 us S = runFn 5 (b_Parter_part (callN tbl n)) us S := rfl
theorem call_Parter_of_saying (n : Nat) (us : List Val) (S : Store) : callN tbl (n + 1) 9 us S = runFn 10 (b_Parter_of_saying (callN tbl n)) us S := rfl
theorem call_size_of (n : Nat) (us : List Val) (S : Store) : callN tbl (n + 1) 10 us S = runFn 3 (b_size_of (callN tbl n)) us S := rfl
theorem call_parted (n : Nat) (us : List Val) (S : Store) : callN tbl (n + 1) 11 us S = runFn 4 (b_parted (callN tbl n)) us S := rfl
theorem call_parts (n : Nat) (us : List Val) (S : Store) : callN tbl (n + 1) 12 us S = runFn 4 (b_parts (callN tbl n)) us S := rfl
theorem call_opened (n : Nat) (us : List Val) (S : Store) : callN tbl (n + 1) 13 us S = runFn 1 (b_opened (callN tbl n)) us S := rfl
theorem call_steps_from (n : Nat) (us : List Val) (S : Store) : callN tbl (n + 1) 14 us S = runFn 3 (b_steps_from (callN tbl n)) us S := rfl
theorem call_machine_of (n : Nat) (us : List Val) (S : Store) : callN tbl (n + 1) 15 us S = runFn 7 (b_machine_of (callN tbl n)) us S := rfl
theorem call_begin (n : Nat) (us : List Val) (S : Store) : callN tbl (n + 1) 16 us S = runFn 2 (b_begin (callN tbl n)) us S := rfl
theorem call_on_way (n : Nat) (us : List Val) (S : Store) : callN tbl (n + 1) 17 us S = runFn 7 (b_on_way (callN tbl n)) us S := rfl
theorem call_with_row (n : Nat) (us : List Val) (S : Store) : callN tbl (n + 1) 18 us S = runFn 6 (b_with_row (callN tbl n)) us S := rfl
theorem call_moved (n : Nat) (us : List Val) (S : Store) : callN tbl (n + 1) 19 us S = runFn 3 (b_moved (callN tbl n)) us S := rfl
theorem call_deeds (n : Nat) (us : List Val) (S : Store) : callN tbl (n + 1) 20 us S = runFn 14 (b_deeds (callN tbl n)) us S := rfl
theorem call_trouble_at (n : Nat) (us : List Val) (S : Store) : callN tbl (n + 1) 21 us S = runFn 10 (b_trouble_at (callN tbl n)) us S := rfl
theorem call_is_unheard (n : Nat) (us : List Val) (S : Store) : callN tbl (n + 1) 22 us S = runFn 6 (b_is_unheard (callN tbl n)) us S := rfl
theorem call_search (n : Nat) (us : List Val) (S : Store) : callN tbl (n + 1) 23 us S = runFn 11 (b_search (callN tbl n)) us S := rfl
theorem call_trouble (n : Nat) (us : List Val) (S : Store) : callN tbl (n + 1) 24 us S = runFn 2 (b_trouble (callN tbl n)) us S := rfl
theorem call_spoiled (n : Nat) (us : List Val) (S : Store) : callN tbl (n + 1) 25 us S = runFn 10 (b_spoiled (callN tbl n)) us S := rfl
theorem call_search_2 (n : Nat) (us : List Val) (S : Store) : callN tbl (n + 1) 26 us S = runFn 15 (b_search_2 (callN tbl n)) us S := rfl
theorem call_bears (n : Nat) (us : List Val) (S : Store) : callN tbl (n + 1) 27 us S = runFn 3 (b_bears (callN tbl n)) us S := rfl
end K53
set_option Elab.async false
set_option linter.all false
set_option maxRecDepth 100000
namespace K53
open PySem L2 MP
abbrev topS (i : Nat) : Stmt := PySem.Challenge.pw_everytalk_k53_whole_lines_with_a_letter.main.body.getD i (.Pass ⟨0, 0, 0, 0⟩)
def top (i : Nat) : Stmt := topS i
theorem sc__law_same : FnScope ["actual", "due", "k"] ["actual", "due"] (defScope (top 42)) := ⟨rfl, rfl, rfl, by decide +kernel, rfl, by decide +kernel, by decide +kernel⟩
theorem sc__law_pool : FnScope ["script", "salt", "cell"] ["script"] (defScope (top 43)) := ⟨rfl, rfl, rfl, by decide +kernel, rfl, by decide +kernel, by decide +kernel⟩
theorem sc__law_spread : FnScope ["cell", "mixed", "total", "k"] ["cell"] (defScope (top 44)) := ⟨rfl, rfl, rfl, by decide +kernel, rfl, by decide +kernel, by decide +kernel⟩
theorem sc__law_draw : FnScope ["pool", "many", "cell", "mixed", "value"] ["pool", "many"] (defScope (top 45)) := ⟨rfl, rfl, rfl, by decide +kernel, rfl, by decide +kernel, by decide +kernel⟩
theorem sc__law_shuffled : FnScope ["pool", "items", "left", "found"] ["pool", "items"] (defScope (top 46)) := ⟨rfl, rfl, rfl, by decide +kernel, rfl, by decide +kernel, by decide +kernel⟩
theorem sc__law_line_of : FnScope ["p", "q", "letters", "rest", "letter"] ["p", "q", "letters", "rest"] (defScope (top 47)) := ⟨rfl, rfl, rfl, by decide +kernel, rfl, by decide +kernel, by decide +kernel⟩
theorem sc_law : FnScope ["script", "pool", "roles", "letter", "many", "talk", "machines", "room", "word", "due", "more", "told", "row", "bad", "sends", "hears", "on_way_v", "deed", "part"] ["script"] (defScope (top 48)) := ⟨rfl, rfl, rfl, by decide +kernel, rfl, by decide +kernel, by decide +kernel⟩
theorem sc_Parter_init : FnScope ["self", "role"] ["self", "role"] (defScope (inClass (top 12) 0)) := ⟨rfl, rfl, rfl, by decide +kernel, rfl, by decide +kernel, by decide +kernel⟩
theorem sc_Parter_part : FnScope ["self", "value", "number", "one", "two"] ["self", "value", "number"] (defScope (inClass (top 12) 1)) := ⟨rfl, rfl, rfl, by decide +kernel, rfl, by decide +kernel, by decide +kernel⟩
theorem sc_Parter_of_saying : FnScope ["self", "value", "number", "here", "found", "letter", "after", "whole", "_", "part"] ["self", "value", "number"] (defScope (inClass (top 12) 4)) := ⟨rfl, rfl, rfl, by decide +kernel, rfl, by decide +kernel, by decide +kernel⟩
theorem sc_size_of : FnScope ["talk", "_", "after"] ["talk"] (defScope (top 14)) := ⟨rfl, rfl, rfl, by decide +kernel, rfl, by decide +kernel, by decide +kernel⟩
theorem sc_parted : FnScope ["talk", "role", "parter", "found"] ["talk", "role"] (defScope (top 15)) := ⟨rfl, rfl, rfl, by decide +kernel, rfl, by decide +kernel, by decide +kernel⟩
theorem sc_parts : FnScope ["talk", "found", "role", "part"] ["talk"] (defScope (top 16)) := ⟨rfl, rfl, rfl, by decide +kernel, rfl, by decide +kernel, by decide +kernel⟩
theorem sc_opened : FnScope ["value"] ["value"] (defScope (top 18)) := ⟨rfl, rfl, rfl, by decide +kernel, rfl, by decide +kernel, by decide +kernel⟩
theorem sc_steps_from : FnScope ["machine", "state", "step"] ["machine", "state"] (defScope (top 20)) := ⟨rfl, rfl, rfl, by decide +kernel, rfl, by decide +kernel, by decide +kernel⟩
theorem sc_machine_of : FnScope ["part", "found", "steps", "at", "here", "letter", "after"] ["part"] (defScope (top 21)) := ⟨rfl, rfl, rfl, by decide +kernel, rfl, by decide +kernel, by decide +kernel⟩
theorem sc_begin : FnScope ["machines", "_"] ["machines"] (defScope (top 24)) := ⟨rfl, rfl, rfl, by decide +kernel, rfl, by decide +kernel, by decide +kernel⟩
theorem sc_on_way : FnScope ["queues", "speaker", "hearer", "found", "a", "b", "row"] ["queues", "speaker", "hearer"] (defScope (top 25)) := ⟨rfl, rfl, rfl, by decide +kernel, rfl, by decide +kernel, by decide +kernel⟩
theorem sc_with_row : FnScope ["queues", "speaker", "hearer", "row", "rest", "entry"] ["queues", "speaker", "hearer", "row"] (defScope (top 26)) := ⟨rfl, rfl, rfl, by decide +kernel, rfl, by decide +kernel, by decide +kernel⟩
theorem sc_moved : FnScope ["states", "role", "state"] ["states", "role", "state"] (defScope (top 27)) := ⟨rfl, rfl, rfl, by decide +kernel, rfl, by decide +kernel, by decide +kernel⟩
theorem sc_deeds : FnScope ["machines", "here", "room", "states", "queues", "found", "role", "_", "word", "other", "letter", "after", "row", "behind"] ["machines", "here", "room"] (defScope (top 28)) := ⟨rfl, rfl, rfl, by decide +kernel, rfl, by decide +kernel, by decide +kernel⟩
theorem sc_trouble_at : FnScope ["machines", "here", "room", "states", "queues", "role", "steps", "over", "k", "step"] ["machines", "here", "room"] (defScope (top 29)) := ⟨rfl, rfl, rfl, by decide +kernel, rfl, by decide +kernel, by decide +kernel⟩
theorem sc_is_unheard : FnScope ["steps", "queues", "role", "other", "row", "step"] ["steps", "queues", "role"] (defScope (top 30)) := ⟨rfl, rfl, rfl, by decide +kernel, rfl, by decide +kernel, by decide +kernel⟩
theorem sc_search : FnScope ["machines", "room", "found", "ways", "at", "word", "role", "deed", "other", "letter", "after"] ["machines", "room"] (defScope (top 31)) := ⟨rfl, rfl, rfl, by decide +kernel, rfl, by decide +kernel, by decide +kernel⟩
theorem sc_trouble : FnScope ["machines", "room"] ["machines", "room"] (defScope (top 33)) := ⟨rfl, rfl, rfl, by decide +kernel, rfl, by decide +kernel, by decide +kernel⟩
theorem sc_spoiled : FnScope ["here", "word", "states", "queues", "found", "speaker", "hearer", "_", "row", "after"] ["here", "word"] (defScope (top 37)) := ⟨rfl, rfl, rfl, by decide +kernel, rfl, by decide +kernel, by decide +kernel⟩
theorem sc_search_2 : FnScope ["machines", "room", "word", "found", "ways", "at", "here", "spent", "trouble", "more", "deed", "after", "used", "a", "b"] ["machines", "room", "word"] (defScope (top 38)) := ⟨rfl, rfl, rfl, by decide +kernel, rfl, by decide +kernel, by decide +kernel⟩
theorem sc_bears : FnScope ["machines", "room", "word"] ["machines", "room", "word"] (defScope (top 40)) := ⟨rfl, rfl, rfl, by decide +kernel, rfl, by decide +kernel, by decide +kernel⟩
structure Txt (K : PySem.W.Frag) (mg : Str → Option Value) where
  bl : Bl mg
  d__law_same : DF K "_law_same" "_law_same" (top 42) ["actual", "due"]
  d__law_pool : DF K "_law_pool" "_law_pool" (top 43) ["script"]
  d__law_spread : DF K "_law_spread" "_law_spread" (top 44) ["cell"]
  d__law_draw : DF K "_law_draw" "_law_draw" (top 45) ["pool", "many"]
  d__law_shuffled : DF K "_law_shuffled" "_law_shuffled" (top 46) ["pool", "items"]
  d__law_line_of : DF K "_law_line_of" "_law_line_of" (top 47) ["p", "q", "letters", "rest"]
  d_law : DF K "law" "law" (top 48) ["script"]
  d_Parter_init : DF K "__init__" "Parter.__init__" (inClass (top 12) 0) ["self", "role"]
  d_Parter_part : DF K "part" "Parter.part" (inClass (top 12) 1) ["self", "value", "number"]
  d_Parter_of_saying : DF K "of_saying" "Parter.of_saying" (inClass (top 12) 4) ["self", "value", "number"]
  d_size_of : DF K "size_of" "size_of" (top 14) ["talk"]
  d_parted : DF K "parted" "parted" (top 15) ["talk", "role"]
  d_parts : DF K "parts" "parts" (top 16) ["talk"]
  d_opened : DF K "opened" "opened" (top 18) ["value"]
  d_steps_from : DF K "steps_from" "steps_from" (top 20) ["machine", "state"]
  d_machine_of : DF K "machine_of" "machine_of" (top 21) ["part"]
  d_begin : DF K "begin" "begin" (top 24) ["machines"]
  d_on_way : DF K "on_way" "on_way" (top 25) ["queues", "speaker", "hearer"]
  d_with_row : DF K "with_row" "with_row" (top 26) ["queues", "speaker", "hearer", "row"]
  d_moved : DF K "moved" "moved" (top 27) ["states", "role", "state"]
  d_deeds : DF K "deeds" "deeds" (top 28) ["machines", "here", "room"]
  d_trouble_at : DF K "trouble_at" "trouble_at" (top 29) ["machines", "here", "room"]
  d_is_unheard : DF K "is_unheard" "is_unheard" (top 30) ["steps", "queues", "role"]
  d_search : DF K "search" "search" (top 31) ["machines", "room"]
  d_trouble : DF K "trouble" "trouble" (top 33) ["machines", "room"]
  d_spoiled : DF K "spoiled" "spoiled" (top 37) ["here", "word"]
  d_search_2 : DF K "search" "search" (top 38) ["machines", "room", "word"]
  d_bears : DF K "bears" "bears" (top 40) ["machines", "room", "word"]
  g__law_draw : mg "_law_draw" = some (.ref d__law_draw.fa)
  g__law_line_of : mg "_law_line_of" = some (.ref d__law_line_of.fa)
  g__law_pool : mg "_law_pool" = some (.ref d__law_pool.fa)
  g__law_same : mg "_law_same" = some (.ref d__law_same.fa)
  g__law_shuffled : mg "_law_shuffled" = some (.ref d__law_shuffled.fa)
  g__law_spread : mg "_law_spread" = some (.ref d__law_spread.fa)
  g_bears : mg "bears" = some (.ref d_bears.fa)
  g_begin : mg "begin" = some (.ref d_begin.fa)
  g_deeds : mg "deeds" = some (.ref d_deeds.fa)
  g_is_unheard : mg "is_unheard" = some (.ref d_is_unheard.fa)
  g_machine_of : mg "machine_of" = some (.ref d_machine_of.fa)
  g_moved : mg "moved" = some (.ref d_moved.fa)
  g_on_way : mg "on_way" = some (.ref d_on_way.fa)
  g_opened : mg "opened" = some (.ref d_opened.fa)
  g_parted : mg "parted" = some (.ref d_parted.fa)
  g_parts : mg "parts" = some (.ref d_parts.fa)
  g_search_letters : mg "search_letters" = some (.ref d_search.fa)
  g_search_losses : mg "search_losses" = some (.ref d_search_2.fa)
  g_size_of : mg "size_of" = some (.ref d_size_of.fa)
  g_spoiled : mg "spoiled" = some (.ref d_spoiled.fa)
  g_steps_from : mg "steps_from" = some (.ref d_steps_from.fa)
  g_trouble : mg "trouble" = some (.ref d_trouble.fa)
  g_trouble_at : mg "trouble_at" = some (.ref d_trouble_at.fa)
  g_with_row : mg "with_row" = some (.ref d_with_row.fa)
  tk_MOST_letters : Tok
  c_MOST_letters : mg "MOST_letters" = some (.int 3000 tk_MOST_letters)
  tk_MOST_losses : Tok
  c_MOST_losses : mg "MOST_losses" = some (.int 3000 tk_MOST_losses)
  a_WORDS : Addr
  c_WORDS : mg "WORDS" = some (.ref a_WORDS)
  d_WORDS : ∀ F, DR K F (V.ref a_WORDS) (.tuple [.str "doubled", .str "lost"])
  C_Parter : Addr
  cl_Parter : Cls K C_Parter
  m_Parter : mg "Parter" = some (.ref C_Parter)
  mk_Parter : Mk K C_Parter d_Parter_init.fa
  n_Parter_role : NoAttr K C_Parter "role"
  n_Parter_trouble : NoAttr K C_Parter "trouble"
  meth_Parter_part : Meth K C_Parter "part" d_Parter_part.fa
  meth_Parter_of_saying : Meth K C_Parter "of_saying" d_Parter_of_saying.fa
variable {P : Program} {w : World} {K : PySem.W.Frag} {mg : Str → Option Value} {base : Heap}
abbrev Txt.G (t : Txt K mg) : Gam := { K := K, cls := fun n =>  t.C_Parter, flds := fun n =>  ["role", "trouble"] }
structure Ok (t : Txt K mg) (P : Program) (w : World) (base : Heap) (n : Nat) : Prop where
  f__law_same : FnOk P w K mg base CX0 (lv n) t.d__law_same.fa t.d__law_same.fd ["actual", "due"] (spF t.G (callN tbl n) 0 2)
  f__law_pool : FnOk P w K mg base CX0 (lv n) t.d__law_pool.fa t.d__law_pool.fd ["script"] (spF t.G (callN tbl n) 1 1)
  f__law_spread : FnOk P w K mg base CX0 (lv n) t.d__law_spread.fa t.d__law_spread.fd ["cell"] (spF t.G (callN tbl n) 2 1)
  f__law_draw : FnOk P w K mg base CX0 (lv n) t.d__law_draw.fa t.d__law_draw.fd ["pool", "many"] (spF t.G (callN tbl n) 3 2)
  f__law_shuffled : FnOk P w K mg base CX0 (lv n) t.d__law_shuffled.fa t.d__law_shuffled.fd ["pool", "items"] (spF t.G (callN tbl n) 4 2)
  f__law_line_of : FnOk P w K mg base CX0 (lv n) t.d__law_line_of.fa t.d__law_line_of.fd ["p", "q", "letters", "rest"] (spF t.G (callN tbl n) 5 4)
  f_law : FnOk P w K mg base CX0 (lv n) t.d_law.fa t.d_law.fd ["script"] (spF t.G (callN tbl n) 6 1)
  f_Parter_init : FnOk P w K mg base CX0 (lv n) t.d_Parter_init.fa t.d_Parter_init.fd ["self", "role"] (spF t.G (callN tbl n) 7 2)
  f_Parter_part : FnOk P w K mg base CX0 (lv n) t.d_Parter_part.fa t.d_Parter_part.fd ["self", "value", "number"] (spF t.G (callN tbl n) 8 3)
  f_Parter_of_saying : FnOk P w K mg base CX0 (lv n) t.d_Parter_of_saying.fa t.d_Parter_of_saying.fd ["self", "value", "number"] (spF t.G (callN tbl n) 9 3)
  f_size_of : FnOk P w K mg base CX0 (lv n) t.d_size_of.fa t.d_size_of.fd ["talk"] (spF t.G (callN tbl n) 10 1)
  f_parted : FnOk P w K mg base CX0 (lv n) t.d_parted.fa t.d_parted.fd ["talk", "role"] (spF t.G (callN tbl n) 11 2)
  f_parts : FnOk P w K mg base CX0 (lv n) t.d_parts.fa t.d_parts.fd ["talk"] (spF t.G (callN tbl n) 12 1)
  f_opened : FnOk P w K mg base CX0 (lv n) t.d_opened.fa t.d_opened.fd ["value"] (spF t.G (callN tbl n) 13 1)
  f_steps_from : FnOk P w K mg base CX0 (lv n) t.d_steps_from.fa t.d_steps_from.fd ["machine", "state"] (spF t.G (callN tbl n) 14 2)
  f_machine_of : FnOk P w K mg base CX0 (lv n) t.d_machine_of.fa t.d_machine_of.fd ["part"] (spF t.G (callN tbl n) 15 1)
  f_begin : FnOk P w K mg base CX0 (lv n) t.d_begin.fa t.d_begin.fd ["machines"] (spF t.G (callN tbl n) 16 1)
  f_on_way : FnOk P w K mg base CX0 (lv n) t.d_on_way.fa t.d_on_way.fd ["queues", "speaker", "hearer"] (spF t.G (callN tbl n) 17 3)
  f_with_row : FnOk P w K mg base CX0 (lv n) t.d_with_row.fa t.d_with_row.fd ["queues", "speaker", "hearer", "row"] (spF t.G (callN tbl n) 18 4)
  f_moved : FnOk P w K mg base CX0 (lv n) t.d_moved.fa t.d_moved.fd ["states", "role", "state"] (spF t.G (callN tbl n) 19 3)
  f_deeds : FnOk P w K mg base CX0 (lv n) t.d_deeds.fa t.d_deeds.fd ["machines", "here", "room"] (spF t.G (callN tbl n) 20 3)
  f_trouble_at : FnOk P w K mg base CX0 (lv n) t.d_trouble_at.fa t.d_trouble_at.fd ["machines", "here", "room"] (spF t.G (callN tbl n) 21 3)
  f_is_unheard : FnOk P w K mg base CX0 (lv n) t.d_is_unheard.fa t.d_is_unheard.fd ["steps", "queues", "role"] (spF t.G (callN tbl n) 22 3)
  f_search : FnOk P w K mg base CX0 (lv n) t.d_search.fa t.d_search.fd ["machines", "room"] (spF t.G (callN tbl n) 23 2)
  f_trouble : FnOk P w K mg base CX0 (lv n) t.d_trouble.fa t.d_trouble.fd ["machines", "room"] (spF t.G (callN tbl n) 24 2)
  f_spoiled : FnOk P w K mg base CX0 (lv n) t.d_spoiled.fa t.d_spoiled.fd ["here", "word"] (spF t.G (callN tbl n) 25 2)
  f_search_2 : FnOk P w K mg base CX0 (lv n) t.d_search_2.fa t.d_search_2.fd ["machines", "room", "word"] (spF t.G (callN tbl n) 26 3)
  f_bears : FnOk P w K mg base CX0 (lv n) t.d_bears.fa t.d_bears.fd ["machines", "room", "word"] (spF t.G (callN tbl n) 27 3)
theorem ok__law_same (t : Txt K mg) {n : Nat} (I : Ok t P w base n) : FnOk P w K mg base CX0 (lv (n + 1)) t.d__law_same.fa t.d__law_same.fd ["actual", "due"] (spF t.G (callN tbl (n + 1)) 0 2) := by
  refine fn_ok (O := []) (k := lv n + 1) (body := b__law_same (callN tbl n)) t.d__law_same.fn sc__law_same t.bl rfl rfl (by decide) (lv_ge n) (fun _ _ => rfl) (fun cdv A outer s H E hr c => ?_)
  unfold b__law_same
  exact mss_cons (ms_if (mt_w (mw_or (mt_val (me_isi c kitT_tuple (by rfl) (by rfl) c.b_tuple (by decide +kernel) (me_var 1 (by decide) (pv 1)))) (mw_or1 (mt_val (me_isi c kitT_list (by rfl) (by rfl) c.b_list (by decide +kernel) (me_var 1 (by decide) (pv 1))))))) (mss_cons (ms_if (mt_w (mw_or (mt_c (c_ne c) (me_isi c kitT_tuple (by rfl) (by rfl) c.b_tuple (by decide +kernel) (me_var 1 (by decide) (pv 1))) (me_isi c kitT_tuple (by rfl) (by rfl) c.b_tuple (by decide +kernel) (me_var 0 (by decide) (pv 0)))) (mw_or (mt_c (c_ne c) (me_isi c kitT_list (by rfl) (by rfl) c.b_list (by decide +kernel) (me_var 1 (by decide) (pv 1))) (me_isi c kitT_list (by rfl) (by rfl) c.b_list (by decide +kernel) (me_var 0 (by decide) (pv 0)))) (mw_or1 (mt_c (c_ne c) (me_len c (by rfl) (me_var 0 (by decide) (pv 0))) (me_len c (by rfl) (me_var 1 (by decide) (pv 1)))))))) (mss_one (ms_ret (me_bl))) (mss_nil))
    (mss_one (ms_ret (me_c (c_eq c) (me_len c (by rfl) (me_comp (mf_comp c (own := ([("k", 2)] : List (Str × Nat))) (toc (mi_rg1 c (by rfl) (me_len c (by rfl) (me_var 1 (by decide) (pv 1))))) (blk_ok (by rfl)) rfl (by decide) (by decide) (fun _ _ _ _ _ => tg1) (fun _ _ _ _ _ cb => mts_one (mt_not (mt_val (me_call0 I.f__law_same (hr.mono (Nat.le_succ _)) t.g__law_same t.d__law_same.fn.kp t.d__law_same.bind (ma_cons (me_ix cb (me_var 0 (by decide) (pv 0)) (me_var 2 (by decide) (pv 2))) (ma_cons (me_ix cb (me_var 1 (by decide) (pv 1)) (me_var 2 (by decide) (pv 2))) (ma_nil))) (al_cons (al_cons (al_nil))))))) (fun _ _ _ _ _ cb => me_var 2 (by decide) (pv 2))) eComp_list)) (me_int))))) (mss_nil))
    (mss_cons (ms_if (mt_c (c_is c) (me_var 1 (by decide) (pv 1)) (me_non)) (mss_one (ms_ret (me_c (c_is c) (me_var 0 (by decide) (pv 0)) (me_non)))) (mss_nil))
    (mss_cons (ms_if (mt_w (mw_or (mt_val (me_isi c kitT_bool (by rfl) (by rfl) c.b_bool (by decide +kernel) (me_var 1 (by decide) (pv 1)))) (mw_or1 (mt_val (me_isi c kitT_bool (by rfl) (by rfl) c.b_bool (by decide +kernel) (me_var 0 (by decide) (pv 0))))))) (mss_one (ms_ret (me_and (me_isi c kitT_bool (by rfl) (by rfl) c.b_bool (by decide +kernel) (me_var 1 (by decide) (pv 1))) (me_and (me_isi c kitT_bool (by rfl) (by rfl) c.b_bool (by decide +kernel) (me_var 0 (by decide) (pv 0))) (me_one (me_c (c_eq c) (me_var 0 (by decide) (pv 0)) (me_var 1 (by decide) (pv 1)))))))) (mss_nil))
    (mss_cons (ms_if (mt_val (me_isi c kitT_int (by rfl) (by rfl) c.b_int (by decide +kernel) (me_var 1 (by decide) (pv 1)))) (mss_one (ms_ret (me_and (me_isi c kitT_int (by rfl) (by rfl) c.b_int (by decide +kernel) (me_var 0 (by decide) (pv 0))) (me_one (me_c (c_eq c) (me_var 0 (by decide) (pv 0)) (me_var 1 (by decide) (pv 1))))))) (mss_nil))
    (mss_one (ms_ret (me_and (me_isi c kitT_str (by rfl) (by rfl) c.b_str (by decide +kernel) (me_var 0 (by decide) (pv 0))) (me_and (me_isi c kitT_str (by rfl) (by rfl) c.b_str (by decide +kernel) (me_var 1 (by decide) (pv 1))) (me_one (me_c (c_eq c) (me_var 0 (by decide) (pv 0)) (me_var 1 (by decide) (pv 1)))))))))))
theorem ok__law_pool (t : Txt K mg) {n : Nat} (I : Ok t P w base n) : FnOk P w K mg base CX0 (lv (n + 1)) t.d__law_pool.fa t.d__law_pool.fd ["script"] (spF t.G (callN tbl (n + 1)) 1 1) := by
  refine fn_ok (O := []) (k := lv n + 1) (body := b__law_pool (callN tbl n)) t.d__law_pool.fn sc__law_pool t.bl rfl rfl (by decide) (lv_ge n) (fun _ _ => rfl) (fun cdv A outer s H E hr c => ?_)
  unfold b__law_pool l0__law_pool
  exact mss_cons (ms_set c (by decide) (me_int))
    (mss_cons (ms_for c (by decide) (mi_sq c (me_sl c (me_var 0 (by decide) (pv 0)) (mo_no) (mo_some (me_int)))) (tg1) (mss_one (ms_set c (by decide) (me_mod (me_int_ c (by rfl) (me_add c (me_mul (me_var 1 (by decide) (pv 1)) (me_int)) (me_var 2 (by decide) (pv 2)))) (me_int)))))
    (mss_one (ms_ret (me_cells (ma_cons (PM.fresh (mf_list c (by rfl) (me_var 0 (by decide) (pv 0))) eList_list) (ma_cons (me_int) (ma_cons (me_int) (ma_cons (me_int) (ma_cons (me_var 1 (by decide) (pv 1)) (ma_nil)))))) (al_cons (al_cons (al_cons (al_cons (al_cons (al_nil))))))))))
theorem ok__law_spread (t : Txt K mg) {n : Nat} (I : Ok t P w base n) : FnOk P w K mg base CX0 (lv (n + 1)) t.d__law_spread.fa t.d__law_spread.fd ["cell"] (spF t.G (callN tbl (n + 1)) 2 1) := by
  refine fn_ok (O := []) (k := lv n + 1) (body := b__law_spread (callN tbl n)) t.d__law_spread.fn sc__law_spread t.bl rfl rfl (by decide) (lv_ge n) (fun _ _ => rfl) (fun cdv A outer s H E hr c => ?_)
  unfold b__law_spread l0__law_spread
  exact mss_cons (ms_set c (by decide) (me_mod (me_int_ c (by rfl) (me_var 0 (by decide) (pv 0))) (me_int)))
    (mss_cons (ms_set c (by decide) (me_int))
    (mss_cons (ms_for c (by decide) (mi_rg1 c (by rfl) (me_int)) (tg1) (mss_cons (ms_set c (by decide) (me_mod (me_int_ c (by rfl) (me_add c (me_add c (me_mul (me_var 1 (by decide) (pv 1)) (me_int)) (me_int)) (me_var 3 (by decide) (pv 3)))) (me_int)))
    (mss_one (ms_set c (by decide) (me_add c (me_mul (me_var 2 (by decide) (pv 2)) (me_int)) (me_var 1 (by decide) (pv 1)))))))
    (mss_one (ms_ret (me_var 2 (by decide) (pv 2))))))
theorem ok__law_draw (t : Txt K mg) {n : Nat} (I : Ok t P w base n) : FnOk P w K mg base CX0 (lv (n + 1)) t.d__law_draw.fa t.d__law_draw.fd ["pool", "many"] (spF t.G (callN tbl (n + 1)) 3 2) := by
  refine fn_ok (O := []) (k := lv n + 1) (body := b__law_draw (callN tbl n)) t.d__law_draw.fn sc__law_draw t.bl rfl rfl (by decide) (lv_ge n) (fun _ _ => rfl) (fun cdv A outer s H E hr c => ?_)
  unfold b__law_draw
  exact mss_cons (ms_if (mt_w (mw_and (mt_c (c_le c) (me_ix c (me_var 0 (by decide) (pv 0)) (me_int)) (me_int)) (mw_and1 (mt_c (c_lt c) (me_ix c (me_var 0 (by decide) (pv 0)) (me_int)) (me_len c (by rfl) (me_ix c (me_var 0 (by decide) (pv 0)) (me_int))))))) (mss_cons (ms_set c (by decide) (me_ix c (me_ix c (me_var 0 (by decide) (pv 0)) (me_int)) (me_ix c (me_var 0 (by decide) (pv 0)) (me_int))))
    (mss_cons (ms_cell (me_add c (me_ix c (me_var 0 (by decide) (pv 0)) (me_int)) (me_int)) (me_var 0 (by decide) (pv 0)) (me_int))
    (mss_cons (ms_cell (me_var 2 (by decide) (pv 2)) (me_var 0 (by decide) (pv 0)) (me_int))
    (mss_one (ms_if (mt_c (c_lt c) (me_var 2 (by decide) (pv 2)) (me_int)) (mss_one (ms_cell (me_call0 I.f__law_spread (hr.mono (Nat.le_succ _)) t.g__law_spread t.d__law_spread.fn.kp t.d__law_spread.bind (ma_cons (me_var 2 (by decide) (pv 2)) (ma_nil)) (al_cons (al_nil))) (me_var 0 (by decide) (pv 0)) (me_int))) (mss_nil)))))) (mss_nil))
    (mss_cons (ms_cell (me_add c (me_ix c (me_var 0 (by decide) (pv 0)) (me_int)) (me_int)) (me_var 0 (by decide) (pv 0)) (me_int))
    (mss_cons (ms_if (mt_c (c_le c) (me_ix c (me_var 0 (by decide) (pv 0)) (me_int)) (me_int)) (mss_cons (ms_set c (by decide) (me_mod (me_int_ c (by rfl) (me_add c (me_add c (me_mul (me_ix c (me_var 0 (by decide) (pv 0)) (me_int)) (me_int)) (me_mul (me_ix c (me_var 0 (by decide) (pv 0)) (me_int)) (me_int))) (me_int))) (me_int)))
    (mss_cons (ms_set c (by decide) (me_mod (me_int_ c (by rfl) (me_add c (me_mul (me_var 3 (by decide) (pv 3)) (me_int)) (me_ix c (me_var 0 (by decide) (pv 0)) (me_int)))) (me_int)))
    (mss_one (ms_ret (me_mod (me_fdiv (me_var 3 (by decide) (pv 3)) (me_int)) (me_var 1 (by decide) (pv 1))))))) (mss_nil))
    (mss_cons (ms_set c (by decide) (me_mod (me_int_ c (by rfl) (me_ix c (me_var 0 (by decide) (pv 0)) (me_int))) (me_var 1 (by decide) (pv 1))))
    (mss_cons (ms_cell (me_fdiv (me_ix c (me_var 0 (by decide) (pv 0)) (me_int)) (me_var 1 (by decide) (pv 1))) (me_var 0 (by decide) (pv 0)) (me_int))
    (mss_one (ms_ret (me_var 4 (by decide) (pv 4))))))))
theorem ok__law_shuffled (t : Txt K mg) {n : Nat} (I : Ok t P w base n) : FnOk P w K mg base CX0 (lv (n + 1)) t.d__law_shuffled.fa t.d__law_shuffled.fd ["pool", "items"] (spF t.G (callN tbl (n + 1)) 4 2) := by
  refine fn_ok (O := [2, 3]) (k := lv n + 1) (body := b__law_shuffled (callN tbl n)) t.d__law_shuffled.fn sc__law_shuffled t.bl rfl rfl (by decide) (lv_ge n) (fun _ _ => rfl) (fun cdv A outer s H E hr c => ?_)
  unfold b__law_shuffled l0__law_shuffled
  exact mss_cons (ms_setF c (by decide) (mf_list c (by rfl) (me_var 1 (by decide) (pv 1))) eList_list)
    (mss_cons (ms_setF c (by decide) (mf_lst (ma_nil) (al_nil)) eLst_list)
    (mss_cons (ms_while 100 c (mt_c (c_ne c) (me_own 2 (pv 2)) (me_lst (ma_nil) (al_nil))) (mss_one (ms_popApp c (by decide) (by decide) (by decide) (pv 3) (pv 2) (me_call0 I.f__law_draw (hr.mono (Nat.le_succ _)) t.g__law_draw t.d__law_draw.fn.kp t.d__law_draw.bind (ma_cons (me_var 0 (by decide) (pv 0)) (ma_cons (me_len c (by rfl) (me_own 2 (pv 2))) (ma_nil))) (al_cons (al_cons (al_nil)))))))
    (mss_one (ms_ret (me_var 3 (by decide) (pv 3))))))
theorem ok__law_line_of (t : Txt K mg) {n : Nat} (I : Ok t P w base n) : FnOk P w K mg base CX0 (lv (n + 1)) t.d__law_line_of.fa t.d__law_line_of.fd ["p", "q", "letters", "rest"] (spF t.G (callN tbl (n + 1)) 5 4) := by
  refine fn_ok (O := []) (k := lv n + 1) (body := b__law_line_of (callN tbl n)) t.d__law_line_of.fn sc__law_line_of t.bl rfl rfl (by decide) (lv_ge n) (fun _ _ => rfl) (fun cdv A outer s H E hr c => ?_)
  unfold b__law_line_of l0__law_line_of
  exact mss_cons (ms_for c (by decide) (mi_sq c (me_rev c (me_var 2 (by decide) (pv 2)))) (tg1) (mss_one (ms_set c (by decide) (me_tup (ma_cons (me_str) (ma_cons (me_var 0 (by decide) (pv 0)) (ma_cons (me_var 1 (by decide) (pv 1)) (ma_cons (me_tup (ma_cons (me_tup (ma_cons (me_var 4 (by decide) (pv 4)) (ma_cons (me_var 3 (by decide) (pv 3)) (ma_nil))) (al_cons (al_cons (al_nil)))) (ma_nil)) (al_cons (al_nil))) (ma_nil))))) (al_cons (al_cons (al_cons (al_cons (al_nil)))))))))
    (mss_one (ms_ret (me_var 3 (by decide) (pv 3))))
theorem ok_law (t : Txt K mg) {n : Nat} (I : Ok t P w base n) : FnOk P w K mg base CX0 (lv (n + 1)) t.d_law.fa t.d_law.fd ["script"] (spF t.G (callN tbl (n + 1)) 6 1) := by
  refine fn_ok (O := []) (k := lv n + 1) (body := b_law (callN tbl n)) t.d_law.fn sc_law t.bl rfl rfl (by decide) (lv_ge n) (fun _ _ => rfl) (fun cdv A outer s H E hr c => ?_)
  unfold b_law l1_law l0_law
  exact mss_cons (ms_set c (by decide) (me_call0 I.f__law_pool (hr.mono (Nat.le_succ _)) t.g__law_pool t.d__law_pool.fn.kp t.d__law_pool.bind (ma_cons (me_var 0 (by decide) (pv 0)) (ma_nil)) (al_cons (al_nil))))
    (mss_cons (ms_par3 c (by decide) (by decide) (by decide) (by decide) (ma_cons (me_call0 I.f__law_shuffled (hr.mono (Nat.le_succ _)) t.g__law_shuffled t.d__law_shuffled.fn.kp t.d__law_shuffled.bind (ma_cons (me_var 1 (by decide) (pv 1)) (ma_cons (me_lst (ma_cons (me_int) (ma_cons (me_int) (ma_cons (me_int) (ma_cons (me_int) (ma_nil))))) (al_cons (al_cons (al_cons (al_cons (al_nil)))))) (ma_nil))) (al_cons (al_cons (al_nil)))) (ma_cons (me_call0 I.f__law_draw (hr.mono (Nat.le_succ _)) t.g__law_draw t.d__law_draw.fn.kp t.d__law_draw.bind (ma_cons (me_var 1 (by decide) (pv 1)) (ma_cons (me_int) (ma_nil))) (al_cons (al_cons (al_nil)))) (ma_cons (me_call0 I.f__law_draw (hr.mono (Nat.le_succ _)) t.g__law_draw t.d__law_draw.fn.kp t.d__law_draw.bind (ma_cons (me_var 1 (by decide) (pv 1)) (ma_cons (me_int) (ma_nil))) (al_cons (al_cons (al_nil)))) (ma_nil)))) (al_cons (al_cons (al_cons (al_nil)))))
    (mss_cons (ms_set c (by decide) (me_call0 I.f__law_line_of (hr.mono (Nat.le_succ _)) t.g__law_line_of t.d__law_line_of.fn.kp t.d__law_line_of.bind (ma_cons (me_ix c (me_var 2 (by decide) (pv 2)) (me_int)) (ma_cons (me_ix c (me_var 2 (by decide) (pv 2)) (me_int)) (ma_cons (PM.fresh (mf_rep (me_lst (ma_cons (me_var 3 (by decide) (pv 3)) (ma_nil)) (al_cons (al_nil))) (me_var 4 (by decide) (pv 4))) eRep_list) (ma_cons (me_tup (ma_cons (me_str) (ma_nil)) (al_cons (al_nil))) (ma_nil))))) (al_cons (al_cons (al_cons (al_cons (al_nil)))))))
    (mss_cons (ms_set c (by decide) (me_tuple c (by rfl) (me_comp (mf_comp c (own := ([("part", 18)] : List (Str × Nat))) (toc (mi_sq c (me_call0 I.f_parts (hr.mono (Nat.le_succ _)) t.g_parts t.d_parts.fn.kp t.d_parts.bind (ma_cons (me_var 5 (by decide) (pv 5)) (ma_nil)) (al_cons (al_nil))))) (blk_ok (by rfl)) rfl (by decide) (by decide) (fun _ _ _ _ _ => tg1) (fun _ _ _ _ _ cb => mts_nil) (fun _ _ _ _ _ cb => me_call0 I.f_machine_of (hr.mono (Nat.le_succ _)) t.g_machine_of t.d_machine_of.fn.kp t.d_machine_of.bind (ma_cons (me_var 18 (by decide) (pv 18)) (ma_nil)) (al_cons (al_nil)))) eComp_list)))
    (mss_cons (ms_set c (by decide) (me_add c (me_add c (me_var 4 (by decide) (pv 4)) (me_int)) (me_call0 I.f__law_draw (hr.mono (Nat.le_succ _)) t.g__law_draw t.d__law_draw.fn.kp t.d__law_draw.bind (ma_cons (me_var 1 (by decide) (pv 1)) (ma_cons (me_int) (ma_nil))) (al_cons (al_cons (al_nil))))))
    (mss_cons (ms_if (mt_w (mw_or (mt_c (c_isNot c) (me_call0 I.f_trouble (hr.mono (Nat.le_succ _)) t.g_trouble t.d_trouble.fn.kp t.d_trouble.bind (ma_cons (me_var 6 (by decide) (pv 6)) (ma_cons (me_var 7 (by decide) (pv 7)) (ma_nil))) (al_cons (al_cons (al_nil)))) (me_non)) (mw_or1 (mt_c (c_ne c) (me_and (me_call0 I.f_bears (hr.mono (Nat.le_succ _)) t.g_bears t.d_bears.fn.kp t.d_bears.bind (ma_cons (me_var 6 (by decide) (pv 6)) (ma_cons (me_var 7 (by decide) (pv 7)) (ma_cons (me_str) (ma_nil)))) (al_cons (al_cons (al_cons (al_nil))))) (me_one (me_call0 I.f_bears (hr.mono (Nat.le_succ _)) t.g_bears t.d_bears.fn.kp t.d_bears.bind (ma_cons (me_var 6 (by decide) (pv 6)) (ma_cons (me_var 7 (by decide) (pv 7)) (ma_cons (me_str) (ma_nil)))) (al_cons (al_cons (al_cons (al_nil))))))) (me_c (c_eq c) (me_var 4 (by decide) (pv 4)) (me_int)))))) (mss_one (ms_ret (me_bl))) (mss_nil))
    (mss_cons (ms_if (mt_c (c_eq c) (me_var 4 (by decide) (pv 4)) (me_int)) (mss_one (ms_ret (me_and (me_c (c_is c) (me_call0 I.f_search_2 (hr.mono (Nat.le_succ _)) t.g_search_losses t.d_search_2.fn.kp t.d_search_2.bind (ma_cons (me_var 6 (by decide) (pv 6)) (ma_cons (me_var 7 (by decide) (pv 7)) (ma_cons (me_str) (ma_nil)))) (al_cons (al_cons (al_cons (al_nil))))) (me_non)) (me_one (me_c (c_is c) (me_call0 I.f_search_2 (hr.mono (Nat.le_succ _)) t.g_search_losses t.d_search_2.fn.kp t.d_search_2.bind (ma_cons (me_var 6 (by decide) (pv 6)) (ma_cons (me_var 7 (by decide) (pv 7)) (ma_cons (me_str) (ma_nil)))) (al_cons (al_cons (al_cons (al_nil))))) (me_non)))))) (mss_nil))
    (mss_cons (ms_for c (by decide) (mi_sq c (me_tup (ma_cons (me_tup (ma_cons (me_str) (ma_cons (me_str) (ma_cons (me_int) (ma_nil)))) (al_cons (al_cons (al_cons (al_nil))))) (ma_cons (me_tup (ma_cons (me_str) (ma_cons (me_str) (ma_cons (me_int) (ma_nil)))) (al_cons (al_cons (al_cons (al_nil))))) (ma_nil))) (al_cons (al_cons (al_nil))))) (TgOk.t (gs_cons c (gs_cons c (gs_cons c (gs_nil)))) rfl rfl) (mss_cons (ms_unp c (by decide) (TgOk.t (gs_cons c (gs_cons c (gs_nil))) rfl rfl) (me_call0 I.f_search_2 (hr.mono (Nat.le_succ _)) t.g_search_losses t.d_search_2.fn.kp t.d_search_2.bind (ma_cons (me_var 6 (by decide) (pv 6)) (ma_cons (me_var 7 (by decide) (pv 7)) (ma_cons (me_var 8 (by decide) (pv 8)) (ma_nil)))) (al_cons (al_cons (al_cons (al_nil))))))
    (mss_cons (ms_set c (by decide) (me_tup (ma_cons (me_ix c (me_var 2 (by decide) (pv 2)) (me_int)) (ma_cons (me_var 8 (by decide) (pv 8)) (ma_cons (me_ix c (me_var 2 (by decide) (pv 2)) (me_int)) (ma_cons (me_int) (ma_nil))))) (al_cons (al_cons (al_cons (al_cons (al_nil)))))))
    (mss_cons (ms_unp c (by decide) (TgOk.t (gs_cons c (gs_cons c (gs_nil))) rfl rfl) (me_tup (ma_cons (me_tup (ma_cons (me_ix c (me_var 2 (by decide) (pv 2)) (me_int)) (ma_cons (me_str) (ma_cons (me_ix c (me_var 2 (by decide) (pv 2)) (me_int)) (ma_cons (me_var 3 (by decide) (pv 3)) (ma_nil))))) (al_cons (al_cons (al_cons (al_cons (al_nil)))))) (ma_cons (me_tup (ma_cons (me_ix c (me_var 2 (by decide) (pv 2)) (me_int)) (ma_cons (me_str) (ma_cons (me_ix c (me_var 2 (by decide) (pv 2)) (me_int)) (ma_cons (me_var 3 (by decide) (pv 3)) (ma_nil))))) (al_cons (al_cons (al_cons (al_cons (al_nil)))))) (ma_nil))) (al_cons (al_cons (al_nil)))))
    (mss_cons (ms_if (mt_w (mw_or (mt_c (c_ne c) (me_var 11 (by decide) (pv 11)) (me_var 9 (by decide) (pv 9))) (mw_or (mt_c (c_ne c) (me_len c (by rfl) (me_var 12 (by decide) (pv 12))) (me_add c (me_mul (me_int) (me_var 4 (by decide) (pv 4))) (me_var 10 (by decide) (pv 10)))) (mw_or1 (mt_c (c_ne c) (me_len c (by rfl) (me_comp (mf_comp c (own := ([("deed", 17)] : List (Str × Nat))) (toc (mi_sq c (me_var 12 (by decide) (pv 12)))) (blk_ok (by rfl)) rfl (by decide) (by decide) (fun _ _ _ _ _ => tg1) (fun _ _ _ _ _ cb => mts_one (mt_c (c_eq cb) (me_var 17 (by decide) (pv 17)) (me_var 13 (by decide) (pv 13)))) (fun _ _ _ _ _ cb => me_var 17 (by decide) (pv 17))) eComp_list)) (me_int)))))) (mss_one (ms_ret (me_bl))) (mss_nil))
    (mss_cons (ms_if (mt_not (mt_val (me_call0 I.f__law_same (hr.mono (Nat.le_succ _)) t.g__law_same t.d__law_same.fn.kp t.d__law_same.bind (ma_cons (me_lst (ma_cons (me_len c (by rfl) (me_comp (mf_comp c (own := ([("deed", 17)] : List (Str × Nat))) (toc (mi_sq c (me_var 12 (by decide) (pv 12)))) (blk_ok (by rfl)) rfl (by decide) (by decide) (fun _ _ _ _ _ => tg1) (fun _ _ _ _ _ cb => mts_one (mt_c (c_eq cb) (me_var 17 (by decide) (pv 17)) (me_var 14 (by decide) (pv 14)))) (fun _ _ _ _ _ cb => me_var 17 (by decide) (pv 17))) eComp_list)) (ma_cons (me_len c (by rfl) (me_comp (mf_comp c (own := ([("deed", 17)] : List (Str × Nat))) (toc (mi_sq c (me_var 12 (by decide) (pv 12)))) (blk_ok (by rfl)) rfl (by decide) (by decide) (fun _ _ _ _ _ => tg1) (fun _ _ _ _ _ cb => mts_one (mt_c (c_eq cb) (me_var 17 (by decide) (pv 17)) (me_var 15 (by decide) (pv 15)))) (fun _ _ _ _ _ cb => me_var 17 (by decide) (pv 17))) eComp_list)) (ma_nil))) (al_cons (al_cons (al_nil)))) (ma_cons (me_lst (ma_cons (me_var 4 (by decide) (pv 4)) (ma_cons (me_add c (me_sub (me_var 4 (by decide) (pv 4)) (me_int)) (me_var 10 (by decide) (pv 10))) (ma_nil))) (al_cons (al_cons (al_nil)))) (ma_nil))) (al_cons (al_cons (al_nil)))))) (mss_one (ms_ret (me_bl))) (mss_nil))
    (mss_cons (ms_set c (by decide) (me_int))
    (mss_cons (ms_for c (by decide) (mi_sq c (me_var 12 (by decide) (pv 12))) (tg1) (mss_cons (ms_set c (by decide) (me_add c (me_var 16 (by decide) (pv 16)) (me_if (mt_c (c_eq c) (me_var 17 (by decide) (pv 17)) (me_var 14 (by decide) (pv 14))) (me_int) (me_if (mt_c (c_eq c) (me_var 17 (by decide) (pv 17)) (me_var 15 (by decide) (pv 15))) (me_neg (me_int)) (me_if (mt_c (c_eq c) (me_var 8 (by decide) (pv 8)) (me_str)) (me_neg (me_int)) (me_int))))))
    (mss_one (ms_if (mt_c (c_lt c) (me_var 16 (by decide) (pv 16)) (me_int)) (mss_one (ms_ret (me_bl))) (mss_nil)))))
    (mss_one (ms_if (mt_c (c_ne c) (me_var 16 (by decide) (pv 16)) (me_var 10 (by decide) (pv 10))) (mss_one (ms_ret (me_bl))) (mss_nil)))))))))))
    (mss_one (ms_ret (me_bl))))))))))
theorem ok_Parter_init (t : Txt K mg) {n : Nat} (I : Ok t P w base n) : FnOk P w K mg base CX0 (lv (n + 1)) t.d_Parter_init.fa t.d_Parter_init.fd ["self", "role"] (spF t.G (callN tbl (n + 1)) 7 2) := by
  refine fn_ok (O := []) (k := lv n + 1) (body := b_Parter_init (callN tbl n)) t.d_Parter_init.fn sc_Parter_init t.bl rfl rfl (by decide) (lv_ge n) (fun _ _ => rfl) (fun cdv A outer s H E hr c => ?_)
  unfold b_Parter_init
  exact mss_cons (ms_fld t.cl_Parter t.n_Parter_role (by exact (show (["role", "trouble"] : List Str).Nodup by decide +kernel)) (i := 0) rfl (by exact (show (["role", "trouble"] : List Str).length < 1000 by decide +kernel)) (me_var 1 (by decide) (pv 1)) (me_var 0 (by decide) (pv 0)) (by rfl))
    (mss_one (ms_fld t.cl_Parter t.n_Parter_trouble (by exact (show (["role", "trouble"] : List Str).Nodup by decide +kernel)) (i := 1) rfl (by exact (show (["role", "trouble"] : List Str).length < 1000 by decide +kernel)) (me_non) (me_var 0 (by decide) (pv 0)) (by rfl)))
theorem ok_Parter_part (t : Txt K mg) {n : Nat} (I : Ok t P w base n) : FnOk P w K mg base CX0 (lv (n + 1)) t.d_Parter_part.fa t.d_Parter_part.fd ["self", "value", "number"] (spF t.G (callN tbl (n + 1)) 8 3) := by
  refine fn_ok (O := []) (k := lv n + 1) (body := b_Parter_part (callN tbl n)) t.d_Parter_part.fn sc_Parter_part t.bl rfl rfl (by decide) (lv_ge n) (fun _ _ => rfl) (fun cdv A outer s H E hr c => ?_)
  unfold b_Parter_part
  exact mss_cons (ms_if (mt_c (c_in c) (me_ix c (me_var 1 (by decide) (pv 1)) (me_int)) (me_tup (ma_cons (me_str) (ma_cons (me_str) (ma_nil))) (al_cons (al_cons (al_nil))))) (mss_one (ms_ret (me_var 1 (by decide) (pv 1)))) (mss_nil))
    (mss_cons (ms_if (mt_c (c_eq c) (me_ix c (me_var 1 (by decide) (pv 1)) (me_int)) (me_str)) (mss_never) (mss_nil))
    (mss_cons (ms_if (mt_c (c_eq c) (me_ix c (me_var 1 (by decide) (pv 1)) (me_int)) (me_str)) (mss_never) (mss_nil))
    (mss_one (ms_ret (me_meth0 I.f_Parter_of_saying (hr.mono (Nat.le_succ _)) t.cl_Parter t.meth_Parter_of_saying t.d_Parter_of_saying.bind (by exact (show ¬ ("of_saying" : Str) ∈ (["role", "trouble"] : List Str) by decide +kernel)) (me_var 0 (by decide) (pv 0)) (ma_cons (me_var 1 (by decide) (pv 1)) (ma_cons (me_var 2 (by decide) (pv 2)) (ma_nil))) (al_cons (al_cons (al_nil))))))))
theorem ok_Parter_of_saying (t : Txt K mg) {n : Nat} (I : Ok t P w base n) : FnOk P w K mg base CX0 (lv (n + 1)) t.d_Parter_of_saying.fa t.d_Parter_of_saying.fd ["self", "value", "number"] (spF t.G (callN tbl (n + 1)) 9 3) := by
  refine fn_ok (O := [4]) (k := lv n + 1) (body := b_Parter_of_saying (callN tbl n)) t.d_Parter_of_saying.fn sc_Parter_of_saying t.bl rfl rfl (by decide) (lv_ge n) (fun _ _ => rfl) (fun cdv A outer s H E hr c => ?_)
  unfold b_Parter_of_saying l1_Parter_of_saying l0_Parter_of_saying
  exact mss_cons (ms_set c (by decide) (me_var 2 (by decide) (pv 2)))
    (mss_cons (ms_setF c (by decide) (mf_lst (ma_nil) (al_nil)) eLst_list)
    (mss_cons (ms_augAdd c (by decide) (me_int))
    (mss_cons (ms_for c (by decide) (mi_sq c (me_ix c (me_var 1 (by decide) (pv 1)) (me_int))) (TgOk.t (gs_cons c (gs_cons c (gs_nil))) rfl rfl) (mss_cons (ms_append c (by decide) (pv 4) (me_tup (ma_cons (me_var 5 (by decide) (pv 5)) (ma_cons (me_meth0 I.f_Parter_part (hr.mono (Nat.le_succ _)) t.cl_Parter t.meth_Parter_part t.d_Parter_part.bind (by exact (show ¬ ("part" : Str) ∈ (["role", "trouble"] : List Str) by decide +kernel)) (me_var 0 (by decide) (pv 0)) (ma_cons (me_var 6 (by decide) (pv 6)) (ma_cons (me_var 2 (by decide) (pv 2)) (ma_nil))) (al_cons (al_cons (al_nil)))) (ma_nil))) (al_cons (al_cons (al_nil)))))
    (mss_one (ms_augAdd c (by decide) (me_call0 I.f_size_of (hr.mono (Nat.le_succ _)) t.g_size_of t.d_size_of.fn.kp t.d_size_of.bind (ma_cons (me_var 6 (by decide) (pv 6)) (ma_nil)) (al_cons (al_nil)))))))
    (mss_cons (ms_if (mt_val (me_any c (by rfl) (me_comp (mf_comp c (own := ([("_", 8), ("part", 9)] : List (Str × Nat))) (mi_own c (me_own 4 (pv 4))) (blk_ok (by rfl)) rfl (by decide) (by decide) (fun s_ H_ C_ l_ f_ => TgOk.t (gs_cons (c.blk s_ H_ _ _ f_) (gs_cons (c.blk s_ H_ _ _ f_) (gs_nil))) rfl rfl) (fun _ _ _ _ _ cb => mts_nil) (fun _ _ _ _ _ cb => me_c (c_is cb) (me_var 9 (by decide) (pv 9)) (me_non))) eComp_list))) (mss_one (ms_ret (me_non))) (mss_nil))
    (mss_cons (ms_if (mt_c (c_eq c) (me_fld c.hK t.cl_Parter t.n_Parter_role (by exact (show (["role", "trouble"] : List Str).Nodup by decide +kernel)) (i := 0) rfl (me_var 0 (by decide) (pv 0))) (me_ix c (me_var 1 (by decide) (pv 1)) (me_int))) (mss_one (ms_ret (me_tup (ma_cons (me_str) (ma_cons (me_ix c (me_var 1 (by decide) (pv 1)) (me_int)) (ma_cons (me_tuple c (by rfl) (me_var 4 (by decide) (pv 4))) (ma_nil)))) (al_cons (al_cons (al_cons (al_nil))))))) (mss_nil))
    (mss_cons (ms_if (mt_c (c_eq c) (me_fld c.hK t.cl_Parter t.n_Parter_role (by exact (show (["role", "trouble"] : List Str).Nodup by decide +kernel)) (i := 0) rfl (me_var 0 (by decide) (pv 0))) (me_ix c (me_var 1 (by decide) (pv 1)) (me_int))) (mss_one (ms_ret (me_tup (ma_cons (me_str) (ma_cons (me_ix c (me_var 1 (by decide) (pv 1)) (me_int)) (ma_cons (me_tuple c (by rfl) (me_var 4 (by decide) (pv 4))) (ma_nil)))) (al_cons (al_cons (al_cons (al_nil))))))) (mss_nil))
    (mss_cons (ms_set c (by decide) (me_ix c (me_ix c (me_own 4 (pv 4)) (me_int)) (me_int)))
    (mss_cons (ms_for c (by decide) (mi_sq c (me_sl c (me_own 4 (pv 4)) (mo_some (me_int)) (mo_no))) (TgOk.t (gs_cons c (gs_cons c (gs_nil))) rfl rfl) (mss_one (ms_set c (by decide) (me_if (mt_c (c_isNot c) (me_var 7 (by decide) (pv 7)) (me_non)) (me_never) (me_non)))))
    (mss_one (ms_ret (me_if (mt_c (c_is c) (me_var 7 (by decide) (pv 7)) (me_non)) (me_never) (me_var 7 (by decide) (pv 7)))))))))))))
theorem ok_size_of (t : Txt K mg) {n : Nat} (I : Ok t P w base n) : FnOk P w K mg base CX0 (lv (n + 1)) t.d_size_of.fa t.d_size_of.fd ["talk"] (spF t.G (callN tbl (n + 1)) 10 1) := by
  refine fn_ok (O := []) (k := lv n + 1) (body := b_size_of (callN tbl n)) t.d_size_of.fn sc_size_of t.bl rfl rfl (by decide) (lv_ge n) (fun _ _ => rfl) (fun cdv A outer s H E hr c => ?_)
  unfold b_size_of
  exact mss_cons (ms_if (mt_c (c_eq c) (me_ix c (me_var 0 (by decide) (pv 0)) (me_int)) (me_str)) (mss_one (ms_ret (me_add c (me_int) (me_sum c (by rfl) (me_comp (mf_comp c (own := ([("_", 1), ("after", 2)] : List (Str × Nat))) (toc (mi_sq c (me_ix c (me_var 0 (by decide) (pv 0)) (me_int)))) (blk_ok (by rfl)) rfl (by decide) (by decide) (fun s_ H_ C_ l_ f_ => TgOk.t (gs_cons (c.blk s_ H_ _ _ f_) (gs_cons (c.blk s_ H_ _ _ f_) (gs_nil))) rfl rfl) (fun _ _ _ _ _ cb => mts_nil) (fun _ _ _ _ _ cb => me_call0 I.f_size_of (hr.mono (Nat.le_succ _)) t.g_size_of t.d_size_of.fn.kp t.d_size_of.bind (ma_cons (me_var 2 (by decide) (pv 2)) (ma_nil)) (al_cons (al_nil)))) eComp_list))))) (mss_nil))
    (mss_cons (ms_if (mt_c (c_eq c) (me_ix c (me_var 0 (by decide) (pv 0)) (me_int)) (me_str)) (mss_one (ms_ret (me_add c (me_add c (me_int) (me_call0 I.f_size_of (hr.mono (Nat.le_succ _)) t.g_size_of t.d_size_of.fn.kp t.d_size_of.bind (ma_cons (me_ix c (me_var 0 (by decide) (pv 0)) (me_int)) (ma_nil)) (al_cons (al_nil)))) (me_call0 I.f_size_of (hr.mono (Nat.le_succ _)) t.g_size_of t.d_size_of.fn.kp t.d_size_of.bind (ma_cons (me_ix c (me_var 0 (by decide) (pv 0)) (me_int)) (ma_nil)) (al_cons (al_nil)))))) (mss_nil))
    (mss_one (ms_ret (me_if (mt_c (c_eq c) (me_ix c (me_var 0 (by decide) (pv 0)) (me_int)) (me_str)) (me_add c (me_int) (me_call0 I.f_size_of (hr.mono (Nat.le_succ _)) t.g_size_of t.d_size_of.fn.kp t.d_size_of.bind (ma_cons (me_ix c (me_var 0 (by decide) (pv 0)) (me_int)) (ma_nil)) (al_cons (al_nil)))) (me_int)))))
theorem ok_parted (t : Txt K mg) {n : Nat} (I : Ok t P w base n) : FnOk P w K mg base CX0 (lv (n + 1)) t.d_parted.fa t.d_parted.fd ["talk", "role"] (spF t.G (callN tbl (n + 1)) 11 2) := by
  refine fn_ok (O := []) (k := lv n + 1) (body := b_parted (callN tbl n)) t.d_parted.fn sc_parted t.bl rfl rfl (by decide) (lv_ge n) (fun _ _ => rfl) (fun cdv A outer s H E hr c => ?_)
  unfold b_parted
  exact mss_cons (ms_set c (by decide) (me_make0_ I.f_Parter_init (hr.mono (Nat.le_refl _)) t.mk_Parter t.m_Parter t.d_Parter_init.bind (ma_cons (me_var 1 (by decide) (pv 1)) (ma_nil)) (al_cons (al_nil))))
    (mss_cons (ms_set c (by decide) (me_meth0 I.f_Parter_part (hr.mono (Nat.le_succ _)) t.cl_Parter t.meth_Parter_part t.d_Parter_part.bind (by exact (show ¬ ("part" : Str) ∈ (["role", "trouble"] : List Str) by decide +kernel)) (me_var 2 (by decide) (pv 2)) (ma_cons (me_var 0 (by decide) (pv 0)) (ma_cons (me_int) (ma_nil))) (al_cons (al_cons (al_nil)))))
    (mss_one (ms_ret (me_if (mt_c (c_is c) (me_fld c.hK t.cl_Parter t.n_Parter_trouble (by exact (show (["role", "trouble"] : List Str).Nodup by decide +kernel)) (i := 1) rfl (me_var 2 (by decide) (pv 2))) (me_non)) (me_tup (ma_cons (me_var 3 (by decide) (pv 3)) (ma_cons (me_non) (ma_nil))) (al_cons (al_cons (al_nil)))) (me_tup (ma_cons (me_non) (ma_cons (me_fld c.hK t.cl_Parter t.n_Parter_trouble (by exact (show (["role", "trouble"] : List Str).Nodup by decide +kernel)) (i := 1) rfl (me_var 2 (by decide) (pv 2))) (ma_nil))) (al_cons (al_cons (al_nil))))))))
theorem ok_parts (t : Txt K mg) {n : Nat} (I : Ok t P w base n) : FnOk P w K mg base CX0 (lv (n + 1)) t.d_parts.fa t.d_parts.fd ["talk"] (spF t.G (callN tbl (n + 1)) 12 1) := by
  refine fn_ok (O := []) (k := lv n + 1) (body := b_parts (callN tbl n)) t.d_parts.fn sc_parts t.bl rfl rfl (by decide) (lv_ge n) (fun _ _ => rfl) (fun cdv A outer s H E hr c => ?_)
  unfold b_parts
  exact mss_cons (ms_setLc c (by decide) (own := ([("role", 2)] : List (Str × Nat))) (toc (mi_rg1 c (by rfl) (me_int))) (blk_ok (by rfl)) rfl (by decide) (by decide) (fun _ _ _ _ _ => tg1) (fun _ _ _ _ _ cb => mts_nil) (fun _ _ _ _ _ cb => me_ix cb (me_call0 I.f_parted (hr.mono (Nat.le_succ _)) t.g_parted t.d_parted.fn.kp t.d_parted.bind (ma_cons (me_var 0 (by decide) (pv 0)) (ma_cons (me_var 2 (by decide) (pv 2)) (ma_nil))) (al_cons (al_cons (al_nil)))) (me_int)) (by rfl))
    (mss_one (ms_ret (me_if (mt_val (me_any c (by rfl) (me_comp (mf_comp c (own := ([("part", 3)] : List (Str × Nat))) (toc (mi_sq c (me_var 1 (by decide) (pv 1)))) (blk_ok (by rfl)) rfl (by decide) (by decide) (fun _ _ _ _ _ => tg1) (fun _ _ _ _ _ cb => mts_nil) (fun _ _ _ _ _ cb => me_c (c_is cb) (me_var 3 (by decide) (pv 3)) (me_non))) eComp_list))) (me_non) (me_var 1 (by decide) (pv 1)))))
theorem ok_opened (t : Txt K mg) {n : Nat} (I : Ok t P w base n) : FnOk P w K mg base CX0 (lv (n + 1)) t.d_opened.fa t.d_opened.fd ["value"] (spF t.G (callN tbl (n + 1)) 13 1) := by
  refine fn_ok (O := []) (k := lv n + 1) (body := b_opened (callN tbl n)) t.d_opened.fn sc_opened t.bl rfl rfl (by decide) (lv_ge n) (fun _ _ => rfl) (fun cdv A outer s H E hr c => ?_)
  unfold b_opened l0_opened
  exact mss_cons (ms_while 1 c (mt_c (c_eq c) (me_ix c (me_var 0 (by decide) (pv 0)) (me_int)) (me_str)) (mss_never))
    (mss_one (ms_ret (me_var 0 (by decide) (pv 0))))
theorem ok_steps_from (t : Txt K mg) {n : Nat} (I : Ok t P w base n) : FnOk P w K mg base CX0 (lv (n + 1)) t.d_steps_from.fa t.d_steps_from.fd ["machine", "state"] (spF t.G (callN tbl (n + 1)) 14 2) := by
  refine fn_ok (O := []) (k := lv n + 1) (body := b_steps_from (callN tbl n)) t.d_steps_from.fn sc_steps_from t.bl rfl rfl (by decide) (lv_ge n) (fun _ _ => rfl) (fun cdv A outer s H E hr c => ?_)
  unfold b_steps_from
  exact mss_one (ms_ret (me_comp (mf_comp c (own := ([("step", 2)] : List (Str × Nat))) (toc (mi_sq c (me_ix c (me_var 0 (by decide) (pv 0)) (me_int)))) (blk_ok (by rfl)) rfl (by decide) (by decide) (fun _ _ _ _ _ => tg1) (fun _ _ _ _ _ cb => mts_one (mt_c (c_eq cb) (me_ix cb (me_var 2 (by decide) (pv 2)) (me_int)) (me_var 1 (by decide) (pv 1)))) (fun _ _ _ _ _ cb => me_var 2 (by decide) (pv 2))) eComp_list))
theorem ok_machine_of (t : Txt K mg) {n : Nat} (I : Ok t P w base n) : FnOk P w K mg base CX0 (lv (n + 1)) t.d_machine_of.fa t.d_machine_of.fd ["part"] (spF t.G (callN tbl (n + 1)) 15 1) := by
  refine fn_ok (O := [1, 2]) (k := lv n + 1) (body := b_machine_of (callN tbl n)) t.d_machine_of.fn sc_machine_of t.bl rfl rfl (by decide) (lv_ge n) (fun _ _ => rfl) (fun cdv A outer s H E hr c => ?_)
  unfold b_machine_of l1_machine_of l0_machine_of
  exact mss_cons (ms_setF c (by decide) (mf_lst (ma_cons (me_call0 I.f_opened (hr.mono (Nat.le_succ _)) t.g_opened t.d_opened.fn.kp t.d_opened.bind (ma_cons (me_var 0 (by decide) (pv 0)) (ma_nil)) (al_cons (al_nil))) (ma_nil)) (al_cons (al_nil))) eLst_list)
    (mss_cons (ms_setF c (by decide) (mf_lst (ma_nil) (al_nil)) eLst_list)
    (mss_cons (ms_set c (by decide) (me_int))
    (mss_cons (ms_while 1000 c (mt_c (c_lt c) (me_var 3 (by decide) (pv 3)) (me_len c (by rfl) (me_own 1 (pv 1)))) (mss_cons (ms_set c (by decide) (me_ix c (me_own 1 (pv 1)) (me_var 3 (by decide) (pv 3))))
    (mss_cons (ms_for c (by decide) (mi_sq c (me_if (mt_c (c_ne c) (me_ix c (me_var 4 (by decide) (pv 4)) (me_int)) (me_str)) (me_ix c (me_var 4 (by decide) (pv 4)) (me_int)) (me_tup (ma_nil) (al_nil)))) (TgOk.t (gs_cons c (gs_cons c (gs_nil))) rfl rfl) (mss_cons (ms_set c (by decide) (me_call0 I.f_opened (hr.mono (Nat.le_succ _)) t.g_opened t.d_opened.fn.kp t.d_opened.bind (ma_cons (me_var 6 (by decide) (pv 6)) (ma_nil)) (al_cons (al_nil))))
    (mss_cons (ms_if (mt_c (c_notIn c) (me_var 6 (by decide) (pv 6)) (me_own 1 (pv 1))) (mss_one (ms_append c (by decide) (pv 1) (me_var 6 (by decide) (pv 6)))) (mss_nil))
    (mss_one (ms_append c (by decide) (pv 2) (me_tup (ma_cons (me_var 3 (by decide) (pv 3)) (ma_cons (me_ix c (me_var 4 (by decide) (pv 4)) (me_int)) (ma_cons (me_ix c (me_var 4 (by decide) (pv 4)) (me_int)) (ma_cons (me_var 5 (by decide) (pv 5)) (ma_cons (me_index c (me_own 1 (pv 1)) (me_var 6 (by decide) (pv 6))) (ma_nil)))))) (al_cons (al_cons (al_cons (al_cons (al_cons (al_nil))))))))))))
    (mss_one (ms_augAdd c (by decide) (me_int))))))
    (mss_one (ms_ret (me_tup (ma_cons (me_len c (by rfl) (me_var 1 (by decide) (pv 1))) (ma_cons (me_tuple c (by rfl) (me_sorted c (by rfl) (me_var 2 (by decide) (pv 2)))) (ma_nil))) (al_cons (al_cons (al_nil)))))))))
theorem ok_begin (t : Txt K mg) {n : Nat} (I : Ok t P w base n) : FnOk P w K mg base CX0 (lv (n + 1)) t.d_begin.fa t.d_begin.fd ["machines"] (spF t.G (callN tbl (n + 1)) 16 1) := by
  refine fn_ok (O := []) (k := lv n + 1) (body := b_begin (callN tbl n)) t.d_begin.fn sc_begin t.bl rfl rfl (by decide) (lv_ge n) (fun _ _ => rfl) (fun cdv A outer s H E hr c => ?_)
  unfold b_begin
  exact mss_one (ms_ret (me_tup (ma_cons (me_tuple c (by rfl) (me_comp (mf_comp c (own := ([("_", 1)] : List (Str × Nat))) (toc (mi_sq c (me_var 0 (by decide) (pv 0)))) (blk_ok (by rfl)) rfl (by decide) (by decide) (fun _ _ _ _ _ => tg1) (fun _ _ _ _ _ cb => mts_nil) (fun _ _ _ _ _ cb => me_int)) eComp_list)) (ma_cons (me_tup (ma_nil) (al_nil)) (ma_nil))) (al_cons (al_cons (al_nil)))))
theorem ok_on_way (t : Txt K mg) {n : Nat} (I : Ok t P w base n) : FnOk P w K mg base CX0 (lv (n + 1)) t.d_on_way.fa t.d_on_way.fd ["queues", "speaker", "hearer"] (spF t.G (callN tbl (n + 1)) 17 3) := by
  refine fn_ok (O := []) (k := lv n + 1) (body := b_on_way (callN tbl n)) t.d_on_way.fn sc_on_way t.bl rfl rfl (by decide) (lv_ge n) (fun _ _ => rfl) (fun cdv A outer s H E hr c => ?_)
  unfold b_on_way
  exact mss_cons (ms_setLc c (by decide) (own := ([("a", 4), ("b", 5), ("row", 6)] : List (Str × Nat))) (toc (mi_sq c (me_var 0 (by decide) (pv 0)))) (blk_ok (by rfl)) rfl (by decide) (by decide) (fun s_ H_ C_ l_ f_ => TgOk.t (gs_cons (c.blk s_ H_ _ _ f_) (gs_cons (c.blk s_ H_ _ _ f_) (gs_cons (c.blk s_ H_ _ _ f_) (gs_nil)))) rfl rfl) (fun _ _ _ _ _ cb => mts_one (mt_c (c_eq cb) (me_tup (ma_cons (me_var 4 (by decide) (pv 4)) (ma_cons (me_var 5 (by decide) (pv 5)) (ma_nil))) (al_cons (al_cons (al_nil)))) (me_tup (ma_cons (me_var 1 (by decide) (pv 1)) (ma_cons (me_var 2 (by decide) (pv 2)) (ma_nil))) (al_cons (al_cons (al_nil)))))) (fun _ _ _ _ _ cb => me_var 6 (by decide) (pv 6)) (by rfl))
    (mss_one (ms_ret (me_if (mt_c (c_gt c) (me_len c (by rfl) (me_var 3 (by decide) (pv 3))) (me_int)) (me_ix c (me_var 3 (by decide) (pv 3)) (me_int)) (me_tup (ma_nil) (al_nil)))))
theorem ok_with_row (t : Txt K mg) {n : Nat} (I : Ok t P w base n) : FnOk P w K mg base CX0 (lv (n + 1)) t.d_with_row.fa t.d_with_row.fd ["queues", "speaker", "hearer", "row"] (spF t.G (callN tbl (n + 1)) 18 4) := by
  refine fn_ok (O := []) (k := lv n + 1) (body := b_with_row (callN tbl n)) t.d_with_row.fn sc_with_row t.bl rfl rfl (by decide) (lv_ge n) (fun _ _ => rfl) (fun cdv A outer s H E hr c => ?_)
  unfold b_with_row
  exact mss_cons (ms_setLc c (by decide) (own := ([("entry", 5)] : List (Str × Nat))) (toc (mi_sq c (me_var 0 (by decide) (pv 0)))) (blk_ok (by rfl)) rfl (by decide) (by decide) (fun _ _ _ _ _ => tg1) (fun _ _ _ _ _ cb => mts_one (mt_c (c_ne cb) (me_sl cb (me_var 5 (by decide) (pv 5)) (mo_no) (mo_some (me_int))) (me_tup (ma_cons (me_var 1 (by decide) (pv 1)) (ma_cons (me_var 2 (by decide) (pv 2)) (ma_nil))) (al_cons (al_cons (al_nil)))))) (fun _ _ _ _ _ cb => me_var 5 (by decide) (pv 5)) (by rfl))
    (mss_one (ms_ret (me_tuple c (by rfl) (me_sorted c (by rfl) (me_add c (me_var 4 (by decide) (pv 4)) (me_if (mt_c (c_gt c) (me_len c (by rfl) (me_var 3 (by decide) (pv 3))) (me_int)) (me_lst (ma_cons (me_tup (ma_cons (me_var 1 (by decide) (pv 1)) (ma_cons (me_var 2 (by decide) (pv 2)) (ma_cons (me_var 3 (by decide) (pv 3)) (ma_nil)))) (al_cons (al_cons (al_cons (al_nil))))) (ma_nil)) (al_cons (al_nil))) (me_lst (ma_nil) (al_nil))))))))
theorem ok_moved (t : Txt K mg) {n : Nat} (I : Ok t P w base n) : FnOk P w K mg base CX0 (lv (n + 1)) t.d_moved.fa t.d_moved.fd ["states", "role", "state"] (spF t.G (callN tbl (n + 1)) 19 3) := by
  refine fn_ok (O := []) (k := lv n + 1) (body := b_moved (callN tbl n)) t.d_moved.fn sc_moved t.bl rfl rfl (by decide) (lv_ge n) (fun _ _ => rfl) (fun cdv A outer s H E hr c => ?_)
  unfold b_moved
  exact mss_one (ms_ret (me_add c (me_add c (me_sl c (me_var 0 (by decide) (pv 0)) (mo_no) (mo_some (me_var 1 (by decide) (pv 1)))) (me_tup (ma_cons (me_var 2 (by decide) (pv 2)) (ma_nil)) (al_cons (al_nil)))) (me_sl c (me_var 0 (by decide) (pv 0)) (mo_some (me_add c (me_var 1 (by decide) (pv 1)) (me_int))) (mo_no))))
theorem ok_deeds (t : Txt K mg) {n : Nat} (I : Ok t P w base n) : FnOk P w K mg base CX0 (lv (n + 1)) t.d_deeds.fa t.d_deeds.fd ["machines", "here", "room"] (spF t.G (callN tbl (n + 1)) 20 3) := by
  refine fn_ok (O := [5]) (k := lv n + 1) (body := b_deeds (callN tbl n)) t.d_deeds.fn sc_deeds t.bl rfl rfl (by decide) (lv_ge n) (fun _ _ => rfl) (fun cdv A outer s H E hr c => ?_)
  unfold b_deeds l1_deeds l0_deeds
  exact mss_cons (ms_unp c (by decide) (TgOk.t (gs_cons c (gs_cons c (gs_nil))) rfl rfl) (me_var 1 (by decide) (pv 1)))
    (mss_cons (ms_setF c (by decide) (mf_lst (ma_nil) (al_nil)) eLst_list)
    (mss_cons (ms_for c (by decide) (mi_rg1 c (by rfl) (me_len c (by rfl) (me_var 0 (by decide) (pv 0)))) (tg1) (mss_one (ms_for c (by decide) (mi_sq c (me_call0 I.f_steps_from (hr.mono (Nat.le_succ _)) t.g_steps_from t.d_steps_from.fn.kp t.d_steps_from.bind (ma_cons (me_ix c (me_var 0 (by decide) (pv 0)) (me_var 6 (by decide) (pv 6))) (ma_cons (me_ix c (me_var 3 (by decide) (pv 3)) (me_var 6 (by decide) (pv 6))) (ma_nil))) (al_cons (al_cons (al_nil))))) (TgOk.t (gs_cons c (gs_cons c (gs_cons c (gs_cons c (gs_cons c (gs_nil)))))) rfl rfl) (mss_cons (ms_set c (by decide) (me_if (mt_c (c_eq c) (me_var 8 (by decide) (pv 8)) (me_str)) (me_call0 I.f_on_way (hr.mono (Nat.le_succ _)) t.g_on_way t.d_on_way.fn.kp t.d_on_way.bind (ma_cons (me_var 4 (by decide) (pv 4)) (ma_cons (me_var 6 (by decide) (pv 6)) (ma_cons (me_var 9 (by decide) (pv 9)) (ma_nil)))) (al_cons (al_cons (al_cons (al_nil))))) (me_call0 I.f_on_way (hr.mono (Nat.le_succ _)) t.g_on_way t.d_on_way.fn.kp t.d_on_way.bind (ma_cons (me_var 4 (by decide) (pv 4)) (ma_cons (me_var 9 (by decide) (pv 9)) (ma_cons (me_var 6 (by decide) (pv 6)) (ma_nil)))) (al_cons (al_cons (al_cons (al_nil)))))))
    (mss_cons (ms_if (mt_w (mw_and (mt_c (c_eq c) (me_var 8 (by decide) (pv 8)) (me_str)) (mw_and (mt_c (c_lt c) (me_var 9 (by decide) (pv 9)) (me_len c (by rfl) (me_var 0 (by decide) (pv 0)))) (mw_and (mt_c (c_ne c) (me_var 9 (by decide) (pv 9)) (me_var 6 (by decide) (pv 6))) (mw_and1 (mt_c (c_lt c) (me_len c (by rfl) (me_var 12 (by decide) (pv 12))) (me_var 2 (by decide) (pv 2)))))))) (mss_cons (ms_set c (by decide) (me_tup (ma_cons (me_call0 I.f_moved (hr.mono (Nat.le_succ _)) t.g_moved t.d_moved.fn.kp t.d_moved.bind (ma_cons (me_var 3 (by decide) (pv 3)) (ma_cons (me_var 6 (by decide) (pv 6)) (ma_cons (me_var 11 (by decide) (pv 11)) (ma_nil)))) (al_cons (al_cons (al_cons (al_nil))))) (ma_cons (me_call0 I.f_with_row (hr.mono (Nat.le_succ _)) t.g_with_row t.d_with_row.fn.kp t.d_with_row.bind (ma_cons (me_var 4 (by decide) (pv 4)) (ma_cons (me_var 6 (by decide) (pv 6)) (ma_cons (me_var 9 (by decide) (pv 9)) (ma_cons (me_add c (me_var 12 (by decide) (pv 12)) (me_tup (ma_cons (me_var 10 (by decide) (pv 10)) (ma_nil)) (al_cons (al_nil)))) (ma_nil))))) (al_cons (al_cons (al_cons (al_cons (al_nil)))))) (ma_nil))) (al_cons (al_cons (al_nil)))))
    (mss_one (ms_append c (by decide) (pv 5) (me_tup (ma_cons (me_var 6 (by decide) (pv 6)) (ma_cons (me_var 8 (by decide) (pv 8)) (ma_cons (me_var 9 (by decide) (pv 9)) (ma_cons (me_var 10 (by decide) (pv 10)) (ma_cons (me_var 13 (by decide) (pv 13)) (ma_nil)))))) (al_cons (al_cons (al_cons (al_cons (al_cons (al_nil)))))))))) (mss_nil))
    (mss_one (ms_if (mt_w (mw_and (mt_c (c_eq c) (me_var 8 (by decide) (pv 8)) (me_str)) (mw_and1 (mt_c (c_eq c) (me_sl c (me_var 12 (by decide) (pv 12)) (mo_no) (mo_some (me_int))) (me_tup (ma_cons (me_var 10 (by decide) (pv 10)) (ma_nil)) (al_cons (al_nil))))))) (mss_cons (ms_set c (by decide) (me_tup (ma_cons (me_call0 I.f_moved (hr.mono (Nat.le_succ _)) t.g_moved t.d_moved.fn.kp t.d_moved.bind (ma_cons (me_var 3 (by decide) (pv 3)) (ma_cons (me_var 6 (by decide) (pv 6)) (ma_cons (me_var 11 (by decide) (pv 11)) (ma_nil)))) (al_cons (al_cons (al_cons (al_nil))))) (ma_cons (me_call0 I.f_with_row (hr.mono (Nat.le_succ _)) t.g_with_row t.d_with_row.fn.kp t.d_with_row.bind (ma_cons (me_var 4 (by decide) (pv 4)) (ma_cons (me_var 9 (by decide) (pv 9)) (ma_cons (me_var 6 (by decide) (pv 6)) (ma_cons (me_sl c (me_var 12 (by decide) (pv 12)) (mo_some (me_int)) (mo_no)) (ma_nil))))) (al_cons (al_cons (al_cons (al_cons (al_nil)))))) (ma_nil))) (al_cons (al_cons (al_nil)))))
    (mss_one (ms_append c (by decide) (pv 5) (me_tup (ma_cons (me_var 6 (by decide) (pv 6)) (ma_cons (me_var 8 (by decide) (pv 8)) (ma_cons (me_var 9 (by decide) (pv 9)) (ma_cons (me_var 10 (by decide) (pv 10)) (ma_cons (me_var 13 (by decide) (pv 13)) (ma_nil)))))) (al_cons (al_cons (al_cons (al_cons (al_cons (al_nil)))))))))) (mss_nil))))))))
    (mss_one (ms_ret (me_sorted c (by rfl) (me_var 5 (by decide) (pv 5)))))))
theorem ok_trouble_at (t : Txt K mg) {n : Nat} (I : Ok t P w base n) : FnOk P w K mg base CX0 (lv (n + 1)) t.d_trouble_at.fa t.d_trouble_at.fd ["machines", "here", "room"] (spF t.G (callN tbl (n + 1)) 21 3) := by
  refine fn_ok (O := []) (k := lv n + 1) (body := b_trouble_at (callN tbl n)) t.d_trouble_at.fn sc_trouble_at t.bl rfl rfl (by decide) (lv_ge n) (fun _ _ => rfl) (fun cdv A outer s H E hr c => ?_)
  unfold b_trouble_at l0_trouble_at
  exact mss_cons (ms_unp c (by decide) (TgOk.t (gs_cons c (gs_cons c (gs_nil))) rfl rfl) (me_var 1 (by decide) (pv 1)))
    (mss_cons (ms_for c (by decide) (mi_rg1 c (by rfl) (me_len c (by rfl) (me_var 0 (by decide) (pv 0)))) (tg1) (mss_cons (ms_set c (by decide) (me_call0 I.f_steps_from (hr.mono (Nat.le_succ _)) t.g_steps_from t.d_steps_from.fn.kp t.d_steps_from.bind (ma_cons (me_ix c (me_var 0 (by decide) (pv 0)) (me_var 5 (by decide) (pv 5))) (ma_cons (me_ix c (me_var 3 (by decide) (pv 3)) (me_var 5 (by decide) (pv 5))) (ma_nil))) (al_cons (al_cons (al_nil)))))
    (mss_one (ms_if (mt_w (mw_and (mt_c (c_gt c) (me_len c (by rfl) (me_var 6 (by decide) (pv 6))) (me_int)) (mw_and1 (mt_val (me_all c (by rfl) (me_comp (mf_comp c (own := ([("step", 9)] : List (Str × Nat))) (toc (mi_sq c (me_var 6 (by decide) (pv 6)))) (blk_ok (by rfl)) rfl (by decide) (by decide) (fun _ _ _ _ _ => tg1) (fun _ _ _ _ _ cb => mts_nil) (fun _ _ _ _ _ cb => me_c (c_eq cb) (me_ix cb (me_var 9 (by decide) (pv 9)) (me_int)) (me_str))) eComp_list)))))) (mss_one (ms_if (mt_val (me_call0 I.f_is_unheard (hr.mono (Nat.le_succ _)) t.g_is_unheard t.d_is_unheard.fn.kp t.d_is_unheard.bind (ma_cons (me_var 6 (by decide) (pv 6)) (ma_cons (me_var 4 (by decide) (pv 4)) (ma_cons (me_var 5 (by decide) (pv 5)) (ma_nil)))) (al_cons (al_cons (al_cons (al_nil)))))) (mss_one (ms_ret (me_str))) (mss_nil))) (mss_nil)))))
    (mss_cons (ms_if (mt_c (c_gt c) (me_len c (by rfl) (me_call0 I.f_deeds (hr.mono (Nat.le_succ _)) t.g_deeds t.d_deeds.fn.kp t.d_deeds.bind (ma_cons (me_var 0 (by decide) (pv 0)) (ma_cons (me_var 1 (by decide) (pv 1)) (ma_cons (me_var 2 (by decide) (pv 2)) (ma_nil)))) (al_cons (al_cons (al_cons (al_nil)))))) (me_int)) (mss_one (ms_ret (me_non))) (mss_nil))
    (mss_cons (ms_set c (by decide) (me_all c (by rfl) (me_comp (mf_comp c (own := ([("k", 8)] : List (Str × Nat))) (toc (mi_rg1 c (by rfl) (me_len c (by rfl) (me_var 0 (by decide) (pv 0))))) (blk_ok (by rfl)) rfl (by decide) (by decide) (fun _ _ _ _ _ => tg1) (fun _ _ _ _ _ cb => mts_nil) (fun _ _ _ _ _ cb => me_c (c_eq cb) (me_len cb (by rfl) (me_call0 I.f_steps_from (hr.mono (Nat.le_succ _)) t.g_steps_from t.d_steps_from.fn.kp t.d_steps_from.bind (ma_cons (me_ix cb (me_var 0 (by decide) (pv 0)) (me_var 8 (by decide) (pv 8))) (ma_cons (me_ix cb (me_var 3 (by decide) (pv 3)) (me_var 8 (by decide) (pv 8))) (ma_nil))) (al_cons (al_cons (al_nil))))) (me_int))) eComp_list)))
    (mss_cons (ms_if (mt_val (me_var 7 (by decide) (pv 7))) (mss_one (ms_ret (me_if (mt_c (c_gt c) (me_len c (by rfl) (me_var 4 (by decide) (pv 4))) (me_int)) (me_str) (me_non)))) (mss_nil))
    (mss_one (ms_ret (me_str)))))))
theorem ok_is_unheard (t : Txt K mg) {n : Nat} (I : Ok t P w base n) : FnOk P w K mg base CX0 (lv (n + 1)) t.d_is_unheard.fa t.d_is_unheard.fd ["steps", "queues", "role"] (spF t.G (callN tbl (n + 1)) 22 3) := by
  refine fn_ok (O := []) (k := lv n + 1) (body := b_is_unheard (callN tbl n)) t.d_is_unheard.fn sc_is_unheard t.bl rfl rfl (by decide) (lv_ge n) (fun _ _ => rfl) (fun cdv A outer s H E hr c => ?_)
  unfold b_is_unheard l0_is_unheard
  exact mss_cons (ms_for c (by decide) (mi_sq c (me_sortSet c (by rfl) (by rfl) (me_comp (mf_comp c (own := ([("step", 5)] : List (Str × Nat))) (toc (mi_sq c (me_var 0 (by decide) (pv 0)))) (blk_ok (by rfl)) rfl (by decide) (by decide) (fun _ _ _ _ _ => tg1) (fun _ _ _ _ _ cb => mts_nil) (fun _ _ _ _ _ cb => me_ix cb (me_var 5 (by decide) (pv 5)) (me_int))) eComp_list))) (tg1) (mss_cons (ms_set c (by decide) (me_call0 I.f_on_way (hr.mono (Nat.le_succ _)) t.g_on_way t.d_on_way.fn.kp t.d_on_way.bind (ma_cons (me_var 1 (by decide) (pv 1)) (ma_cons (me_var 3 (by decide) (pv 3)) (ma_cons (me_var 2 (by decide) (pv 2)) (ma_nil)))) (al_cons (al_cons (al_cons (al_nil))))))
    (mss_one (ms_if (mt_w (mw_and (mt_c (c_gt c) (me_len c (by rfl) (me_var 4 (by decide) (pv 4))) (me_int)) (mw_and1 (mt_c (c_notIn c) (me_ix c (me_var 4 (by decide) (pv 4)) (me_int)) (me_comp (mf_comp c (own := ([("step", 5)] : List (Str × Nat))) (toc (mi_sq c (me_var 0 (by decide) (pv 0)))) (blk_ok (by rfl)) rfl (by decide) (by decide) (fun _ _ _ _ _ => tg1) (fun _ _ _ _ _ cb => mts_one (mt_c (c_eq cb) (me_ix cb (me_var 5 (by decide) (pv 5)) (me_int)) (me_var 3 (by decide) (pv 3)))) (fun _ _ _ _ _ cb => me_ix cb (me_var 5 (by decide) (pv 5)) (me_int))) eComp_list))))) (mss_one (ms_ret (me_bl))) (mss_nil)))))
    (mss_one (ms_ret (me_bl)))
theorem ok_search (t : Txt K mg) {n : Nat} (I : Ok t P w base n) : FnOk P w K mg base CX0 (lv (n + 1)) t.d_search.fa t.d_search.fd ["machines", "room"] (spF t.G (callN tbl (n + 1)) 23 2) := by
  refine fn_ok (O := [2, 3]) (k := lv n + 1) (body := b_search (callN tbl n)) t.d_search.fn sc_search t.bl rfl rfl (by decide) (lv_ge n) (fun _ _ => rfl) (fun cdv A outer s H E hr c => ?_)
  unfold b_search l1_search l0_search
  exact mss_cons (ms_setF c (by decide) (mf_lst (ma_cons (me_call0 I.f_begin (hr.mono (Nat.le_succ _)) t.g_begin t.d_begin.fn.kp t.d_begin.bind (ma_cons (me_var 0 (by decide) (pv 0)) (ma_nil)) (al_cons (al_nil))) (ma_nil)) (al_cons (al_nil))) eLst_list)
    (mss_cons (ms_setF c (by decide) (mf_lst (ma_cons (me_tup (ma_nil) (al_nil)) (ma_nil)) (al_cons (al_nil))) eLst_list)
    (mss_cons (ms_set c (by decide) (me_int))
    (mss_cons (ms_while 4000 c (mt_c (c_lt c) (me_var 4 (by decide) (pv 4)) (me_len c (by rfl) (me_own 2 (pv 2)))) (mss_cons (ms_set c (by decide) (me_call0 I.f_trouble_at (hr.mono (Nat.le_succ _)) t.g_trouble_at t.d_trouble_at.fn.kp t.d_trouble_at.bind (ma_cons (me_var 0 (by decide) (pv 0)) (ma_cons (me_ix c (me_own 2 (pv 2)) (me_var 4 (by decide) (pv 4))) (ma_cons (me_var 1 (by decide) (pv 1)) (ma_nil)))) (al_cons (al_cons (al_cons (al_nil))))))
    (mss_cons (ms_if (mt_c (c_isNot c) (me_var 5 (by decide) (pv 5)) (me_non)) (mss_one (ms_ret (me_tup (ma_cons (me_tup (ma_cons (me_var 5 (by decide) (pv 5)) (ma_cons (me_ix c (me_var 3 (by decide) (pv 3)) (me_var 4 (by decide) (pv 4))) (ma_nil))) (al_cons (al_cons (al_nil)))) (ma_cons (me_var 2 (by decide) (pv 2)) (ma_nil))) (al_cons (al_cons (al_nil)))))) (mss_nil))
    (mss_cons (ms_for c (by decide) (mi_sq c (me_call0 I.f_deeds (hr.mono (Nat.le_succ _)) t.g_deeds t.d_deeds.fn.kp t.d_deeds.bind (ma_cons (me_var 0 (by decide) (pv 0)) (ma_cons (me_ix c (me_own 2 (pv 2)) (me_var 4 (by decide) (pv 4))) (ma_cons (me_var 1 (by decide) (pv 1)) (ma_nil)))) (al_cons (al_cons (al_cons (al_nil)))))) (TgOk.t (gs_cons c (gs_cons c (gs_cons c (gs_cons c (gs_cons c (gs_nil)))))) rfl rfl) (mss_one (ms_if (mt_w (mw_and (mt_c (c_notIn c) (me_var 10 (by decide) (pv 10)) (me_own 2 (pv 2))) (mw_and1 (mt_c (c_lt c) (me_len c (by rfl) (me_own 2 (pv 2))) (me_gint (by rfl) t.c_MOST_letters))))) (mss_cons (ms_append c (by decide) (pv 2) (me_var 10 (by decide) (pv 10)))
    (mss_one (ms_append c (by decide) (pv 3) (me_add c (me_ix c (me_own 3 (pv 3)) (me_var 4 (by decide) (pv 4))) (me_tup (ma_cons (me_tup (ma_cons (me_var 6 (by decide) (pv 6)) (ma_cons (me_var 7 (by decide) (pv 7)) (ma_cons (me_var 8 (by decide) (pv 8)) (ma_cons (me_var 9 (by decide) (pv 9)) (ma_nil))))) (al_cons (al_cons (al_cons (al_cons (al_nil)))))) (ma_nil)) (al_cons (al_nil))))))) (mss_nil))))
    (mss_one (ms_augAdd c (by decide) (me_int)))))))
    (mss_one (ms_ret (me_tup (ma_cons (me_non) (ma_cons (me_var 2 (by decide) (pv 2)) (ma_nil))) (al_cons (al_cons (al_nil)))))))))
theorem ok_trouble (t : Txt K mg) {n : Nat} (I : Ok t P w base n) : FnOk P w K mg base CX0 (lv (n + 1)) t.d_trouble.fa t.d_trouble.fd ["machines", "room"] (spF t.G (callN tbl (n + 1)) 24 2) := by
  refine fn_ok (O := []) (k := lv n + 1) (body := b_trouble (callN tbl n)) t.d_trouble.fn sc_trouble t.bl rfl rfl (by decide) (lv_ge n) (fun _ _ => rfl) (fun cdv A outer s H E hr c => ?_)
  unfold b_trouble
  exact mss_one (ms_ret (me_ix c (me_call0 I.f_search (hr.mono (Nat.le_succ _)) t.g_search_letters t.d_search.fn.kp t.d_search.bind (ma_cons (me_var 0 (by decide) (pv 0)) (ma_cons (me_var 1 (by decide) (pv 1)) (ma_nil))) (al_cons (al_cons (al_nil)))) (me_int)))
theorem ok_spoiled (t : Txt K mg) {n : Nat} (I : Ok t P w base n) : FnOk P w K mg base CX0 (lv (n + 1)) t.d_spoiled.fa t.d_spoiled.fd ["here", "word"] (spF t.G (callN tbl (n + 1)) 25 2) := by
  refine fn_ok (O := [4]) (k := lv n + 1) (body := b_spoiled (callN tbl n)) t.d_spoiled.fn sc_spoiled t.bl rfl rfl (by decide) (lv_ge n) (fun _ _ => rfl) (fun cdv A outer s H E hr c => ?_)
  unfold b_spoiled l0_spoiled
  exact mss_cons (ms_unp c (by decide) (TgOk.t (gs_cons c (gs_cons c (gs_nil))) rfl rfl) (me_var 0 (by decide) (pv 0)))
    (mss_cons (ms_setF c (by decide) (mf_lst (ma_nil) (al_nil)) eLst_list)
    (mss_cons (ms_for c (by decide) (mi_sq c (me_var 3 (by decide) (pv 3))) (TgOk.t (gs_cons c (gs_cons c (gs_cons c (gs_nil)))) rfl rfl) (mss_cons (ms_set c (by decide) (me_call0 I.f_on_way (hr.mono (Nat.le_succ _)) t.g_on_way t.d_on_way.fn.kp t.d_on_way.bind (ma_cons (me_var 3 (by decide) (pv 3)) (ma_cons (me_var 5 (by decide) (pv 5)) (ma_cons (me_var 6 (by decide) (pv 6)) (ma_nil)))) (al_cons (al_cons (al_cons (al_nil))))))
    (mss_cons (ms_set c (by decide) (me_if (mt_c (c_eq c) (me_var 1 (by decide) (pv 1)) (me_str)) (me_sl c (me_var 8 (by decide) (pv 8)) (mo_some (me_int)) (mo_no)) (me_add c (me_sl c (me_var 8 (by decide) (pv 8)) (mo_no) (mo_some (me_int))) (me_var 8 (by decide) (pv 8)))))
    (mss_one (ms_append c (by decide) (pv 4) (me_tup (ma_cons (me_var 5 (by decide) (pv 5)) (ma_cons (me_var 6 (by decide) (pv 6)) (ma_cons (me_tup (ma_cons (me_var 2 (by decide) (pv 2)) (ma_cons (me_call0 I.f_with_row (hr.mono (Nat.le_succ _)) t.g_with_row t.d_with_row.fn.kp t.d_with_row.bind (ma_cons (me_var 3 (by decide) (pv 3)) (ma_cons (me_var 5 (by decide) (pv 5)) (ma_cons (me_var 6 (by decide) (pv 6)) (ma_cons (me_var 9 (by decide) (pv 9)) (ma_nil))))) (al_cons (al_cons (al_cons (al_cons (al_nil)))))) (ma_nil))) (al_cons (al_cons (al_nil)))) (ma_nil)))) (al_cons (al_cons (al_cons (al_nil))))))))))
    (mss_one (ms_ret (me_sorted c (by rfl) (me_var 4 (by decide) (pv 4)))))))
theorem ok_search_2 (t : Txt K mg) {n : Nat} (I : Ok t P w base n) : FnOk P w K mg base CX0 (lv (n + 1)) t.d_search_2.fa t.d_search_2.fd ["machines", "room", "word"] (spF t.G (callN tbl (n + 1)) 26 3) := by
  refine fn_ok (O := [3, 4]) (k := lv n + 1) (body := b_search_2 (callN tbl n)) t.d_search_2.fn sc_search_2 t.bl rfl rfl (by decide) (lv_ge n) (fun _ _ => rfl) (fun cdv A outer s H E hr c => ?_)
  unfold b_search_2 l1_search_2 l0_search_2
  exact mss_cons (ms_if (mt_c (c_notIn c) (me_var 2 (by decide) (pv 2)) (me_glob (by rfl) t.c_WORDS (v := V.ref t.a_WORDS) rfl t.d_WORDS)) (mss_never) (mss_nil))
    (mss_cons (ms_setF c (by decide) (mf_lst (ma_cons (me_tup (ma_cons (me_call0 I.f_begin (hr.mono (Nat.le_succ _)) t.g_begin t.d_begin.fn.kp t.d_begin.bind (ma_cons (me_var 0 (by decide) (pv 0)) (ma_nil)) (al_cons (al_nil))) (ma_cons (me_int) (ma_nil))) (al_cons (al_cons (al_nil)))) (ma_nil)) (al_cons (al_nil))) eLst_list)
    (mss_cons (ms_setF c (by decide) (mf_lst (ma_cons (me_tup (ma_nil) (al_nil)) (ma_nil)) (al_cons (al_nil))) eLst_list)
    (mss_cons (ms_set c (by decide) (me_int))
    (mss_cons (ms_while 4000 c (mt_c (c_lt c) (me_var 5 (by decide) (pv 5)) (me_len c (by rfl) (me_own 3 (pv 3)))) (mss_cons (ms_unp c (by decide) (TgOk.t (gs_cons c (gs_cons c (gs_nil))) rfl rfl) (me_ix c (me_own 3 (pv 3)) (me_var 5 (by decide) (pv 5))))
    (mss_cons (ms_set c (by decide) (me_call0 I.f_trouble_at (hr.mono (Nat.le_succ _)) t.g_trouble_at t.d_trouble_at.fn.kp t.d_trouble_at.bind (ma_cons (me_var 0 (by decide) (pv 0)) (ma_cons (me_var 6 (by decide) (pv 6)) (ma_cons (me_var 1 (by decide) (pv 1)) (ma_nil)))) (al_cons (al_cons (al_cons (al_nil))))))
    (mss_cons (ms_if (mt_c (c_isNot c) (me_var 8 (by decide) (pv 8)) (me_non)) (mss_one (ms_ret (me_tup (ma_cons (me_var 8 (by decide) (pv 8)) (ma_cons (me_ix c (me_var 4 (by decide) (pv 4)) (me_var 5 (by decide) (pv 5))) (ma_nil))) (al_cons (al_cons (al_nil)))))) (mss_nil))
    (mss_cons (ms_setLc c (by decide) (own := ([("deed", 10)] : List (Str × Nat))) (toc (mi_sq c (me_call0 I.f_deeds (hr.mono (Nat.le_succ _)) t.g_deeds t.d_deeds.fn.kp t.d_deeds.bind (ma_cons (me_var 0 (by decide) (pv 0)) (ma_cons (me_var 6 (by decide) (pv 6)) (ma_cons (me_var 1 (by decide) (pv 1)) (ma_nil)))) (al_cons (al_cons (al_cons (al_nil))))))) (blk_ok (by rfl)) rfl (by decide) (by decide) (fun _ _ _ _ _ => tg1) (fun _ _ _ _ _ cb => mts_nil) (fun _ _ _ _ _ cb => me_tup (ma_cons (me_sl cb (me_var 10 (by decide) (pv 10)) (mo_no) (mo_some (me_int))) (ma_cons (me_ix cb (me_var 10 (by decide) (pv 10)) (me_int)) (ma_cons (me_var 7 (by decide) (pv 7)) (ma_nil)))) (al_cons (al_cons (al_cons (al_nil))))) (by rfl))
    (mss_cons (ms_if (mt_c (c_eq c) (me_var 7 (by decide) (pv 7)) (me_int)) (mss_one (ms_set c (by decide) (me_add c (me_var 9 (by decide) (pv 9)) (me_comp (mf_comp c (own := ([("a", 13), ("b", 14), ("after", 11)] : List (Str × Nat))) (toc (mi_sq c (me_call0 I.f_spoiled (hr.mono (Nat.le_succ _)) t.g_spoiled t.d_spoiled.fn.kp t.d_spoiled.bind (ma_cons (me_var 6 (by decide) (pv 6)) (ma_cons (me_var 2 (by decide) (pv 2)) (ma_nil))) (al_cons (al_cons (al_nil)))))) (blk_ok (by rfl)) rfl (by decide) (by decide) (fun s_ H_ C_ l_ f_ => TgOk.t (gs_cons (c.blk s_ H_ _ _ f_) (gs_cons (c.blk s_ H_ _ _ f_) (gs_cons (c.blk s_ H_ _ _ f_) (gs_nil)))) rfl rfl) (fun _ _ _ _ _ cb => mts_nil) (fun _ _ _ _ _ cb => me_tup (ma_cons (me_tup (ma_cons (me_var 13 (by decide) (pv 13)) (ma_cons (me_var 2 (by decide) (pv 2)) (ma_cons (me_var 14 (by decide) (pv 14)) (ma_cons (me_int) (ma_nil))))) (al_cons (al_cons (al_cons (al_cons (al_nil)))))) (ma_cons (me_var 11 (by decide) (pv 11)) (ma_cons (me_int) (ma_nil)))) (al_cons (al_cons (al_cons (al_nil)))))) eComp_list)))) (mss_nil))
    (mss_cons (ms_for c (by decide) (mi_sq c (me_var 9 (by decide) (pv 9))) (TgOk.t (gs_cons c (gs_cons c (gs_cons c (gs_nil)))) rfl rfl) (mss_one (ms_if (mt_w (mw_and (mt_c (c_notIn c) (me_tup (ma_cons (me_var 11 (by decide) (pv 11)) (ma_cons (me_var 12 (by decide) (pv 12)) (ma_nil))) (al_cons (al_cons (al_nil)))) (me_own 3 (pv 3))) (mw_and1 (mt_c (c_lt c) (me_len c (by rfl) (me_own 3 (pv 3))) (me_gint (by rfl) t.c_MOST_losses))))) (mss_cons (ms_append c (by decide) (pv 3) (me_tup (ma_cons (me_var 11 (by decide) (pv 11)) (ma_cons (me_var 12 (by decide) (pv 12)) (ma_nil))) (al_cons (al_cons (al_nil)))))
    (mss_one (ms_append c (by decide) (pv 4) (me_add c (me_ix c (me_own 4 (pv 4)) (me_var 5 (by decide) (pv 5))) (me_tup (ma_cons (me_var 10 (by decide) (pv 10)) (ma_nil)) (al_cons (al_nil))))))) (mss_nil))))
    (mss_one (ms_augAdd c (by decide) (me_int))))))))))
    (mss_one (ms_ret (me_non)))))))
theorem ok_bears (t : Txt K mg) {n : Nat} (I : Ok t P w base n) : FnOk P w K mg base CX0 (lv (n + 1)) t.d_bears.fa t.d_bears.fd ["machines", "room", "word"] (spF t.G (callN tbl (n + 1)) 27 3) := by
  refine fn_ok (O := []) (k := lv n + 1) (body := b_bears (callN tbl n)) t.d_bears.fn sc_bears t.bl rfl rfl (by decide) (lv_ge n) (fun _ _ => rfl) (fun cdv A outer s H E hr c => ?_)
  unfold b_bears
  exact mss_one (ms_ret (me_c (c_is c) (me_call0 I.f_search_2 (hr.mono (Nat.le_succ _)) t.g_search_losses t.d_search_2.fn.kp t.d_search_2.bind (ma_cons (me_var 0 (by decide) (pv 0)) (ma_cons (me_var 1 (by decide) (pv 1)) (ma_cons (me_var 2 (by decide) (pv 2)) (ma_nil)))) (al_cons (al_cons (al_cons (al_nil))))) (me_non)))
theorem ok_all (t : Txt K mg) : ∀ n, Ok t P w base n
  | 0 => ⟨fn_none fun _ _ => rfl, fn_none fun _ _ => rfl, fn_none fun _ _ => rfl, fn_none fun _ _ => rfl, fn_none fun _ _ => rfl, fn_none fun _ _ => rfl, fn_none fun _ _ => rfl, fn_none fun _ _ => rfl, fn_none fun _ _ => rfl, fn_none fun _ _ => rfl, fn_none fun _ _ => rfl, fn_none fun _ _ => rfl, fn_none fun _ _ => rfl, fn_none fun _ _ => rfl, fn_none fun _ _ => rfl, fn_none fun _ _ => rfl, fn_none fun _ _ => rfl, fn_none fun _ _ => rfl, fn_none fun _ _ => rfl, fn_none fun _ _ => rfl, fn_none fun _ _ => rfl, fn_none fun _ _ => rfl, fn_none fun _ _ => rfl, fn_none fun _ _ => rfl, fn_none fun _ _ => rfl, fn_none fun _ _ => rfl, fn_none fun _ _ => rfl, fn_none fun _ _ => rfl⟩
  | n + 1 => have I := ok_all t n; ⟨ok__law_same t I, ok__law_pool t I, ok__law_spread t I, ok__law_draw t I, ok__law_shuffled t I, ok__law_line_of t I, ok_law t I, ok_Parter_init t I, ok_Parter_part t I, ok_Parter_of_saying t I, ok_size_of t I, ok_parted t I, ok_parts t I, ok_opened t I, ok_steps_from t I, ok_machine_of t I, ok_begin t I, ok_on_way t I, ok_with_row t I, ok_moved t I, ok_deeds t I, ok_trouble_at t I, ok_is_unheard t I, ok_search t I, ok_trouble t I, ok_spoiled t I, ok_search_2 t I, ok_bears t I⟩
theorem all_mk {l : PySem.W.OpenLaw} {w : World} {K : PySem.W.Frag} {h : Heap} {mg : Str → Option Value} {fa : Addr} (N : Nat) (X : K.In h) (G : h.Ns mainGlobals mg) (hfa : mg "law" = some (.ref fa))
    {C_Parter : Addr} {f__law_same : Addr} {od__law_same an__law_same : Option Addr} {sl__law_same : Array (Option Value)} {oc__law_same kV__law_same dc__law_same pm__law_same cd__law_same ct__law_same : Value} {f__law_pool : Addr} {od__law_pool an__law_pool : Option Addr} {sl__law_pool : Array (Option Value)} {oc__law_pool kV__law_pool dc__law_pool pm__law_pool cd__law_pool ct__law_pool : Value} {f__law_spread : Addr} {od__law_spread an__law_spread : Option Addr} {sl__law_spread : Array (Option Value)} {oc__law_spread kV__law_spread dc__law_spread pm__law_spread cd__law_spread ct__law_spread : Value} {f__law_draw : Addr} {od__law_draw an__law_draw : Option Addr} {sl__law_draw : Array (Option Value)} {oc__law_draw kV__law_draw dc__law_draw pm__law_draw cd__law_draw ct__law_draw : Value} {f__law_shuffled : Addr} {od__law_shuffled an__law_shuffled : Option Addr} {sl__law_shuffled : Array (Option Value)} {oc__law_shuffled kV__law_shuffled dc__law_shuffled pm__law_shuffled cd__law_shuffled ct__law_shuffled : Value} {f__law_line_of : Addr} {od__law_line_of an__law_line_of : Option Addr} {sl__law_line_of : Array (Option Value)} {oc__law_line_of kV__law_line_of dc__law_line_of pm__law_line_of cd__law_line_of ct__law_line_of : Value} {f_law : Addr} {od_law an_law : Option Addr} {sl_law : Array (Option Value)} {oc_law kV_law dc_law pm_law cd_law ct_law : Value} {f_Parter_init : Addr} {od_Parter_init an_Parter_init : Option Addr} {sl_Parter_init : Array (Option Value)} {oc_Parter_init kV_Parter_init dc_Parter_init pm_Parter_init cd_Parter_init ct_Parter_init : Value} {f_Parter_part : Addr} {od_Parter_part an_Parter_part : Option Addr} {sl_Parter_part : Array (Option Value)} {oc_Parter_part kV_Parter_part dc_Parter_part pm_Parter_part cd_Parter_part ct_Parter_part : Value} {f_Parter_of_saying : Addr} {od_Parter_of_saying an_Parter_of_saying : Option Addr} {sl_Parter_of_saying : Array (Option Value)} {oc_Parter_of_saying kV_Parter_of_saying dc_Parter_of_saying pm_Parter_of_saying cd_Parter_of_saying ct_Parter_of_saying : Value} {f_size_of : Addr} {od_size_of an_size_of : Option Addr} {sl_size_of : Array (Option Value)} {oc_size_of kV_size_of dc_size_of pm_size_of cd_size_of ct_size_of : Value} {f_parted : Addr} {od_parted an_parted : Option Addr} {sl_parted : Array (Option Value)} {oc_parted kV_parted dc_parted pm_parted cd_parted ct_parted : Value} {f_parts : Addr} {od_parts an_parts : Option Addr} {sl_parts : Array (Option Value)} {oc_parts kV_parts dc_parts pm_parts cd_parts ct_parts : Value} {f_opened : Addr} {od_opened an_opened : Option Addr} {sl_opened : Array (Option Value)} {oc_opened kV_opened dc_opened pm_opened cd_opened ct_opened : Value} {f_steps_from : Addr} {od_steps_from an_steps_from : Option Addr} {sl_steps_from : Array (Option Value)} {oc_steps_from kV_steps_from dc_steps_from pm_steps_from cd_steps_from ct_steps_from : Value} {f_machine_of : Addr} {od_machine_of an_machine_of : Option Addr} {sl_machine_of : Array (Option Value)} {oc_machine_of kV_machine_of dc_machine_of pm_machine_of cd_machine_of ct_machine_of : Value} {f_begin : Addr} {od_begin an_begin : Option Addr} {sl_begin : Array (Option Value)} {oc_begin kV_begin dc_begin pm_begin cd_begin ct_begin : Value} {f_on_way : Addr} {od_on_way an_on_way : Option Addr} {sl_on_way : Array (Option Value)} {oc_on_way kV_on_way dc_on_way pm_on_way cd_on_way ct_on_way : Value} {f_with_row : Addr} {od_with_row an_with_row : Option Addr} {sl_with_row : Array (Option Value)} {oc_with_row kV_with_row dc_with_row pm_with_row cd_with_row ct_with_row : Value} {f_moved : Addr} {od_moved an_moved : Option Addr} {sl_moved : Array (Option Value)} {oc_moved kV_moved dc_moved pm_moved cd_moved ct_moved : Value} {f_deeds : Addr} {od_deeds an_deeds : Option Addr} {sl_deeds : Array (Option Value)} {oc_deeds kV_deeds dc_deeds pm_deeds cd_deeds ct_deeds : Value} {f_trouble_at : Addr} {od_trouble_at an_trouble_at : Option Addr} {sl_trouble_at : Array (Option Value)} {oc_trouble_at kV_trouble_at dc_trouble_at pm_trouble_at cd_trouble_at ct_trouble_at : Value} {f_is_unheard : Addr} {od_is_unheard an_is_unheard : Option Addr} {sl_is_unheard : Array (Option Value)} {oc_is_unheard kV_is_unheard dc_is_unheard pm_is_unheard cd_is_unheard ct_is_unheard : Value} {f_search : Addr} {od_search an_search : Option Addr} {sl_search : Array (Option Value)} {oc_search kV_search dc_search pm_search cd_search ct_search : Value} {f_trouble : Addr} {od_trouble an_trouble : Option Addr} {sl_trouble : Array (Option Value)} {oc_trouble kV_trouble dc_trouble pm_trouble cd_trouble ct_trouble : Value} {f_spoiled : Addr} {od_spoiled an_spoiled : Option Addr} {sl_spoiled : Array (Option Value)} {oc_spoiled kV_spoiled dc_spoiled pm_spoiled cd_spoiled ct_spoiled : Value} {f_search_2 : Addr} {od_search_2 an_search_2 : Option Addr} {sl_search_2 : Array (Option Value)} {oc_search_2 kV_search_2 dc_search_2 pm_search_2 cd_search_2 ct_search_2 : Value} {f_bears : Addr} {od_bears an_bears : Option Addr} {sl_bears : Array (Option Value)} {oc_bears kV_bears dc_bears pm_bears cd_bears ct_bears : Value} {tk_MOST_letters : Tok} {tk_MOST_losses : Tok} {a_WORDS : Addr} {to_WORDS : Option Addr} {tn_WORDS : Nat} {tsl_WORDS : Array (Option Value)} {tk_WORDS_0 : Tok} {tk_WORDS_1 : Tok}
    (aC_Parter : PySem.W.nsIn K mainGlobals "Parter" = some (some (.ref C_Parter)))
    (a__law_same : PySem.W.nsIn K mainGlobals "_law_same" = some (some (.ref f__law_same)))
    (l__law_same : K.lookup f__law_same = some ⟨oc__law_same, od__law_same, .func (PySem.W.fnOf "_law_same" "_law_same" (defArgs (top 42)) (defBody (top 42)) (defScope (top 42)) .none kV__law_same dc__law_same pm__law_same an__law_same cd__law_same ct__law_same), sl__law_same⟩)
    (c__law_same : PySem.W.codeIn K cd__law_same "_law_same" = true)
    (k__law_same : PySem.W.keepIn K (.ref f__law_same) = true)
    (a__law_pool : PySem.W.nsIn K mainGlobals "_law_pool" = some (some (.ref f__law_pool)))
    (l__law_pool : K.lookup f__law_pool = some ⟨oc__law_pool, od__law_pool, .func (PySem.W.fnOf "_law_pool" "_law_pool" (defArgs (top 43)) (defBody (top 43)) (defScope (top 43)) .none kV__law_pool dc__law_pool pm__law_pool an__law_pool cd__law_pool ct__law_pool), sl__law_pool⟩)
    (c__law_pool : PySem.W.codeIn K cd__law_pool "_law_pool" = true)
    (k__law_pool : PySem.W.keepIn K (.ref f__law_pool) = true)
    (a__law_spread : PySem.W.nsIn K mainGlobals "_law_spread" = some (some (.ref f__law_spread)))
    (l__law_spread : K.lookup f__law_spread = some ⟨oc__law_spread, od__law_spread, .func (PySem.W.fnOf "_law_spread" "_law_spread" (defArgs (top 44)) (defBody (top 44)) (defScope (top 44)) .none kV__law_spread dc__law_spread pm__law_spread an__law_spread cd__law_spread ct__law_spread), sl__law_spread⟩)
    (c__law_spread : PySem.W.codeIn K cd__law_spread "_law_spread" = true)
    (k__law_spread : PySem.W.keepIn K (.ref f__law_spread) = true)
    (a__law_draw : PySem.W.nsIn K mainGlobals "_law_draw" = some (some (.ref f__law_draw)))
    (l__law_draw : K.lookup f__law_draw = some ⟨oc__law_draw, od__law_draw, .func (PySem.W.fnOf "_law_draw" "_law_draw" (defArgs (top 45)) (defBody (top 45)) (defScope (top 45)) .none kV__law_draw dc__law_draw pm__law_draw an__law_draw cd__law_draw ct__law_draw), sl__law_draw⟩)
    (c__law_draw : PySem.W.codeIn K cd__law_draw "_law_draw" = true)
    (k__law_draw : PySem.W.keepIn K (.ref f__law_draw) = true)
    (a__law_shuffled : PySem.W.nsIn K mainGlobals "_law_shuffled" = some (some (.ref f__law_shuffled)))
    (l__law_shuffled : K.lookup f__law_shuffled = some ⟨oc__law_shuffled, od__law_shuffled, .func (PySem.W.fnOf "_law_shuffled" "_law_shuffled" (defArgs (top 46)) (defBody (top 46)) (defScope (top 46)) .none kV__law_shuffled dc__law_shuffled pm__law_shuffled an__law_shuffled cd__law_shuffled ct__law_shuffled), sl__law_shuffled⟩)
    (c__law_shuffled : PySem.W.codeIn K cd__law_shuffled "_law_shuffled" = true)
    (k__law_shuffled : PySem.W.keepIn K (.ref f__law_shuffled) = true)
    (a__law_line_of : PySem.W.nsIn K mainGlobals "_law_line_of" = some (some (.ref f__law_line_of)))
    (l__law_line_of : K.lookup f__law_line_of = some ⟨oc__law_line_of, od__law_line_of, .func (PySem.W.fnOf "_law_line_of" "_law_line_of" (defArgs (top 47)) (defBody (top 47)) (defScope (top 47)) .none kV__law_line_of dc__law_line_of pm__law_line_of an__law_line_of cd__law_line_of ct__law_line_of), sl__law_line_of⟩)
    (c__law_line_of : PySem.W.codeIn K cd__law_line_of "_law_line_of" = true)
    (k__law_line_of : PySem.W.keepIn K (.ref f__law_line_of) = true)
    (a_law : PySem.W.nsIn K mainGlobals "law" = some (some (.ref f_law)))
    (l_law : K.lookup f_law = some ⟨oc_law, od_law, .func (PySem.W.fnOf "law" "law" (defArgs (top 48)) (defBody (top 48)) (defScope (top 48)) .none kV_law dc_law pm_law an_law cd_law ct_law), sl_law⟩)
    (c_law : PySem.W.codeIn K cd_law "law" = true)
    (k_law : PySem.W.keepIn K (.ref f_law) = true)
    (a_Parter_init : PySem.W.findIn K (.ref C_Parter) "__init__" = some (some (.ref f_Parter_init)))
    (i_Parter_init : PySem.W.isFn K (.ref f_Parter_init) = true)
    (l_Parter_init : K.lookup f_Parter_init = some ⟨oc_Parter_init, od_Parter_init, .func (PySem.W.fnOf "__init__" "Parter.__init__" (defArgs (inClass (top 12) 0)) (defBody (inClass (top 12) 0)) (defScope (inClass (top 12) 0)) .none kV_Parter_init dc_Parter_init pm_Parter_init an_Parter_init cd_Parter_init ct_Parter_init), sl_Parter_init⟩)
    (c_Parter_init : PySem.W.codeIn K cd_Parter_init "Parter.__init__" = true)
    (k_Parter_init : PySem.W.keepIn K (.ref f_Parter_init) = true)
    (a_Parter_part : PySem.W.findIn K (.ref C_Parter) "part" = some (some (.ref f_Parter_part)))
    (i_Parter_part : PySem.W.isFn K (.ref f_Parter_part) = true)
    (l_Parter_part : K.lookup f_Parter_part = some ⟨oc_Parter_part, od_Parter_part, .func (PySem.W.fnOf "part" "Parter.part" (defArgs (inClass (top 12) 1)) (defBody (inClass (top 12) 1)) (defScope (inClass (top 12) 1)) .none kV_Parter_part dc_Parter_part pm_Parter_part an_Parter_part cd_Parter_part ct_Parter_part), sl_Parter_part⟩)
    (c_Parter_part : PySem.W.codeIn K cd_Parter_part "Parter.part" = true)
    (k_Parter_part : PySem.W.keepIn K (.ref f_Parter_part) = true)
    (a_Parter_of_saying : PySem.W.findIn K (.ref C_Parter) "of_saying" = some (some (.ref f_Parter_of_saying)))
    (i_Parter_of_saying : PySem.W.isFn K (.ref f_Parter_of_saying) = true)
    (l_Parter_of_saying : K.lookup f_Parter_of_saying = some ⟨oc_Parter_of_saying, od_Parter_of_saying, .func (PySem.W.fnOf "of_saying" "Parter.of_saying" (defArgs (inClass (top 12) 4)) (defBody (inClass (top 12) 4)) (defScope (inClass (top 12) 4)) .none kV_Parter_of_saying dc_Parter_of_saying pm_Parter_of_saying an_Parter_of_saying cd_Parter_of_saying ct_Parter_of_saying), sl_Parter_of_saying⟩)
    (c_Parter_of_saying : PySem.W.codeIn K cd_Parter_of_saying "Parter.of_saying" = true)
    (k_Parter_of_saying : PySem.W.keepIn K (.ref f_Parter_of_saying) = true)
    (a_size_of : PySem.W.nsIn K mainGlobals "size_of" = some (some (.ref f_size_of)))
    (l_size_of : K.lookup f_size_of = some ⟨oc_size_of, od_size_of, .func (PySem.W.fnOf "size_of" "size_of" (defArgs (top 14)) (defBody (top 14)) (defScope (top 14)) .none kV_size_of dc_size_of pm_size_of an_size_of cd_size_of ct_size_of), sl_size_of⟩)
    (c_size_of : PySem.W.codeIn K cd_size_of "size_of" = true)
    (k_size_of : PySem.W.keepIn K (.ref f_size_of) = true)
    (a_parted : PySem.W.nsIn K mainGlobals "parted" = some (some (.ref f_parted)))
    (l_parted : K.lookup f_parted = some ⟨oc_parted, od_parted, .func (PySem.W.fnOf "parted" "parted" (defArgs (top 15)) (defBody (top 15)) (defScope (top 15)) .none kV_parted dc_parted pm_parted an_parted cd_parted ct_parted), sl_parted⟩)
    (c_parted : PySem.W.codeIn K cd_parted "parted" = true)
    (k_parted : PySem.W.keepIn K (.ref f_parted) = true)
    (a_parts : PySem.W.nsIn K mainGlobals "parts" = some (some (.ref f_parts)))
    (l_parts : K.lookup f_parts = some ⟨oc_parts, od_parts, .func (PySem.W.fnOf "parts" "parts" (defArgs (top 16)) (defBody (top 16)) (defScope (top 16)) .none kV_parts dc_parts pm_parts an_parts cd_parts ct_parts), sl_parts⟩)
    (c_parts : PySem.W.codeIn K cd_parts "parts" = true)
    (k_parts : PySem.W.keepIn K (.ref f_parts) = true)
    (a_opened : PySem.W.nsIn K mainGlobals "opened" = some (some (.ref f_opened)))
    (l_opened : K.lookup f_opened = some ⟨oc_opened, od_opened, .func (PySem.W.fnOf "opened" "opened" (defArgs (top 18)) (defBody (top 18)) (defScope (top 18)) .none kV_opened dc_opened pm_opened an_opened cd_opened ct_opened), sl_opened⟩)
    (c_opened : PySem.W.codeIn K cd_opened "opened" = true)
    (k_opened : PySem.W.keepIn K (.ref f_opened) = true)
    (a_steps_from : PySem.W.nsIn K mainGlobals "steps_from" = some (some (.ref f_steps_from)))
    (l_steps_from : K.lookup f_steps_from = some ⟨oc_steps_from, od_steps_from, .func (PySem.W.fnOf "steps_from" "steps_from" (defArgs (top 20)) (defBody (top 20)) (defScope (top 20)) .none kV_steps_from dc_steps_from pm_steps_from an_steps_from cd_steps_from ct_steps_from), sl_steps_from⟩)
    (c_steps_from : PySem.W.codeIn K cd_steps_from "steps_from" = true)
    (k_steps_from : PySem.W.keepIn K (.ref f_steps_from) = true)
    (a_machine_of : PySem.W.nsIn K mainGlobals "machine_of" = some (some (.ref f_machine_of)))
    (l_machine_of : K.lookup f_machine_of = some ⟨oc_machine_of, od_machine_of, .func (PySem.W.fnOf "machine_of" "machine_of" (defArgs (top 21)) (defBody (top 21)) (defScope (top 21)) .none kV_machine_of dc_machine_of pm_machine_of an_machine_of cd_machine_of ct_machine_of), sl_machine_of⟩)
    (c_machine_of : PySem.W.codeIn K cd_machine_of "machine_of" = true)
    (k_machine_of : PySem.W.keepIn K (.ref f_machine_of) = true)
    (a_begin : PySem.W.nsIn K mainGlobals "begin" = some (some (.ref f_begin)))
    (l_begin : K.lookup f_begin = some ⟨oc_begin, od_begin, .func (PySem.W.fnOf "begin" "begin" (defArgs (top 24)) (defBody (top 24)) (defScope (top 24)) .none kV_begin dc_begin pm_begin an_begin cd_begin ct_begin), sl_begin⟩)
    (c_begin : PySem.W.codeIn K cd_begin "begin" = true)
    (k_begin : PySem.W.keepIn K (.ref f_begin) = true)
    (a_on_way : PySem.W.nsIn K mainGlobals "on_way" = some (some (.ref f_on_way)))
    (l_on_way : K.lookup f_on_way = some ⟨oc_on_way, od_on_way, .func (PySem.W.fnOf "on_way" "on_way" (defArgs (top 25)) (defBody (top 25)) (defScope (top 25)) .none kV_on_way dc_on_way pm_on_way an_on_way cd_on_way ct_on_way), sl_on_way⟩)
    (c_on_way : PySem.W.codeIn K cd_on_way "on_way" = true)
    (k_on_way : PySem.W.keepIn K (.ref f_on_way) = true)
    (a_with_row : PySem.W.nsIn K mainGlobals "with_row" = some (some (.ref f_with_row)))
    (l_with_row : K.lookup f_with_row = some ⟨oc_with_row, od_with_row, .func (PySem.W.fnOf "with_row" "with_row" (defArgs (top 26)) (defBody (top 26)) (defScope (top 26)) .none kV_with_row dc_with_row pm_with_row an_with_row cd_with_row ct_with_row), sl_with_row⟩)
    (c_with_row : PySem.W.codeIn K cd_with_row "with_row" = true)
    (k_with_row : PySem.W.keepIn K (.ref f_with_row) = true)
    (a_moved : PySem.W.nsIn K mainGlobals "moved" = some (some (.ref f_moved)))
    (l_moved : K.lookup f_moved = some ⟨oc_moved, od_moved, .func (PySem.W.fnOf "moved" "moved" (defArgs (top 27)) (defBody (top 27)) (defScope (top 27)) .none kV_moved dc_moved pm_moved an_moved cd_moved ct_moved), sl_moved⟩)
    (c_moved : PySem.W.codeIn K cd_moved "moved" = true)
    (k_moved : PySem.W.keepIn K (.ref f_moved) = true)
    (a_deeds : PySem.W.nsIn K mainGlobals "deeds" = some (some (.ref f_deeds)))
    (l_deeds : K.lookup f_deeds = some ⟨oc_deeds, od_deeds, .func (PySem.W.fnOf "deeds" "deeds" (defArgs (top 28)) (defBody (top 28)) (defScope (top 28)) .none kV_deeds dc_deeds pm_deeds an_deeds cd_deeds ct_deeds), sl_deeds⟩)
    (c_deeds : PySem.W.codeIn K cd_deeds "deeds" = true)
    (k_deeds : PySem.W.keepIn K (.ref f_deeds) = true)
    (a_trouble_at : PySem.W.nsIn K mainGlobals "trouble_at" = some (some (.ref f_trouble_at)))
    (l_trouble_at : K.lookup f_trouble_at = some ⟨oc_trouble_at, od_trouble_at, .func (PySem.W.fnOf "trouble_at" "trouble_at" (defArgs (top 29)) (defBody (top 29)) (defScope (top 29)) .none kV_trouble_at dc_trouble_at pm_trouble_at an_trouble_at cd_trouble_at ct_trouble_at), sl_trouble_at⟩)
    (c_trouble_at : PySem.W.codeIn K cd_trouble_at "trouble_at" = true)
    (k_trouble_at : PySem.W.keepIn K (.ref f_trouble_at) = true)
    (a_is_unheard : PySem.W.nsIn K mainGlobals "is_unheard" = some (some (.ref f_is_unheard)))
    (l_is_unheard : K.lookup f_is_unheard = some ⟨oc_is_unheard, od_is_unheard, .func (PySem.W.fnOf "is_unheard" "is_unheard" (defArgs (top 30)) (defBody (top 30)) (defScope (top 30)) .none kV_is_unheard dc_is_unheard pm_is_unheard an_is_unheard cd_is_unheard ct_is_unheard), sl_is_unheard⟩)
    (c_is_unheard : PySem.W.codeIn K cd_is_unheard "is_unheard" = true)
    (k_is_unheard : PySem.W.keepIn K (.ref f_is_unheard) = true)
    (a_search : PySem.W.nsIn K mainGlobals "search_letters" = some (some (.ref f_search)))
    (l_search : K.lookup f_search = some ⟨oc_search, od_search, .func (PySem.W.fnOf "search" "search" (defArgs (top 31)) (defBody (top 31)) (defScope (top 31)) .none kV_search dc_search pm_search an_search cd_search ct_search), sl_search⟩)
    (c_search : PySem.W.codeIn K cd_search "search" = true)
    (k_search : PySem.W.keepIn K (.ref f_search) = true)
    (a_trouble : PySem.W.nsIn K mainGlobals "trouble" = some (some (.ref f_trouble)))
    (l_trouble : K.lookup f_trouble = some ⟨oc_trouble, od_trouble, .func (PySem.W.fnOf "trouble" "trouble" (defArgs (top 33)) (defBody (top 33)) (defScope (top 33)) .none kV_trouble dc_trouble pm_trouble an_trouble cd_trouble ct_trouble), sl_trouble⟩)
    (c_trouble : PySem.W.codeIn K cd_trouble "trouble" = true)
    (k_trouble : PySem.W.keepIn K (.ref f_trouble) = true)
    (a_spoiled : PySem.W.nsIn K mainGlobals "spoiled" = some (some (.ref f_spoiled)))
    (l_spoiled : K.lookup f_spoiled = some ⟨oc_spoiled, od_spoiled, .func (PySem.W.fnOf "spoiled" "spoiled" (defArgs (top 37)) (defBody (top 37)) (defScope (top 37)) .none kV_spoiled dc_spoiled pm_spoiled an_spoiled cd_spoiled ct_spoiled), sl_spoiled⟩)
    (c_spoiled : PySem.W.codeIn K cd_spoiled "spoiled" = true)
    (k_spoiled : PySem.W.keepIn K (.ref f_spoiled) = true)
    (a_search_2 : PySem.W.nsIn K mainGlobals "search_losses" = some (some (.ref f_search_2)))
    (l_search_2 : K.lookup f_search_2 = some ⟨oc_search_2, od_search_2, .func (PySem.W.fnOf "search" "search" (defArgs (top 38)) (defBody (top 38)) (defScope (top 38)) .none kV_search_2 dc_search_2 pm_search_2 an_search_2 cd_search_2 ct_search_2), sl_search_2⟩)
    (c_search_2 : PySem.W.codeIn K cd_search_2 "search" = true)
    (k_search_2 : PySem.W.keepIn K (.ref f_search_2) = true)
    (a_bears : PySem.W.nsIn K mainGlobals "bears" = some (some (.ref f_bears)))
    (l_bears : K.lookup f_bears = some ⟨oc_bears, od_bears, .func (PySem.W.fnOf "bears" "bears" (defArgs (top 40)) (defBody (top 40)) (defScope (top 40)) .none kV_bears dc_bears pm_bears an_bears cd_bears ct_bears), sl_bears⟩)
    (c_bears : PySem.W.codeIn K cd_bears "bears" = true)
    (k_bears : PySem.W.keepIn K (.ref f_bears) = true)
    (c_MOST_letters : PySem.W.nsIn K mainGlobals "MOST_letters" = some (some (.int 3000 tk_MOST_letters)))
    (c_MOST_losses : PySem.W.nsIn K mainGlobals "MOST_losses" = some (some (.int 3000 tk_MOST_losses)))
    (c_WORDS : PySem.W.nsIn K mainGlobals "WORDS" = some (some (.ref a_WORDS)))
    (l_WORDS : K.lookup a_WORDS = some ⟨.type "tuple", to_WORDS, .seq #[.str "doubled" tk_WORDS_0, .str "lost" tk_WORDS_1] tn_WORDS, tsl_WORDS⟩)
    (pg_Parter : PySem.W.plainGet K C_Parter Str.empty = true)
    (hd_Parter : PySem.W.hasDictIn K C_Parter = true)
    (po_Parter : PySem.W.plainOver K C_Parter = true)
    (sa_Parter : PySem.W.findIn K (.ref C_Parter) "__setattr__" = some (some (.builtin "object.__setattr__")))
    (mk_Parter : PySem.W.makesIn K C_Parter = true)
    (kc_Parter : PySem.W.keepIn K (.ref C_Parter) = true)
    (n_Parter_role : PySem.W.findIn K (.ref C_Parter) "role" = some none)
    (n_Parter_trouble : PySem.W.findIn K (.ref C_Parter) "trouble" = some none)
    (z_len : PySem.W.nsIn K mainGlobals "len" = some none)
    (z_range : PySem.W.nsIn K mainGlobals "range" = some none)
    (z_sorted : PySem.W.nsIn K mainGlobals "sorted" = some none)
    (z_set : PySem.W.nsIn K mainGlobals "set" = some none)
    (z_all : PySem.W.nsIn K mainGlobals "all" = some none)
    (z_any : PySem.W.nsIn K mainGlobals "any" = some none)
    (z_sum : PySem.W.nsIn K mainGlobals "sum" = some none)
    (z_max : PySem.W.nsIn K mainGlobals "max" = some none)
    (z_tuple : PySem.W.nsIn K mainGlobals "tuple" = some none)
    (z_list : PySem.W.nsIn K mainGlobals "list" = some none)
    (z_dict : PySem.W.nsIn K mainGlobals "dict" = some none)
    (z_int : PySem.W.nsIn K mainGlobals "int" = some none)
    (z_bool : PySem.W.nsIn K mainGlobals "bool" = some none)
    (z_str : PySem.W.nsIn K mainGlobals "str" = some none)
    (z_isinstance : PySem.W.nsIn K mainGlobals "isinstance" = some none)
    (hlaw : ∀ ns : List Int, ns.length ≤ 63 → ∃ S, callN tbl N 6 [.scr ns] [] = some (.d (.bool true), S))
    : ∃ fd : FuncData, (∀ (s : Shared) (v : Value), BindsTo s fd ⟨[v], []⟩ [("script", v)]) ∧ ∀ base : Heap, K.In base → base.Ns mainGlobals mg → FnOk l.prog w K mg base CX0 (lv N) fa fd ["script"] (spLaw K) := by
  have e := hfa.symm.trans (PySem.W.mg_of X G a_law)
  cases e
  let T : Txt K mg := {
    bl := ⟨PySem.W.mg_none_of X G z_len, PySem.W.mg_none_of X G z_range, PySem.W.mg_none_of X G z_sorted, PySem.W.mg_none_of X G z_set, PySem.W.mg_none_of X G z_all, PySem.W.mg_none_of X G z_any, PySem.W.mg_none_of X G z_sum, PySem.W.mg_none_of X G z_max, PySem.W.mg_none_of X G z_tuple, PySem.W.mg_none_of X G z_list, PySem.W.mg_none_of X G z_dict, PySem.W.mg_none_of X G z_int, PySem.W.mg_none_of X G z_bool, PySem.W.mg_none_of X G z_str, PySem.W.mg_none_of X G z_isinstance⟩,
    d__law_same := df_mk l__law_same c__law_same k__law_same (fun _ _ _ _ _ _ us hl => match us, hl with | [_, _], _ => rfl),
    d__law_pool := df_mk l__law_pool c__law_pool k__law_pool (fun _ _ _ _ _ _ us hl => match us, hl with | [_], _ => rfl),
    d__law_spread := df_mk l__law_spread c__law_spread k__law_spread (fun _ _ _ _ _ _ us hl => match us, hl with | [_], _ => rfl),
    d__law_draw := df_mk l__law_draw c__law_draw k__law_draw (fun _ _ _ _ _ _ us hl => match us, hl with | [_, _], _ => rfl),
    d__law_shuffled := df_mk l__law_shuffled c__law_shuffled k__law_shuffled (fun _ _ _ _ _ _ us hl => match us, hl with | [_, _], _ => rfl),
    d__law_line_of := df_mk l__law_line_of c__law_line_of k__law_line_of (fun _ _ _ _ _ _ us hl => match us, hl with | [_, _, _, _], _ => rfl),
    d_law := df_mk l_law c_law k_law (fun _ _ _ _ _ _ us hl => match us, hl with | [_], _ => rfl),
    d_Parter_init := df_mk l_Parter_init c_Parter_init k_Parter_init (fun _ _ _ _ _ _ us hl => match us, hl with | [_, _], _ => rfl),
    d_Parter_part := df_mk l_Parter_part c_Parter_part k_Parter_part (fun _ _ _ _ _ _ us hl => match us, hl with | [_, _, _], _ => rfl),
    d_Parter_of_saying := df_mk l_Parter_of_saying c_Parter_of_saying k_Parter_of_saying (fun _ _ _ _ _ _ us hl => match us, hl with | [_, _, _], _ => rfl),
    d_size_of := df_mk l_size_of c_size_of k_size_of (fun _ _ _ _ _ _ us hl => match us, hl with | [_], _ => rfl),
    d_parted := df_mk l_parted c_parted k_parted (fun _ _ _ _ _ _ us hl => match us, hl with | [_, _], _ => rfl),
    d_parts := df_mk l_parts c_parts k_parts (fun _ _ _ _ _ _ us hl => match us, hl with | [_], _ => rfl),
    d_opened := df_mk l_opened c_opened k_opened (fun _ _ _ _ _ _ us hl => match us, hl with | [_], _ => rfl),
    d_steps_from := df_mk l_steps_from c_steps_from k_steps_from (fun _ _ _ _ _ _ us hl => match us, hl with | [_, _], _ => rfl),
    d_machine_of := df_mk l_machine_of c_machine_of k_machine_of (fun _ _ _ _ _ _ us hl => match us, hl with | [_], _ => rfl),
    d_begin := df_mk l_begin c_begin k_begin (fun _ _ _ _ _ _ us hl => match us, hl with | [_], _ => rfl),
    d_on_way := df_mk l_on_way c_on_way k_on_way (fun _ _ _ _ _ _ us hl => match us, hl with | [_, _, _], _ => rfl),
    d_with_row := df_mk l_with_row c_with_row k_with_row (fun _ _ _ _ _ _ us hl => match us, hl with | [_, _, _, _], _ => rfl),
    d_moved := df_mk l_moved c_moved k_moved (fun _ _ _ _ _ _ us hl => match us, hl with | [_, _, _], _ => rfl),
    d_deeds := df_mk l_deeds c_deeds k_deeds (fun _ _ _ _ _ _ us hl => match us, hl with | [_, _, _], _ => rfl),
    d_trouble_at := df_mk l_trouble_at c_trouble_at k_trouble_at (fun _ _ _ _ _ _ us hl => match us, hl with | [_, _, _], _ => rfl),
    d_is_unheard := df_mk l_is_unheard c_is_unheard k_is_unheard (fun _ _ _ _ _ _ us hl => match us, hl with | [_, _, _], _ => rfl),
    d_search := df_mk l_search c_search k_search (fun _ _ _ _ _ _ us hl => match us, hl with | [_, _], _ => rfl),
    d_trouble := df_mk l_trouble c_trouble k_trouble (fun _ _ _ _ _ _ us hl => match us, hl with | [_, _], _ => rfl),
    d_spoiled := df_mk l_spoiled c_spoiled k_spoiled (fun _ _ _ _ _ _ us hl => match us, hl with | [_, _], _ => rfl),
    d_search_2 := df_mk l_search_2 c_search_2 k_search_2 (fun _ _ _ _ _ _ us hl => match us, hl with | [_, _, _], _ => rfl),
    d_bears := df_mk l_bears c_bears k_bears (fun _ _ _ _ _ _ us hl => match us, hl with | [_, _, _], _ => rfl),
    g__law_draw := PySem.W.mg_of X G a__law_draw,
    g__law_line_of := PySem.W.mg_of X G a__law_line_of,
    g__law_pool := PySem.W.mg_of X G a__law_pool,
    g__law_same := PySem.W.mg_of X G a__law_same,
    g__law_shuffled := PySem.W.mg_of X G a__law_shuffled,
    g__law_spread := PySem.W.mg_of X G a__law_spread,
    g_bears := PySem.W.mg_of X G a_bears,
    g_begin := PySem.W.mg_of X G a_begin,
    g_deeds := PySem.W.mg_of X G a_deeds,
    g_is_unheard := PySem.W.mg_of X G a_is_unheard,
    g_machine_of := PySem.W.mg_of X G a_machine_of,
    g_moved := PySem.W.mg_of X G a_moved,
    g_on_way := PySem.W.mg_of X G a_on_way,
    g_opened := PySem.W.mg_of X G a_opened,
    g_parted := PySem.W.mg_of X G a_parted,
    g_parts := PySem.W.mg_of X G a_parts,
    g_search_letters := PySem.W.mg_of X G a_search,
    g_search_losses := PySem.W.mg_of X G a_search_2,
    g_size_of := PySem.W.mg_of X G a_size_of,
    g_spoiled := PySem.W.mg_of X G a_spoiled,
    g_steps_from := PySem.W.mg_of X G a_steps_from,
    g_trouble := PySem.W.mg_of X G a_trouble,
    g_trouble_at := PySem.W.mg_of X G a_trouble_at,
    g_with_row := PySem.W.mg_of X G a_with_row,
    tk_MOST_letters := tk_MOST_letters,
    c_MOST_letters := PySem.W.mg_of X G c_MOST_letters,
    tk_MOST_losses := tk_MOST_losses,
    c_MOST_losses := PySem.W.mg_of X G c_MOST_losses,
    a_WORDS := a_WORDS,
    c_WORDS := PySem.W.mg_of X G c_WORDS,
    d_WORDS := fun F => dr_ktup l_WORDS (by simp) (dv_cons (by decide +kernel) (dv_cons (by decide +kernel) dv_nil)),
    C_Parter := C_Parter,
    cl_Parter := ⟨pg_Parter, hd_Parter, po_Parter, sa_Parter⟩,
    m_Parter := PySem.W.mg_of X G aC_Parter,
    mk_Parter := ⟨mk_Parter, a_Parter_init, i_Parter_init, kc_Parter⟩,
    n_Parter_role := n_Parter_role,
    n_Parter_trouble := n_Parter_trouble,
    meth_Parter_part := ⟨a_Parter_part, i_Parter_part, k_Parter_part⟩,
    meth_Parter_of_saying := ⟨a_Parter_of_saying, i_Parter_of_saying, k_Parter_of_saying⟩ }
  exact ⟨_, fun s v => .of_eq rfl, fun base _ _ => fn_law (ok_all T N).f_law rfl hlaw⟩
end K53
set_option Elab.async false
set_option linter.all false
set_option maxRecDepth 20000
namespace K53
open PySem L2 MP
/-! The searches' small defs, by their typed mirrors. -/
theorem on_way (n : Nat) (q : List Qe) (a b : Int) (S : Store) : callN tbl (n + 1) 17 [.d (qsD q), .d (.int a), .d (.int b)] S = some (.d (iT (rowOf q a b)), S) := by
  rw [call_on_way]
  unfold b_on_way runFn
  simp only [start0, qsD, x_seq, x_set, x_comp, x_sq, x_var, x_wipe, x_wipe0]
  simp
  rw [compRun_of Qe.d (fun e => decide (e.a = a) && decide (e.b = b)) (fun e => iT e.row)]
  · unfold rowOf
    generalize q.filter _ = f
    cases f with
    | nil => simp [iT]
    | cons e f =>
      have : (0 : Int) < (f.length : Int) + 1 := by omega
      simp [L2.atI, ixN, this]
  · intro e he
    simp [Qe.d, eq_two]
theorem steps_from (n : Nat) (m : Mach) (s : Int) (S : Store) : callN tbl (n + 1) 14 [.d (Mach.d m), .d (.int s)] S = some (.d (.list ((m.2.filter fun t => decide (t.src = s)).map Step.d)), S) := by
  rw [call_steps_from]
  unfold b_steps_from runFn
  simp [start0, Mach.d, L2.atI, ixN]
  rw [compRun_of Step.d (fun t => decide (t.src = s)) Step.d]
  intro e he
  simp [Step.d, L2.atI, ixN, eq_int]
theorem moved (n : Nat) (st : List Int) (r : Nat) (x : Int) (S : Store) (hr : r < st.length) (hz : st.length ≤ 1000) : callN tbl (n + 1) 19 [.d (iT st), .d (.int r), .d (.int x)] S = some (.d (iT (st.set r x)), S) := by
  rw [call_moved]
  unfold b_moved runFn
  have h1 : min r st.length = r := by omega
  have h2 : r + 1 ≤ 1000000 := by omega
  have h3 : r + 1 + (st.length - (r + 1)) ≤ 1000000 := by omega
  have h4 : ((r : Int) + 1) = ((r + 1 : Nat) : Int) := by omega
  simp [start0, iT, cut_to, h1, h2]
  rw [h4, cut_from]
  simp [h1, h2, h3]
  rw [List.set_eq_take_append_cons_drop, if_pos (by simpa using hr)]
theorem with_row (n : Nat) (q : List Qe) (a b : Int) (row : List Int) (S : Store) (hz : q.length ≤ 1000) : callN tbl (n + 1) 18 [.d (qsD q), .d (.int a), .d (.int b), .d (iT row)] S = some (.d (qsD (withRow q a b row)), S) := by
  rw [call_with_row]
  unfold b_with_row runFn
  simp [start0, qsD]
  rw [compRun_of Qe.d (fun e => !(decide (e.a = a) && decide (e.b = b))) Qe.d]
  · unfold withRow
    have hl : (q.filter fun e => !(decide (e.a = a) && decide (e.b = b))).length ≤ 1000 := Nat.le_trans (List.length_filter_le _ _) hz
    generalize q.filter (fun e => !(decide (e.a = a) && decide (e.b = b))) = f at hl ⊢
    by_cases hr : 0 < row.length
    · have e1 : f.map Qe.d ++ [.tuple [.int a, .int b, iT row]] = (f ++ [(⟨a, b, row⟩ : Qe)]).map Qe.d := by simp [Qe.d]
      have h2 : f.length + 1 ≤ 1000000 := by omega
      simp [hr, h2]
      rw [e1, sortOk_qs]
      simp
      rw [show List.map Qe.d f ++ [Qe.d ⟨a, b, row⟩] = (f ++ [(⟨a, b, row⟩ : Qe)]).map Qe.d by simp, sortD_map]
    · have h0 : row.length = 0 := by omega
      have h2 : f.length ≤ 1000000 := by omega
      simp [h0, h2, sortOk_qs, sortD_map]
  · intro e he
    simp [Qe.d]
    rw [show ((2 : Int)) = ((2 : Nat) : Int) from rfl, cut_to]
    simp [ne_two]
/-- one step's deed is found -/
theorem deed_one (n : Nat) {ms : List Mach} {room : Int} {h : Here} (w : WF ms room h) (S : Store) (r : Nat) (hr : r < ms.length) (s : MP.Step) (found : List Deed) (hf : found.length < 1000000) (j7 j8 j9 j10 j11 j12 j13 : Option Val) :
    ∃ ρ1 k7 k8 k9 k10 k11 k12 k13, (Tg.t [7, 8, 9, 10, 11]).set s.d [some (.d (msD ms)), some (.d h.d), some (.d (.int room)), some (.d (iT h.st)), some (.d (qsD h.q)), some (.d (.list (found.map Deed.d))), some (.d (.int r)), j7, j8, j9, j10, j11, j12, j13] = some ρ1 ∧
      l0_deeds (callN tbl (n + 1)) ρ1 S = some (.nx [some (.d (msD ms)), some (.d h.d), some (.d (.int room)), some (.d (iT h.st)), some (.d (qsD h.q)), some (.d (.list ((found ++ stepDeed ms h room r s).map Deed.d))), some (.d (.int r)), k7, k8, k9, k10, k11, k12, k13] S) := by
  unfold l0_deeds
  obtain ⟨src, snd, other, letter, dst⟩ := s
  have hst : r < h.st.length := by rw [w.len]; exact hr
  have hst2 : h.st.length ≤ 1000 := by rw [w.len]; exact w.few
  have hq : h.q.length ≤ 1000 := Nat.le_trans w.qs (by omega)
  have c1 : ∀ (n : Nat) (x y : Int) (row : List Int) (S : Store), callN tbl (n + 1) 18 [.d (qsD h.q), .d (.int x), .d (.int y), .d (iT row)] S = some (.d (qsD (withRow h.q x y row)), S) := fun n x y row S => with_row n h.q x y row S hq
  have c2 : ∀ (n : Nat) (x : Int) (S : Store), callN tbl (n + 1) 19 [.d (iT h.st), .d (.int r), .d (.int x)] S = some (.d (iT (h.st.set r x)), S) := fun n x S => moved n h.st r x S hst hst2
  cases snd with
  | true =>
    have hl := w.row r other
    unfold stepDeed
    simp only [if_true]
    generalize hR : rowOf h.q r other = R at hl
    by_cases hc : other < (ms.length : Int) ∧ other ≠ (r : Int) ∧ (R.length : Int) < room
    · refine ⟨_, some (.d (.int src)), some (.d (.str "send")), some (.d (.int other)), some (.d (.int letter)), some (.d (.int dst)), some (.d (iT R)), some (.d (Here.d ⟨h.st.set r dst, withRow h.q r other (R ++ [letter])⟩)), rfl, ?_⟩
      rw [if_pos hc]
      simp [wD, on_way, hR, ne_int, hc.1, hc.2.1, hc.2.2, iT_add hl, c1, c2, hf, w_ss, w_sh, Deed.d, Here.d]
    · refine ⟨_, some (.d (.int src)), some (.d (.str "send")), some (.d (.int other)), some (.d (.int letter)), some (.d (.int dst)), some (.d (iT R)), j13, rfl, ?_⟩
      rw [if_neg hc]
      by_cases h1 : other < (ms.length : Int)
      · by_cases h2 : other = (r : Int)
        · subst h2
          simp [wD, on_way, hR, ne_int, hr, w_ss, w_sh, Here.d]
        · have h3 : ¬ (R.length : Int) < room := fun z => hc ⟨h1, h2, z⟩
          simp [wD, on_way, hR, ne_int, h1, h2, h3, w_ss, w_sh, Here.d]
      · simp [wD, on_way, hR, ne_int, h1, w_ss, w_sh, Here.d]
  | false =>
    unfold stepDeed
    simp only [Bool.false_eq_true, if_false]
    generalize hR : rowOf h.q other r = R
    by_cases hc : R.take 1 = [letter]
    · refine ⟨_, some (.d (.int src)), some (.d (.str "hear")), some (.d (.int other)), some (.d (.int letter)), some (.d (.int dst)), some (.d (iT R)), some (.d (Here.d ⟨h.st.set r dst, withRow h.q other r (R.drop 1)⟩)), rfl, ?_⟩
      rw [if_pos hc]
      simp [wD, on_way, hR, eq_one, hc, c1, c2, hf, w_hs, w_hh, Deed.d, Here.d]
    · refine ⟨_, some (.d (.int src)), some (.d (.str "hear")), some (.d (.int other)), some (.d (.int letter)), some (.d (.int dst)), some (.d (iT R)), j13, rfl, ?_⟩
      rw [if_neg hc]
      simp [wD, on_way, hR, eq_one, hc, w_hs, w_hh, Here.d]
/-- the deeds' environment -/
def denv (ms : List Mach) (room : Int) (h : Here) (found : List Deed) (r j7 j8 j9 j10 j11 j12 j13 : Option Val) : MP.Env :=
  [some (.d (msD ms)), some (.d h.d), some (.d (.int room)), some (.d (iT h.st)), some (.d (qsD h.q)), some (.d (.list (found.map Deed.d))), r, j7, j8, j9, j10, j11, j12, j13]
theorem steps_at (n : Nat) (ms : List Mach) (st : List Int) (r : Nat) (S : Store) : callN tbl (n + 1) 14 [.d (Mach.d (mAt ms r)), .d (.int (sAt st r))] S = some (.d (.list ((stepsAt ms st r).map Step.d)), S) := steps_from n (mAt ms r) (sAt st r) S
theorem deeds (n : Nat) {ms : List Mach} {room : Int} {h : Here} (w : WF ms room h) (S : Store) : callN tbl (n + 2) 20 [.d (msD ms), .d h.d, .d (.int room)] S = some (.d (.list ((deedsT ms h room).map Deed.d)), S) := by
  rw [call_deeds]
  unfold b_deeds runFn
  have hfew := w.few
  have h1 : -1000000 ≤ (ms.length : Int) ∧ (ms.length : Int) ≤ 1000000 := by omega
  have hst := w.len
  have small : ∀ k, k ≤ ms.length → ((List.range k).flatMap fun r => (stepsAt ms h.st r).flatMap (stepDeed ms h room r)).length ≤ 100000 := fun k hk => by
    refine Nat.le_trans (flatMap_le (c := 100) (fun r => ?_) _) (by rw [List.length_range]; omega)
    refine Nat.le_trans (flatMap_le (c := 1) (fun s => stepDeed_le ms h room r s) _) (by have := w.stepsAt r; omega)
  obtain ⟨ρ2, e, r, j7, j8, j9, j10, j11, j12, j13, rfl⟩ := forRun_ix (t := .n 6) (b := l1_deeds (callN tbl (n + 1))) (S := S) (fun (i : Nat) => PyData.int (i : Int)) (fun k ρ => ∃ r j7 j8 j9 j10 j11 j12 j13, ρ = denv ms room h ((List.range k).flatMap fun r => (stepsAt ms h.st r).flatMap (stepDeed ms h room r)) r j7 j8 j9 j10 j11 j12 j13)
    (List.range ms.length) 0 (denv ms room h [] none none none none none none none none) ⟨_, _, _, _, _, _, _, _, rfl⟩ (fun k r ρ hk ⟨r0, j7, j8, j9, j10, j11, j12, j13, hρ⟩ => by
      obtain ⟨hkl, hkr⟩ := List.getElem?_eq_some_iff.mp hk
      rw [List.getElem_range] at hkr
      subst hkr hρ
      rw [List.length_range] at hkl
      rw [Nat.zero_add]
      have sm := small k (by omega)
      have smS := w.stepsAt k
      generalize hF : ((List.range k).flatMap fun r => (stepsAt ms h.st r).flatMap (stepDeed ms h room r)) = F at sm
      obtain ⟨ρ2, e, j7, j8, j9, j10, j11, j12, j13, rfl⟩ := forRun_ix (t := .t [7, 8, 9, 10, 11]) (b := l0_deeds (callN tbl (n + 1))) (S := S) MP.Step.d (fun i ρ => ∃ j7 j8 j9 j10 j11 j12 j13, ρ = denv ms room h (F ++ ((stepsAt ms h.st k).take i).flatMap (stepDeed ms h room k)) (some (.d (.int k))) j7 j8 j9 j10 j11 j12 j13)
        (stepsAt ms h.st k) 0 (denv ms room h F (some (.d (.int k))) j7 j8 j9 j10 j11 j12 j13) ⟨j7, j8, j9, j10, j11, j12, j13, by simp⟩ (fun i s ρ hi ⟨j7, j8, j9, j10, j11, j12, j13, hρ⟩ => by
          subst hρ
          rw [Nat.zero_add]
          have sm2 : (F ++ ((stepsAt ms h.st k).take i).flatMap (stepDeed ms h room k)).length < 1000000 := by
            have := flatMap_le (c := 1) (fun s => stepDeed_le ms h room k s) ((stepsAt ms h.st k).take i)
            have h2 : ((stepsAt ms h.st k).take i).length ≤ 100 := by rw [List.length_take]; omega
            rw [List.length_append]
            omega
          obtain ⟨ρ1, k7, k8, k9, k10, k11, k12, k13, q1, q2⟩ := deed_one n w S k hkl s _ sm2 j7 j8 j9 j10 j11 j12 j13
          refine ⟨ρ1, _, q1, .inl q2, k7, k8, k9, k10, k11, k12, k13, ?_⟩
          rw [List.take_add_one, hi]
          unfold denv
          simp)
      refine ⟨_, _, rfl, .inl ?_, some (.d (.int k)), j7, j8, j9, j10, j11, j12, j13, rfl⟩
      unfold l1_deeds
      rw [Nat.zero_add, List.take_length] at e
      simp [denv, machine_at hkl, state_at (show k < h.st.length by omega), steps_at]
      simp only [denv] at e
      rw [e, List.range_succ, List.flatMap_append, hF]
      simp)
  simp [denv, Here.d] at e
  simp [start0, h1, upFrom_range, Here.d, e, sortOk_deeds, sortD_map]
  rfl
theorem is_unheard (n : Nat) (steps : List MP.Step) (q : List Qe) (r : Int) (S : Store) (hl : steps.length ≤ 60) : callN tbl (n + 2) 22 [.d (.list (steps.map MP.Step.d)), .d (qsD q), .d (.int r)] S = some (.d (.bool (isUnheard steps q r)), S) := by
  rw [call_is_unheard]
  unfold b_is_unheard runFn
  obtain ⟨h1, h2⟩ := forRun_find (t := .n 3) (b := l0_is_unheard (callN tbl (n + 1))) (S := S) (u := .d (.bool true)) PyData.int (fun ρ => ∃ j3 j4 j5, ρ = [some (.d (.list (steps.map MP.Step.d))), some (.d (qsD q)), some (.d (.int r)), j3, j4, j5])
    (fun o => decide (0 < (rowOf q o r).length) && !((steps.filter fun s => decide (s.other = o)).map Step.letter).contains ((rowOf q o r).getD 0 0)) (setI (steps.map Step.other)) [some (.d (.list (steps.map MP.Step.d))), some (.d (qsD q)), some (.d (.int r)), none, none, none] ⟨none, none, none, rfl⟩ (fun o ρ ho ⟨j3, j4, j5, hρ⟩ => by
      subst hρ
      refine ⟨_, rfl, ?_⟩
      unfold l0_is_unheard
      have cr : compRun (.n 5) (eBin opEq (eIx (eVar 5) (eC (.int 2))) (eVar 3)) (eIx (eVar 5) (eC (.int 3))) [some (.d (.list (steps.map MP.Step.d))), some (.d (qsD q)), some (.d (.int r)), some (.d (.int o)), some (.d (iT (rowOf q o r))), none] (steps.map MP.Step.d) S =
          some (((steps.filter fun s => decide (s.other = o)).map Step.letter).map PyData.int, S) := by
        rw [compRun_of MP.Step.d (fun s => decide (s.other = o)) (fun s => .int s.letter), List.map_map]
        · rfl
        · intro s hs
          refine ⟨_, rfl, ?_⟩
          simp [MP.Step.d, L2.atI, ixN, eq_int]
      generalize hR : rowOf q o r = R at cr ⊢
      cases R with
      | nil => simp [on_way, hR]
      | cons x R =>
        have h0 : (0 : Int) < (R.length : Int) + 1 := by omega
        have at0 : L2.atI (PyData.int x :: R.map PyData.int) 0 = some (.int x) := by
          unfold L2.atI ixN
          simp [h0]
        generalize ((steps.filter fun s => decide (s.other = o)).map Step.letter) = L at cr ⊢
        by_cases hm : x ∈ L
        · simp [on_way, hR, at0, h0, cr, notIn_ints, hm]
        · simp [on_way, hR, at0, h0, cr, notIn_ints, hm])
  have cr : compRun (.n 5) (eC (.bool true)) (eIx (eVar 5) (eC (.int 2))) [some (.d (.list (steps.map MP.Step.d))), some (.d (qsD q)), some (.d (.int r)), none, none, none] (steps.map MP.Step.d) S = some ((steps.map Step.other).map PyData.int, S) := by
    rw [compRun_of MP.Step.d (fun _ => true) (fun s => .int s.other), all_true, List.map_map]
    · rfl
    · intro s hs
      refine ⟨_, rfl, ?_⟩
      simp [MP.Step.d, L2.atI, ixN]
  have hlt : (steps.map Step.other).length < 64 := by rw [List.length_map]; omega
  have oi := intsD_map (steps.map Step.other)
  unfold isUnheard
  generalize hA : (setI (steps.map Step.other)).any _ = A at h1 h2 ⊢
  clear hA
  generalize (steps.map Step.other).map PyData.int = Ds at cr oi
  generalize steps.map Step.other = L at h1 h2 oi hlt
  cases A with
  | true =>
    have e := h1 rfl
    simp [start0, cr, oi, hlt, e]
  | false =>
    obtain ⟨ρ2, e, j3, j4, j5, rfl⟩ := h2 rfl
    simp [start0, cr, oi, hlt, e]
theorem trouble_at (n : Nat) {ms : List Mach} {room : Int} {h : Here} (w : WF ms room h) (S : Store) : callN tbl (n + 3) 21 [.d (msD ms), .d h.d, .d (.int room)] S = some (.d (optTr (troubleT ms h room)), S) := by
  rw [call_trouble_at]
  unfold b_trouble_at runFn
  have hfew := w.few
  have hst := w.len
  have b1 : -1000000 ≤ (ms.length : Int) ∧ (ms.length : Int) ≤ 1000000 := by omega
  obtain ⟨h1, h2⟩ := forRun_find (t := .n 5) (b := l0_trouble_at (callN tbl (n + 2))) (S := S) (u := .d (.str "unheard")) (fun (i : Nat) => PyData.int (i : Int)) (fun ρ => ∃ j5 j6 j7 j8 j9, ρ = [some (.d (msD ms)), some (.d h.d), some (.d (.int room)), some (.d (iT h.st)), some (.d (qsD h.q)), j5, j6, j7, j8, j9])
    (fun r => decide (0 < (stepsAt ms h.st r).length) && (stepsAt ms h.st r).all (fun s => !s.snd) && isUnheard (stepsAt ms h.st r) h.q r) (List.range ms.length) [some (.d (msD ms)), some (.d h.d), some (.d (.int room)), some (.d (iT h.st)), some (.d (qsD h.q)), none, none, none, none, none] ⟨none, none, none, none, none, rfl⟩ (fun r ρ hr ⟨j5, j6, j7, j8, j9, hρ⟩ => by
      subst hρ
      rw [List.mem_range] at hr
      refine ⟨_, rfl, ?_⟩
      unfold l0_trouble_at
      have un := is_unheard n (stepsAt ms h.st r) h.q r S (w.stepsAt r)
      have sa : ∀ (n : Nat) (S : Store), callN tbl (n + 1) 14 [.d (Mach.d (mAt ms r)), .d (.int (sAt h.st r))] S = some (.d (.list ((stepsAt ms h.st r).map MP.Step.d)), S) := fun n S => steps_at n ms h.st r S
      generalize stepsAt ms h.st r = T at un sa ⊢
      have cr : compRun (.n 9) (eC (.bool true)) (eBin opEq (eIx (eVar 9) (eC (.int 1))) (eC (.str "hear"))) [some (.d (msD ms)), some (.d h.d), some (.d (.int room)), some (.d (iT h.st)), some (.d (qsD h.q)), some (.d (.int r)), some (.d (.list (T.map MP.Step.d))), j7, j8, none] (T.map MP.Step.d) S = some ((T.map fun s => !s.snd).map PyData.bool, S) := by
        rw [compRun_of MP.Step.d (fun _ => true) (fun s => .bool !s.snd), all_true, List.map_map]
        · rfl
        · intro s hs
          refine ⟨_, rfl, ?_⟩
          cases hb : s.snd with
          | true => simp [MP.Step.d, L2.atI, ixN, hb, wD, w_sh]
          | false => simp [MP.Step.d, L2.atI, ixN, hb, wD, w_hh]
      have oa : opAll (.d (.list ((T.map fun s => !s.snd).map PyData.bool))) = some (.bool (T.all fun s => !s.snd)) := by
        rw [x_all, boolsD_map, Option.map_some, List.all_map]
        rfl
      generalize (T.map fun s => !s.snd).map PyData.bool = Ds at cr oa
      generalize (T.all fun s => !s.snd) = A at oa ⊢
      generalize isUnheard T h.q r = U at un ⊢
      cases T with
      | nil => simp [machine_at hr, state_at (show r < h.st.length by omega), sa]
      | cons t T' =>
        have hp : (0 : Int) < ((t :: T').length : Int) := by rw [List.length_cons]; omega
        have hp2 : 0 < (t :: T').length := by rw [List.length_cons]; omega
        generalize t :: T' = T at *
        cases A <;> cases U <;> simp [-x_all, machine_at hr, state_at (show r < h.st.length by omega), sa, hp, hp2, cr, oa, un])
  unfold troubleT
  have ds := deeds n w S
  have dl := deedsT_len ms h room
  have ca : ∀ j5 j6 j7 j9 : Option Val, compRun (.n 8) (eC (.bool true)) (eBin opEq (eU opLen (eCall (callN tbl (n + 2)) 14 (aCons (eIx (eVar 0) (eVar 8)) (aCons (eIx (eVar 3) (eVar 8)) (aNil))) [])) (eC (.int 0))) [some (.d (msD ms)), some (.d h.d), some (.d (.int room)), some (.d (iT h.st)), some (.d (qsD h.q)), j5, j6, j7, none, j9] ((List.range ms.length).map fun (i : Nat) => PyData.int (i : Int)) S = some (((List.range ms.length).map fun r => decide ((stepsAt ms h.st r).length = 0)).map PyData.bool, S) := fun j5 j6 j7 j9 => by
    rw [compRun_of (fun (i : Nat) => PyData.int (i : Int)) (fun _ => true) (fun r => .bool (decide ((stepsAt ms h.st r).length = 0))), all_true, List.map_map]
    · rfl
    · intro r hr
      rw [List.mem_range] at hr
      refine ⟨_, rfl, rfl, fun _ => ?_⟩
      simp [machine_at hr, state_at (show r < h.st.length by omega), steps_at, eq_int]
  have oa : opAll (.d (.list (((List.range ms.length).map fun r => decide ((stepsAt ms h.st r).length = 0)).map PyData.bool))) = some (.bool ((List.range ms.length).all fun r => decide ((stepsAt ms h.st r).length = 0))) := by
    rw [x_all, boolsD_map, Option.map_some, List.all_map]
    rfl
  generalize ((List.range ms.length).map fun r => decide ((stepsAt ms h.st r).length = 0)).map PyData.bool = Ds at ca oa
  generalize ((List.range ms.length).all fun r => decide ((stepsAt ms h.st r).length = 0)) = O at oa ⊢
  generalize hA : (List.range ms.length).any _ = A at h1 h2 ⊢
  clear hA
  cases A with
  | true =>
    have e := h1 rfl
    simp [start0, b1, upFrom_range, e, optTr, Tr.d]
  | false =>
    obtain ⟨ρ2, e, j5, j6, j7, j8, j9', rfl⟩ := h2 rfl
    by_cases hd : 0 < (deedsAt ms h room).length
    · have hd2 : (0 : Int) < ((deedsT ms h room).length : Int) := by omega
      have hd4 : ¬ deedsT ms h room = [] := fun z => by rw [z] at hd2; simp at hd2
      have hd5 : ¬ deedsAt ms h room = [] := fun z => by rw [z] at hd; simp at hd
      have hd2n : 0 < (deedsT ms h room).length := by omega
      rw [if_pos hd]
      simp [start0, b1, upFrom_range, e, optTr, ds, hd2, hd2n]
    · have hd2 : (deedsT ms h room).length = 0 := by omega
      have hd3 : (deedsAt ms h room).length = 0 := by omega
      cases O with
      | true =>
        by_cases hq : 0 < h.q.length
        · simp [-x_all, start0, b1, upFrom_range, e, optTr, Tr.d, ds, hd2, hd3, ca, oa, hq]
        · have hq2 : h.q.length = 0 := by omega
          simp [-x_all, start0, b1, upFrom_range, e, optTr, Tr.d, ds, hd2, hd3, ca, oa, hq2]
      | false =>
        simp [-x_all, start0, b1, upFrom_range, e, optTr, Tr.d, ds, hd2, hd3, ca, oa]
end K53
set_option Elab.async false
set_option linter.all false
set_option maxRecDepth 20000
namespace K53
open PySem L2 MP
/-! The search in letters. -/
def senv (ms : List Mach) (room : Int) (found : List Here) (ways : List (List DKey)) (i : Nat) (j5 j6 j7 j8 j9 j10 : Option Val) : MP.Env :=
  [some (.d (msD ms)), some (.d (.int room)), some (.d (.list (found.map Here.d))), some (.d (.list (ways.map wayD))), some (.d (.int i)), j5, j6, j7, j8, j9, j10]
theorem way_at {ways : List (List DKey)} {i : Nat} {way : List DKey} (h : ways[i]? = some way) : L2.atI (ways.map wayD) (i : Int) = some (wayD way) := by
  refine MP.atI_nat ?_
  rw [List.getElem?_map, h]
  rfl
theorem here_at {f : List Here} {i : Nat} {x : Here} (h : f[i]? = some x) : L2.atI (f.map Here.d) (i : Int) = some x.d := by
  refine MP.atI_nat ?_
  rw [List.getElem?_map, h]
  rfl
theorem way_add {w : List DKey} (x : DKey) (h : w.length ≤ 3000) : opAdd (wayD w) (.tuple [x.d]) = some (wayD (w ++ [x])) := by
  unfold wayD
  rw [x_addT, if_pos (by simp; omega)]
  simp
theorem add_one (n : Nat) {P : Here → Prop} {ms : List Mach} {room : Int} {found : List Here} {ways : List (List DKey)} {i : Nat} {way : List DKey} (b : BOk P found ways) (hi : ways[i]? = some way) (hz : way.length ≤ 3000) (x : Deed) (j5 j6 j7 j8 j9 j10 : Option Val) (S : Store) :
    ∃ ρ1 k6 k7 k8 k9 k10, (Tg.t [6, 7, 8, 9, 10]).set x.d (senv ms room found ways i j5 j6 j7 j8 j9 j10) = some ρ1 ∧
      l0_search (callN tbl n) ρ1 S = some (.nx (senv ms room (addOne way (found, ways) (x.key, x.behind)).1 (addOne way (found, ways) (x.key, x.behind)).2 i j5 k6 k7 k8 k9 k10) S) := by
  refine ⟨_, some (.d (.int x.role)), some (.d (wD x.snd)), some (.d (.int x.other)), some (.d (.int x.letter)), some (.d x.behind.d), rfl, ?_⟩
  unfold l0_search addOne senv
  have hl : found.length < 1000000 := Nat.lt_of_le_of_lt b.few (by omega)
  have hl2 : ways.length < 1000000 := by rw [b.len]; exact hl
  have ek : (PyData.tuple [.int x.role, wD x.snd, .int x.other, .int x.letter]) = x.key.d := rfl
  by_cases h1 : x.behind ∈ found
  · simp [notIn_here, h1]
  · by_cases h2 : found.length < 3000
    · have h3 : (found.length : Int) < 3000 := by omega
      simp [notIn_here, h1, h2, h3, hl, hl2, way_at hi, ek, way_add x.key hz]
    · have h3 : ¬ (found.length : Int) < 3000 := by omega
      simp [notIn_here, h1, h2, h3]
theorem search_loop (n : Nat) {P : Here → Prop} {ms : List Mach} {room : Int} (hW : ∀ x, P x → WF ms room x) (hP : ∀ x, P x → ∀ a ∈ nextT ms room x, P a.2) (S : Store) : ∀ (k : Nat) (found : List Here) (ways : List (List DKey)) (i : Nat) (j5 j6 j7 j8 j9 j10 : Option Val) (res : Option (Tr × List DKey)) (fin : List Here),
    BOk P found ways → bfsRun (fun h => troubleT ms h room) (nextT ms room) k found ways i = some (res, fin) →
    (res = none → ∃ ways' i' u5 u6 u7 u8 u9 u10, whileRun (eBin opLt (eVar 4) (eU opLen (eVar 2))) (l1_search (callN tbl (n + 3))) k (senv ms room found ways i j5 j6 j7 j8 j9 j10) S = some (.nx (senv ms room fin ways' i' u5 u6 u7 u8 u9 u10) S)) ∧
    (∀ t w, res = some (t, w) → whileRun (eBin opLt (eVar 4) (eU opLen (eVar 2))) (l1_search (callN tbl (n + 3))) k (senv ms room found ways i j5 j6 j7 j8 j9 j10) S = some (.ret (.d (.tuple [.tuple [t.d, wayD w], .list (fin.map Here.d)])) S))
  | 0, _, _, _, _, _, _, _, _, _, _, _, _, h => by cases h
  | k + 1, found, ways, i, j5, j6, j7, j8, j9, j10, res, fin, b, h => by
    unfold bfsRun at h
    cases hx : found[i]? with
    | none =>
      rw [hx] at h
      cases h
      have hil : ¬ (i < found.length) := by
        have := List.getElem?_eq_none_iff.mp hx
        omega
      refine ⟨fun _ => ⟨ways, i, j5, j6, j7, j8, j9, j10, ?_⟩, fun t w e => by cases e⟩
      unfold whileRun
      simp [senv, hil]
    | some x =>
      rw [hx] at h
      have px := b.all x (List.mem_of_getElem? hx)
      have w := hW x px
      have hil := (List.getElem?_eq_some_iff.mp hx).1
      have hil2 : (i : Int) < (found.length : Int) := by omega
      obtain ⟨way, hway⟩ : ∃ way, ways[i]? = some way := ⟨_, List.getElem?_eq_getElem (by rw [b.len]; exact hil)⟩
      have hgd : ways.getD i [] = way := by rw [List.getD_eq_getElem?_getD, hway]; rfl
      have hz : way.length ≤ 3000 := by
        have := b.short i way hway
        have := b.few
        omega
      have tr := trouble_at n w S
      have dd := deeds (n + 1) w S
      simp only [hgd] at h
      cases ht : troubleT ms x room with
      | some t =>
        simp only [ht] at h
        cases h
        refine ⟨fun e => (by cases e), fun t' w' e => ?_⟩
        cases e
        unfold whileRun l1_search
        have hnn : isN t.d = false := by cases t <;> rfl
        rw [ht] at tr
        simp only [optTr] at tr
        simp [senv, hil, here_at hx, tr, hnn, way_at hway]
      | none =>
        simp only [ht] at h
        rw [ht] at tr
        simp only [optTr] at tr
        obtain ⟨ρ2, e, b', hw', k6, k7, k8, k9, k10, hρ⟩ := forRun_of (t := .t [6, 7, 8, 9, 10]) (b := l0_search (callN tbl (n + 3))) (S := S) Deed.d (fun s ρ => BOk P s.1 s.2 ∧ s.2[i]? = some way ∧ ∃ j6 j7 j8 j9 j10, ρ = senv ms room s.1 s.2 i (some (.d .none)) j6 j7 j8 j9 j10)
          (fun s a => addOne way s (a.key, a.behind)) (deedsT ms x room) (found, ways) (senv ms room found ways i (some (.d .none)) j6 j7 j8 j9 j10) ⟨b, hway, j6, j7, j8, j9, j10, rfl⟩ (fun s a ρ ha ⟨b', hw', k6, k7, k8, k9, k10, hρ⟩ => by
            subst hρ
            obtain ⟨ρ1, l6, l7, l8, l9, l10, q1, q2⟩ := add_one (n + 3) (ms := ms) (room := room) b' hw' hz a (some (.d .none)) k6 k7 k8 k9 k10 S
            have pa : P a.behind := hP x px (a.key, a.behind) (List.mem_map.mpr ⟨a, ha, rfl⟩)
            obtain ⟨b2, hw2⟩ := b'.add hw' (a := (a.key, a.behind)) pa
            exact ⟨ρ1, _, q1, .inl q2, b2, hw2, l6, l7, l8, l9, l10, rfl⟩)
        have ef : (nextT ms room x).foldl (addOne way) (found, ways) = (deedsT ms x room).foldl (fun s a => addOne way s (a.key, a.behind)) (found, ways) := by
          unfold nextT
          rw [List.foldl_map]
        rw [← ef] at b' hw' hρ
        subst hρ
        generalize (nextT ms room x).foldl (addOne way) (found, ways) = fw at h b' hw' e
        obtain ⟨f', w'⟩ := fw
        obtain ⟨r1, r2⟩ := search_loop n hW hP S k f' w' (i + 1) (some (.d .none)) k6 k7 k8 k9 k10 res fin b' h
        have step : whileRun (eBin opLt (eVar 4) (eU opLen (eVar 2))) (l1_search (callN tbl (n + 3))) (k + 1) (senv ms room found ways i j5 j6 j7 j8 j9 j10) S = whileRun (eBin opLt (eVar 4) (eU opLen (eVar 2))) (l1_search (callN tbl (n + 3))) k (senv ms room f' w' (i + 1) (some (.d .none)) k6 k7 k8 k9 k10) S := by
          rw [whileRun]
          conv => lhs; unfold l1_search
          simp only [senv] at e
          simp [senv, hil, here_at hx, tr, dd, e]
          rfl
        refine ⟨fun q => ?_, fun t w q => by rw [step]; exact r2 t w q⟩
        obtain ⟨a1, a2, a3, a4, a5, a6, a7, a8, hr⟩ := r1 q
        exact ⟨a1, a2, a3, a4, a5, a6, a7, a8, step.trans hr⟩
/-- the state from which all begins -/
def here0 (ms : List Mach) : Here := ⟨List.replicate ms.length 0, []⟩
theorem begin_ (n : Nat) (ms : List Mach) (S : Store) : callN tbl (n + 1) 16 [.d (msD ms)] S = some (.d (here0 ms).d, S) := by
  rw [call_begin]
  unfold b_begin runFn
  have cr : compRun (.n 1) (eC (.bool true)) (eC (.int 0)) [some (.d (msD ms)), none] (ms.map Mach.d) S = some (ms.map fun _ => PyData.int 0, S) := by
    rw [compRun_of Mach.d (fun _ => true) (fun _ => .int 0), all_true]
    intro m hm
    exact ⟨_, rfl, rfl, fun _ => rfl⟩
  simp [start0, msD] at cr ⊢
  simp [cr, Here.d, here0, iT, qsD]
  exact List.eq_replicate_iff.mpr ⟨by simp, fun b hb => by
    obtain ⟨_, _, e⟩ := List.mem_map.mp hb
    exact e.symm⟩
theorem search_ (n : Nat) {P : Here → Prop} {ms : List Mach} {room : Int} (hW : ∀ x, P x → WF ms room x) (hP : ∀ x, P x → ∀ a ∈ nextT ms room x, P a.2) (h0 : P (here0 ms)) (S : Store) {res : Option (Tr × List DKey)} {fin : List Here}
    (h : bfsRun (fun h => troubleT ms h room) (nextT ms room) 4000 [here0 ms] [[]] 0 = some (res, fin)) :
    callN tbl (n + 4) 23 [.d (msD ms), .d (.int room)] S = some (.d (.tuple [match res with | none => .none | some (t, w) => .tuple [t.d, wayD w], .list (fin.map Here.d)]), S) := by
  rw [call_search]
  unfold b_search runFn
  have b0 : BOk P [here0 ms] ([[]] : List (List DKey)) := ⟨rfl, by simp, fun k w hk => by
    cases k with
    | zero => simp at hk; subst hk; simp
    | succ k => simp at hk, fun x hx => by simp at hx; subst hx; exact h0⟩
  obtain ⟨r1, r2⟩ := search_loop n hW hP S 4000 [here0 ms] [[]] 0 none none none none none none res fin b0 h
  have bg := begin_ (n + 2) ms S
  cases res with
  | none =>
    obtain ⟨a1, a2, a3, a4, a5, a6, a7, a8, hr⟩ := r1 rfl
    simp [senv, wayD] at hr
    simp [start0, bg, sWhile, hr]
  | some tw =>
    obtain ⟨t, w⟩ := tw
    have hr := r2 t w rfl
    simp [senv, wayD] at hr
    simp [start0, bg, sWhile, hr, wayD]
theorem trouble_none (n : Nat) {P : Here → Prop} {ms : List Mach} {room : Int} (hW : ∀ x, P x → WF ms room x) (hP : ∀ x, P x → ∀ a ∈ nextT ms room x, P a.2) (h0 : P (here0 ms)) (S : Store) {fin : List Here}
    (h : bfsRun (fun h => troubleT ms h room) (nextT ms room) 4000 [here0 ms] [[]] 0 = some (none, fin)) : callN tbl (n + 5) 24 [.d (msD ms), .d (.int room)] S = some (.d .none, S) := by
  rw [call_trouble]
  unfold b_trouble runFn
  have e := search_ n hW hP h0 S h
  simp [start0, e, L2.atI, ixN]
end K53
set_option Elab.async false
set_option linter.all false
set_option maxRecDepth 20000
namespace K53
open PySem L2 MP
open PySem.W (alike alikeAll dataLe)
/-! The search in losses. -/
structure Spl where
  a : Int
  b : Int
  h : Here
def Spl.d (x : Spl) : D := .tuple [.int x.a, .int x.b, x.h.d]
def splAt (lost : Bool) (h : Here) : List Spl := h.q.map fun e => ⟨e.a, e.b, ⟨h.st, withRow h.q e.a e.b (if lost then (rowOf h.q e.a e.b).drop 1 else (rowOf h.q e.a e.b).take 1 ++ rowOf h.q e.a e.b)⟩⟩
def splT (lost : Bool) (h : Here) : List Spl := sortBy Spl.d (splAt lost h)
theorem splT_len (lost : Bool) (h : Here) : (splT lost h).length = h.q.length := by
  unfold splT sortBy splAt
  rw [List.length_mergeSort, List.length_map]
theorem sortOk_spl (l : List Spl) : sortOk (l.map Spl.d) = true := sortOk_map _ l (fun x y => by simp [Spl.d, Here.d, alike, alikeAll, alike_iT, alike_qs]) (fun x => rfl) fun x => by
  have := dp_here x.h
  exact decide_eq_true (by simp only [Spl.d, PyData.depth, PyData.depthAll]; omega)
def lossW (lost : Bool) : Str := if lost then "lost" else "doubled"
theorem iT_add2 {l m : List Int} (h : l.length + m.length ≤ 1000000) : opAdd (iT l) (iT m) = some (iT (l ++ m)) := by
  unfold iT
  rw [x_addT, if_pos (by simpa using h)]
  simp
theorem w_ll : opEq (.str "lost") (.str "lost") = some (.bool true) := by rw [eq_str]; rfl
theorem w_dl : opEq (.str "doubled") (.str "lost") = some (.bool false) := by rw [eq_str]; rfl
theorem spoiled (n : Nat) {ms : List Mach} {room : Int} {h : Here} (w : WF ms room h) (lost : Bool) (S : Store) : callN tbl (n + 2) 25 [.d h.d, .d (.str (lossW lost))] S = some (.d (.list ((splT lost h).map Spl.d)), S) := by
  rw [call_spoiled]
  unfold b_spoiled runFn
  have hq : h.q.length ≤ 1000 := Nat.le_trans w.qs (by omega)
  obtain ⟨ρ2, e, j5, j6, j7, j8, j9, rfl⟩ := forRun_ix (t := .t [5, 6, 7]) (b := l0_spoiled (callN tbl (n + 1))) (S := S) Qe.d (fun k ρ => ∃ j5 j6 j7 j8 j9, ρ = [some (.d h.d), some (.d (.str (lossW lost))), some (.d (iT h.st)), some (.d (qsD h.q)), some (.d (.list (((splAt lost h).take k).map Spl.d))), j5, j6, j7, j8, j9])
    h.q 0 [some (.d h.d), some (.d (.str (lossW lost))), some (.d (iT h.st)), some (.d (qsD h.q)), some (.d (.list [])), none, none, none, none, none] ⟨none, none, none, none, none, rfl⟩ (fun k a ρ hk ⟨j5, j6, j7, j8, j9, hρ⟩ => by
      subst hρ
      have hr := w.row a.a a.b
      have hkl := (List.getElem?_eq_some_iff.mp hk).1
      have hl : ((splAt lost h).take k).length < 1000000 := by rw [List.length_take]; have := w.qs; omega
      have ek : (splAt lost h)[k]? = some ⟨a.a, a.b, ⟨h.st, withRow h.q a.a a.b (if lost then (rowOf h.q a.a a.b).drop 1 else (rowOf h.q a.a a.b).take 1 ++ rowOf h.q a.a a.b)⟩⟩ := by
        unfold splAt
        rw [List.getElem?_map, hk]
        rfl
      have tk : (splAt lost h).take (0 + k + 1) = (splAt lost h).take k ++ [⟨a.a, a.b, ⟨h.st, withRow h.q a.a a.b (if lost then (rowOf h.q a.a a.b).drop 1 else (rowOf h.q a.a a.b).take 1 ++ rowOf h.q a.a a.b)⟩⟩] := by
        rw [Nat.zero_add, List.take_add_one, ek]
        rfl
      rw [tk, Nat.zero_add]
      have hl2 : (rowOf h.q a.a a.b).length ≤ 1000 := hr
      have wr := with_row n h.q a.a a.b
      have ow := on_way n h.q a.a a.b
      generalize (splAt lost h).take k = F at hl
      generalize rowOf h.q a.a a.b = R at hl2 ow ⊢
      have ad : opAdd (iT (R.take 1)) (iT R) = some (iT (R.take 1 ++ R)) := iT_add2 (by rw [List.length_take]; omega)
      unfold l0_spoiled
      cases lost with
      | true =>
        refine ⟨_, _, rfl, .inl ?_, some (.d (.int a.a)), some (.d (.int a.b)), some (.d (iT a.row)), some (.d (iT R)), some (.d (iT (R.drop 1))), rfl⟩
        simp [lossW, ow, w_ll, wr _ _ hq, hl, Spl.d, Here.d]
      | false =>
        refine ⟨_, _, rfl, .inl ?_, some (.d (.int a.a)), some (.d (.int a.b)), some (.d (iT a.row)), some (.d (iT R)), some (.d (iT (R.take 1 ++ R))), rfl⟩
        simp [lossW, ow, w_dl, wr _ _ hq, hl, Spl.d, Here.d, ad])
  have e2 : (splAt lost h).take (0 + h.q.length) = splAt lost h := by
    rw [Nat.zero_add]
    exact List.take_of_length_le (by unfold splAt; rw [List.length_map]; exact Nat.le_refl _)
  rw [e2] at e
  have eq : (qsD h.q) = .tuple (h.q.map Qe.d) := rfl
  simp only [eq] at e
  simp [start0, eq, e, sortOk_spl, sortD_map]
  rfl
theorem deedsT_le {ms : List Mach} {room : Int} {h : Here} (w : WF ms room h) : (deedsT ms h room).length ≤ 100000 := by
  rw [deedsT_len]
  unfold deedsAt
  refine Nat.le_trans (flatMap_le (c := 100) (fun r => ?_) _) (by rw [List.length_range]; have := w.few; omega)
  refine Nat.le_trans (flatMap_le (c := 1) (fun s => stepDeed_le ms h room r s) _) (by have := w.stepsAt r; omega)
def nextL (ms : List Mach) (room : Int) (lost : Bool) (x : HereS) : List (DKey × HereS) :=
  (deedsT ms x.h room).map (fun d => (d.key, (⟨d.behind, x.s⟩ : HereS))) ++ (if x.s = 0 then (splT lost x.h).map (fun p => ((⟨p.a, lossW lost, p.b, 0⟩ : DKey), (⟨p.h, 1⟩ : HereS))) else [])
def moreD (a : DKey × HereS) : D := .tuple [a.1.d, a.2.h.d, .int a.2.s]
def lenv (ms : List Mach) (room : Int) (lost : Bool) (found : List HereS) (ways : List (List DKey)) (i : Nat) (j6 j7 j8 j9 j10 j11 j12 j13 j14 : Option Val) : MP.Env :=
  [some (.d (msD ms)), some (.d (.int room)), some (.d (.str (lossW lost))), some (.d (.list (found.map HereS.d))), some (.d (.list (ways.map wayD))), some (.d (.int i)), j6, j7, j8, j9, j10, j11, j12, j13, j14]
theorem hereS_at {f : List HereS} {i : Nat} {x : HereS} (h : f[i]? = some x) : L2.atI (f.map HereS.d) (i : Int) = some x.d := by
  refine MP.atI_nat ?_
  rw [List.getElem?_map, h]
  rfl
theorem add_oneL (n : Nat) {P : HereS → Prop} {ms : List Mach} {room : Int} {lost : Bool} {found : List HereS} {ways : List (List DKey)} {i : Nat} {way : List DKey} (b : BOk P found ways) (hi : ways[i]? = some way) (hz : way.length ≤ 3000) (a : DKey × HereS) (j6 j7 j8 j9 j10 j11 j12 j13 j14 : Option Val) (S : Store) :
    ∃ ρ1 k10 k11 k12, (Tg.t [10, 11, 12]).set (moreD a) (lenv ms room lost found ways i j6 j7 j8 j9 j10 j11 j12 j13 j14) = some ρ1 ∧
      l0_search_2 (callN tbl n) ρ1 S = some (.nx (lenv ms room lost (addOne way (found, ways) a).1 (addOne way (found, ways) a).2 i j6 j7 j8 j9 k10 k11 k12 j13 j14) S) := by
  refine ⟨_, some (.d a.1.d), some (.d a.2.h.d), some (.d (.int a.2.s)), rfl, ?_⟩
  unfold l0_search_2 addOne lenv
  have hl : found.length < 1000000 := Nat.lt_of_le_of_lt b.few (by omega)
  have hl2 : ways.length < 1000000 := by rw [b.len]; exact hl
  have ex : PyData.tuple [a.2.h.d, .int a.2.s] = a.2.d := rfl
  have nd : opNotIn a.2.d (.list (found.map HereS.d)) = some (.bool (decide (a.2 ∉ found))) := notIn_hereS a.2 found
  by_cases h1 : a.2 ∈ found
  · simp [ex, nd, h1]
  · by_cases h2 : found.length < 3000
    · have h3 : (found.length : Int) < 3000 := by omega
      simp [ex, nd, h1, h2, h3, hl, hl2, way_at hi, way_add a.1 hz]
    · have h3 : ¬ (found.length : Int) < 3000 := by omega
      simp [ex, nd, h1, h2, h3]
theorem more_of (n : Nat) {ms : List Mach} {room : Int} (lost : Bool) (x : HereS) (w : WF ms room x.h) (S : Store) (found : List HereS) (ways : List (List DKey)) (i : Nat) (j8 j9 j10 j11 j12 j13 j14 : Option Val) :
    sSeq (sSet 9 (eComp (sSq (eCall (callN tbl (n + 3)) 20 (aCons (eVar 0) (aCons (eVar 6) (aCons (eVar 1) (aNil)))) [])) (.n 10) [10] (eC (.bool true)) (eTup (aCons (eSl (eVar 10) (oNo) (oSome (eC (.int 4)))) (aCons (eIx (eVar 10) (eC (.int 4))) (aCons (eVar 7) (aNil)))))))
      (sIf (eBin opEq (eVar 7) (eC (.int 0))) (sSet 9 (eBin opAdd (eVar 9) (eComp (sSq (eCall (callN tbl (n + 3)) 25 (aCons (eVar 6) (aCons (eVar 2) (aNil))) [])) (.t [13, 14, 11]) [13, 14, 11] (eC (.bool true)) (eTup (aCons (eTup (aCons (eVar 13) (aCons (eVar 2) (aCons (eVar 14) (aCons (eC (.int 0)) (aNil)))))) (aCons (eVar 11) (aCons (eC (.int 1)) (aNil)))))))) (sSkip))
      (lenv ms room lost found ways i (some (.d x.h.d)) (some (.d (.int x.s))) j8 j9 j10 j11 j12 j13 j14) S = some (.nx (lenv ms room lost found ways i (some (.d x.h.d)) (some (.d (.int x.s))) j8 (some (.d (.list ((nextL ms room lost x).map moreD)))) j10 j11 j12 j13 j14) S) := by
  have dd := deeds (n + 1) w S
  have sp := spoiled (n + 1) w lost S
  have c1 : compRun (.n 10) (eC (.bool true)) (eTup (aCons (eSl (eVar 10) (oNo) (oSome (eC (.int 4)))) (aCons (eIx (eVar 10) (eC (.int 4))) (aCons (eVar 7) (aNil))))) (lenv ms room lost found ways i (some (.d x.h.d)) (some (.d (.int x.s))) j8 j9 none j11 j12 j13 j14) ((deedsT ms x.h room).map Deed.d) S =
      some (((deedsT ms x.h room).map fun d => (d.key, (⟨d.behind, x.s⟩ : HereS))).map moreD, S) := by
    rw [compRun_of Deed.d (fun _ => true) (fun d => moreD (d.key, ⟨d.behind, x.s⟩)), all_true, List.map_map]
    · rfl
    · intro d hd
      refine ⟨_, rfl, rfl, fun _ => ?_⟩
      have e4 : (4 : Int) = ((4 : Nat) : Int) := rfl
      simp only [lenv, Deed.d, x_tup, x_cons, x_sl, x_var, x_oNo, x_oSome, x_c, x_ix, x_nil]
      simp [L2.atI, ixN]
      rw [e4, cut_to]
      rfl
  have c2 : compRun (.t [13, 14, 11]) (eC (.bool true)) (eTup (aCons (eTup (aCons (eVar 13) (aCons (eVar 2) (aCons (eVar 14) (aCons (eC (.int 0)) (aNil)))))) (aCons (eVar 11) (aCons (eC (.int 1)) (aNil))))) (lenv ms room lost found ways i (some (.d x.h.d)) (some (.d (.int x.s))) j8 (some (.d (.list (((deedsT ms x.h room).map fun d => (d.key, (⟨d.behind, x.s⟩ : HereS))).map moreD)))) j10 none j12 none none) ((splT lost x.h).map Spl.d) S =
      some (((splT lost x.h).map fun p => ((⟨p.a, lossW lost, p.b, 0⟩ : DKey), (⟨p.h, 1⟩ : HereS))).map moreD, S) := by
    rw [compRun_of Spl.d (fun _ => true) (fun p => moreD (⟨p.a, lossW lost, p.b, 0⟩, ⟨p.h, 1⟩)), all_true, List.map_map]
    · rfl
    · intro p hp
      refine ⟨_, rfl, rfl, fun _ => ?_⟩
      rfl
  have l1 : (((deedsT ms x.h room).map fun d => (d.key, (⟨d.behind, x.s⟩ : HereS))).map moreD).length + (((splT lost x.h).map fun p => ((⟨p.a, lossW lost, p.b, 0⟩ : DKey), (⟨p.h, 1⟩ : HereS))).map moreD).length ≤ 1000000 := by
    simp only [List.length_map, splT_len]
    have := deedsT_le w
    have := w.qs
    omega
  unfold nextL
  generalize ((deedsT ms x.h room).map fun d => (d.key, (⟨d.behind, x.s⟩ : HereS))) = A at c1 c2 l1 ⊢
  generalize ((splT lost x.h).map fun p => ((⟨p.a, lossW lost, p.b, 0⟩ : DKey), (⟨p.h, 1⟩ : HereS))) = B at c2 l1 ⊢
  simp only [lenv] at c1 c2
  by_cases hs : x.s = 0
  · rw [if_pos hs]
    rw [hs] at c1 c2
    simp only [List.length_map] at l1
    simp [lenv, hs, dd, sp, c1, c2, eq_int, l1]
  · rw [if_neg hs]
    simp [lenv, hs, dd, c1, eq_int]
theorem sSeq_nx {a b : SMean} {ρ ρ1 : MP.Env} {S S1 : Store} (h : a ρ S = some (.nx ρ1 S1)) : sSeq a b ρ S = b ρ1 S1 := by
  simp only [x_seq, h]
theorem sSeq_assoc (a b c : SMean) (ρ : MP.Env) (S : Store) : sSeq a (sSeq b c) ρ S = sSeq (sSeq a b) c ρ S := by
  simp only [x_seq]
  cases a ρ S with
  | none => rfl
  | some r => cases r <;> rfl
theorem loss_loop (n : Nat) {P : HereS → Prop} {ms : List Mach} {room : Int} {lost : Bool} (hW : ∀ x, P x → WF ms room x.h) (hP : ∀ x, P x → ∀ a ∈ nextL ms room lost x, P a.2) (S : Store) : ∀ (k : Nat) (found : List HereS) (ways : List (List DKey)) (i : Nat) (j6 j7 j8 j9 j10 j11 j12 j13 j14 : Option Val) (res : Option (Tr × List DKey)) (fin : List HereS),
    BOk P found ways → bfsRun (fun x => troubleT ms x.h room) (nextL ms room lost) k found ways i = some (res, fin) →
    (res = none → ∃ ρ', whileRun (eBin opLt (eVar 5) (eU opLen (eVar 3))) (l1_search_2 (callN tbl (n + 3))) k (lenv ms room lost found ways i j6 j7 j8 j9 j10 j11 j12 j13 j14) S = some (.nx ρ' S)) ∧
    (∀ t w, res = some (t, w) → whileRun (eBin opLt (eVar 5) (eU opLen (eVar 3))) (l1_search_2 (callN tbl (n + 3))) k (lenv ms room lost found ways i j6 j7 j8 j9 j10 j11 j12 j13 j14) S = some (.ret (.d (.tuple [t.d, wayD w])) S))
  | 0, _, _, _, _, _, _, _, _, _, _, _, _, _, _, _, h => by cases h
  | k + 1, found, ways, i, j6, j7, j8, j9, j10, j11, j12, j13, j14, res, fin, b, h => by
    unfold bfsRun at h
    cases hx : found[i]? with
    | none =>
      rw [hx] at h
      cases h
      have hil : ¬ (i < found.length) := by
        have := List.getElem?_eq_none_iff.mp hx
        omega
      refine ⟨fun _ => ⟨lenv ms room lost found ways i j6 j7 j8 j9 j10 j11 j12 j13 j14, ?_⟩, fun t w e => by cases e⟩
      unfold whileRun
      simp [lenv, hil]
    | some x =>
      rw [hx] at h
      have px := b.all x (List.mem_of_getElem? hx)
      have w := hW x px
      have hil := (List.getElem?_eq_some_iff.mp hx).1
      obtain ⟨way, hway⟩ : ∃ way, ways[i]? = some way := ⟨_, List.getElem?_eq_getElem (by rw [b.len]; exact hil)⟩
      have hgd : ways.getD i [] = way := by rw [List.getD_eq_getElem?_getD, hway]; rfl
      have hz : way.length ≤ 3000 := by
        have := b.short i way hway
        have := b.few
        omega
      have tr := trouble_at n w S
      have ux : ∀ (ρ : MP.Env), (Tg.t [6, 7]).set x.d ρ = some ((ρ.set 6 (some (.d x.h.d))).set 7 (some (.d (.int x.s)))) := fun ρ => rfl
      simp only [hgd] at h
      cases ht : troubleT ms x.h room with
      | some t =>
        simp only [ht] at h
        cases h
        refine ⟨fun e => (by cases e), fun t' w' e => ?_⟩
        cases e
        unfold whileRun l1_search_2
        have hnn : isN t.d = false := by cases t <;> rfl
        rw [ht] at tr
        simp only [optTr] at tr
        simp [lenv, hil, hereS_at hx, ux, tr, hnn, way_at hway]
      | none =>
        simp only [ht] at h
        rw [ht] at tr
        simp only [optTr] at tr
        obtain ⟨ρ2, e, b', hw', k10, k11, k12, hρ⟩ := forRun_of (t := .t [10, 11, 12]) (b := l0_search_2 (callN tbl (n + 3))) (S := S) moreD (fun s ρ => BOk P s.1 s.2 ∧ s.2[i]? = some way ∧ ∃ j10 j11 j12, ρ = lenv ms room lost s.1 s.2 i (some (.d x.h.d)) (some (.d (.int x.s))) (some (.d .none)) (some (.d (.list ((nextL ms room lost x).map moreD)))) j10 j11 j12 j13 j14)
          (fun s a => addOne way s a) (nextL ms room lost x) (found, ways) (lenv ms room lost found ways i (some (.d x.h.d)) (some (.d (.int x.s))) (some (.d .none)) (some (.d (.list ((nextL ms room lost x).map moreD)))) j10 j11 j12 j13 j14) ⟨b, hway, j10, j11, j12, rfl⟩ (fun s a ρ ha ⟨b', hw', k10, k11, k12, hρ⟩ => by
            subst hρ
            obtain ⟨ρ1, l10, l11, l12, q1, q2⟩ := add_oneL (n + 3) (ms := ms) (room := room) (lost := lost) b' hw' hz a (some (.d x.h.d)) (some (.d (.int x.s))) (some (.d .none)) (some (.d (.list ((nextL ms room lost x).map moreD)))) k10 k11 k12 j13 j14 S
            obtain ⟨b2, hw2⟩ := b'.add hw' (a := a) (hP x px a ha)
            exact ⟨ρ1, _, q1, .inl q2, b2, hw2, l10, l11, l12, rfl⟩)
        subst hρ
        have ef : (nextL ms room lost x).foldl (fun s a => addOne way s a) (found, ways) = (nextL ms room lost x).foldl (addOne way) (found, ways) := rfl
        rw [ef] at e b' hw'
        generalize (nextL ms room lost x).foldl (addOne way) (found, ways) = fw at h b' hw' e
        obtain ⟨f', w'⟩ := fw
        obtain ⟨r1, r2⟩ := loss_loop n hW hP S k f' w' (i + 1) (some (.d x.h.d)) (some (.d (.int x.s))) (some (.d .none)) (some (.d (.list ((nextL ms room lost x).map moreD)))) k10 k11 k12 j13 j14 res fin b' h
        have mo := more_of n lost x w S found ways i (some (.d .none)) j9 j10 j11 j12 j13 j14 (room := room)
        have step : whileRun (eBin opLt (eVar 5) (eU opLen (eVar 3))) (l1_search_2 (callN tbl (n + 3))) (k + 1) (lenv ms room lost found ways i j6 j7 j8 j9 j10 j11 j12 j13 j14) S = whileRun (eBin opLt (eVar 5) (eU opLen (eVar 3))) (l1_search_2 (callN tbl (n + 3))) k (lenv ms room lost f' w' (i + 1) (some (.d x.h.d)) (some (.d (.int x.s))) (some (.d .none)) (some (.d (.list ((nextL ms room lost x).map moreD)))) k10 k11 k12 j13 j14) S := by
          have s1 : sUnp (.t [6, 7]) (eIx (eVar 3) (eVar 5)) (lenv ms room lost found ways i j6 j7 j8 j9 j10 j11 j12 j13 j14) S = some (.nx (lenv ms room lost found ways i (some (.d x.h.d)) (some (.d (.int x.s))) j8 j9 j10 j11 j12 j13 j14) S) := by
            simp [lenv, hereS_at hx, ux]
          have s2 : sSet 8 (eCall (callN tbl (n + 3)) 21 (aCons (eVar 0) (aCons (eVar 6) (aCons (eVar 1) (aNil)))) []) (lenv ms room lost found ways i (some (.d x.h.d)) (some (.d (.int x.s))) j8 j9 j10 j11 j12 j13 j14) S = some (.nx (lenv ms room lost found ways i (some (.d x.h.d)) (some (.d (.int x.s))) (some (.d .none)) j9 j10 j11 j12 j13 j14) S) := by
            simp [lenv, tr]
          have s3 : sIf (eBin opIsNot (eVar 8) (eC .none)) (sRet (eTup (aCons (eVar 8) (aCons (eIx (eVar 4) (eVar 5)) (aNil))))) (sSkip) (lenv ms room lost found ways i (some (.d x.h.d)) (some (.d (.int x.s))) (some (.d .none)) j9 j10 j11 j12 j13 j14) S = some (.nx (lenv ms room lost found ways i (some (.d x.h.d)) (some (.d (.int x.s))) (some (.d .none)) j9 j10 j11 j12 j13 j14) S) := by
            simp [lenv]
          have s5 : sFor (sSq (eVar 9)) (.t [10, 11, 12]) (l0_search_2 (callN tbl (n + 3))) (lenv ms room lost found ways i (some (.d x.h.d)) (some (.d (.int x.s))) (some (.d .none)) (some (.d (.list ((nextL ms room lost x).map moreD)))) j10 j11 j12 j13 j14) S = some (.nx (lenv ms room lost f' w' i (some (.d x.h.d)) (some (.d (.int x.s))) (some (.d .none)) (some (.d (.list ((nextL ms room lost x).map moreD)))) k10 k11 k12 j13 j14) S) := e
          have s6 : sAug (fun i j => i + j) 5 (eC (.int 1)) (lenv ms room lost f' w' i (some (.d x.h.d)) (some (.d (.int x.s))) (some (.d .none)) (some (.d (.list ((nextL ms room lost x).map moreD)))) k10 k11 k12 j13 j14) S = some (.nx (lenv ms room lost f' w' (i + 1) (some (.d x.h.d)) (some (.d (.int x.s))) (some (.d .none)) (some (.d (.list ((nextL ms room lost x).map moreD)))) k10 k11 k12 j13 j14) S) := by
            simp [lenv]
          have body : l1_search_2 (callN tbl (n + 3)) (lenv ms room lost found ways i j6 j7 j8 j9 j10 j11 j12 j13 j14) S = some (.nx (lenv ms room lost f' w' (i + 1) (some (.d x.h.d)) (some (.d (.int x.s))) (some (.d .none)) (some (.d (.list ((nextL ms room lost x).map moreD)))) k10 k11 k12 j13 j14) S) := by
            unfold l1_search_2
            rw [sSeq_nx s1, sSeq_nx s2, sSeq_nx s3, sSeq_assoc, sSeq_nx mo, sSeq_nx s5, s6]
          have tst : eBin opLt (eVar 5) (eU opLen (eVar 3)) (lenv ms room lost found ways i j6 j7 j8 j9 j10 j11 j12 j13 j14) S = some (.d (.bool true), S) := by
            simp [lenv, hil]
          rw [whileRun]
          simp only [tst, body]
        refine ⟨fun q => ?_, fun t w q => by rw [step]; exact r2 t w q⟩
        obtain ⟨a1, hr⟩ := r1 q
        exact ⟨a1, step.trans hr⟩
theorem notIn_words (lost : Bool) : opNotIn (.str (lossW lost)) (.tuple [.str "doubled", .str "lost"]) = some (.bool false) := by
  have e : ([PyData.str "doubled", PyData.str "lost"].any fun z => PyData.eqv z (.str (lossW lost))) = true := by
    cases lost <;> decide +kernel
  show (if okD (.str (lossW lost)) = true then some (PyData.bool !([PyData.str "doubled", PyData.str "lost"].any fun z => PyData.eqv z (.str (lossW lost)))) else none) = _
  rw [e, show okD (.str (lossW lost)) = true from by simp [okD, PyData.depth]]
  rfl
theorem losses (n : Nat) {P : HereS → Prop} {ms : List Mach} {room : Int} {lost : Bool} (hW : ∀ x, P x → WF ms room x.h) (hP : ∀ x, P x → ∀ a ∈ nextL ms room lost x, P a.2) (h0 : P ⟨here0 ms, 0⟩) (S : Store) {res : Option (Tr × List DKey)} {fin : List HereS}
    (h : bfsRun (fun x => troubleT ms x.h room) (nextL ms room lost) 4000 [⟨here0 ms, 0⟩] [[]] 0 = some (res, fin)) :
    callN tbl (n + 4) 26 [.d (msD ms), .d (.int room), .d (.str (lossW lost))] S = some (.d (match res with | none => .none | some (t, w) => .tuple [t.d, wayD w]), S) := by
  rw [call_search_2]
  unfold b_search_2 runFn
  have b0 : BOk P [⟨here0 ms, 0⟩] ([[]] : List (List DKey)) := ⟨rfl, by simp, fun k w hk => by
    cases k with
    | zero => simp at hk; subst hk; simp
    | succ k => simp at hk, fun x hx => by simp at hx; subst hx; exact h0⟩
  obtain ⟨r1, r2⟩ := loss_loop n hW hP S 4000 [⟨here0 ms, 0⟩] [[]] 0 none none none none none none none none none res fin b0 h
  have bg := begin_ (n + 2) ms S
  have nw := notIn_words lost
  cases res with
  | none =>
    obtain ⟨ρ', hr⟩ := r1 rfl
    simp [lenv, wayD, HereS.d] at hr
    simp [start0, bg, nw, sWhile, hr]
  | some tw =>
    obtain ⟨t, w⟩ := tw
    have hr := r2 t w rfl
    simp [lenv, wayD, HereS.d] at hr
    simp [start0, bg, nw, sWhile, hr, wayD]
theorem bears_ (n : Nat) {P : HereS → Prop} {ms : List Mach} {room : Int} {lost : Bool} (hW : ∀ x, P x → WF ms room x.h) (hP : ∀ x, P x → ∀ a ∈ nextL ms room lost x, P a.2) (h0 : P ⟨here0 ms, 0⟩) (S : Store) {res : Option (Tr × List DKey)} {fin : List HereS}
    (h : bfsRun (fun x => troubleT ms x.h room) (nextL ms room lost) 4000 [⟨here0 ms, 0⟩] [[]] 0 = some (res, fin)) :
    callN tbl (n + 5) 27 [.d (msD ms), .d (.int room), .d (.str (lossW lost))] S = some (.d (.bool res.isNone), S) := by
  rw [call_bears]
  unfold b_bears runFn
  have e := losses n hW hP h0 S h
  cases res with
  | none => simp [start0, e]
  | some tw => simp [start0, e]
end K53
set_option Elab.async false
set_option linter.all false
set_option maxRecDepth 20000
namespace K53
open PySem L2 MP
/-! A line of m letters from p to q, its machines and states. -/
structure A3 where
  i : Nat
  j : Nat
  n : Nat
deriving DecidableEq
structure A4 where
  a : A3
  s : Nat
deriving DecidableEq
inductive K3 where
  | send | hear | bad
deriving DecidableEq
section
variable (p q : Nat) (L : Int) (m : Nat)
def sendM : Mach := ((m : Int) + 1, (List.range m).map fun (k : Nat) => (⟨k, true, q, L, k + 1⟩ : MP.Step))
def hearM : Mach := ((m : Int) + 1, (List.range m).map fun (k : Nat) => (⟨k, false, p, L, k + 1⟩ : MP.Step))
def machine (r : Nat) : Mach := if r = p then sendM q L m else if r = q then hearM p L m else (1, [])
def lineMs : List Mach := [machine p q L m 0, machine p q L m 1, machine p q L m 2, machine p q L m 3]
def stOf (i j : Nat) (r : Nat) : Int := if r = p then i else if r = q then j else 0
def sts (i j : Nat) : List Int := [stOf p q i j 0, stOf p q i j 1, stOf p q i j 2, stOf p q i j 3]
def quOf (n : Nat) : List Qe := if n = 0 then [] else [⟨p, q, List.replicate n L⟩]
def emb (a : A3) : Here := ⟨sts p q a.i a.j, quOf p q L a.n⟩
def embS (x : A4) : HereS := ⟨emb p q L x.a, x.s⟩
def keyOf (lost : Bool) : K3 → DKey
  | .send => ⟨p, "send", q, L⟩
  | .hear => ⟨q, "hear", p, L⟩
  | .bad => ⟨p, lossW lost, q, 0⟩
end
section
variable {p q : Nat} {L : Int} {m : Nat}
theorem lt4 {r : Nat} (h : r < 4) : r = 0 ∨ r = 1 ∨ r = 2 ∨ r = 3 := by omega
theorem mAt_line {r : Nat} (h : r < 4) : mAt (lineMs p q L m) r = machine p q L m r := by
  rcases lt4 h with rfl | rfl | rfl | rfl <;> rfl
theorem sAt_line {r i j : Nat} (h : r < 4) : sAt (sts p q i j) r = stOf p q i j r := by
  rcases lt4 h with rfl | rfl | rfl | rfl <;> rfl
theorem filt (f : Nat → MP.Step) (hf : ∀ k, (f k).src = (k : Int)) (i : Nat) : ∀ m : Nat, ((List.range m).map f).filter (fun s => decide (s.src = (i : Int))) = if i < m then [f i] else []
  | 0 => by simp
  | m + 1 => by
    rw [List.range_succ, List.map_append, List.filter_append, filt f hf i m]
    by_cases h : i = m
    · subst h
      simp [hf]
    · have h1 : ¬ (m : Int) = (i : Int) := by omega
      by_cases h2 : i < m
      · have h3 : i < m + 1 := by omega
        simp [hf, h1, h2, h3]
      · have h3 : ¬ i < m + 1 := by omega
        simp [hf, h1, h2, h3]
theorem steps_p (hp : p < 4) (a : A3) : stepsAt (lineMs p q L m) (sts p q a.i a.j) p = if a.i < m then [⟨a.i, true, q, L, a.i + 1⟩] else [] := by
  rw [stepsAt_eq, mAt_line hp, sAt_line hp]
  have e1 : stOf p q a.i a.j p = a.i := by simp [stOf]
  have e2 : machine p q L m p = sendM q L m := by simp [machine]
  rw [e1, e2]
  exact filt (fun (k : Nat) => (⟨k, true, q, L, k + 1⟩ : MP.Step)) (fun _ => rfl) a.i m
theorem steps_q (hq : q < 4) (hpq : p ≠ q) (a : A3) : stepsAt (lineMs p q L m) (sts p q a.i a.j) q = if a.j < m then [⟨a.j, false, p, L, a.j + 1⟩] else [] := by
  rw [stepsAt_eq, mAt_line hq, sAt_line hq]
  have e1 : stOf p q a.i a.j q = a.j := by simp [stOf, Ne.symm hpq]
  have e2 : machine p q L m q = hearM p L m := by simp [machine, Ne.symm hpq]
  rw [e1, e2]
  exact filt (fun (k : Nat) => (⟨k, false, p, L, k + 1⟩ : MP.Step)) (fun _ => rfl) a.j m
theorem steps_r {r : Nat} (hr : r < 4) (h1 : r ≠ p) (h2 : r ≠ q) (a : A3) : stepsAt (lineMs p q L m) (sts p q a.i a.j) r = [] := by
  rw [stepsAt_eq, mAt_line hr]
  have e2 : machine p q L m r = (1, []) := by simp [machine, h1, h2]
  rw [e2]
  rfl
theorem row_pq (n : Nat) : rowOf (quOf p q L n) p q = List.replicate n L := by
  unfold rowOf quOf
  by_cases h : n = 0
  · subst h; simp
  · simp [h]
theorem with_pq (n : Nat) (row : List Int) : withRow (quOf p q L n) p q row = if row.length = 0 then [] else [⟨p, q, row⟩] := by
  unfold withRow
  have e : (quOf p q L n).filter (fun e => !(decide (e.a = (p : Int)) && decide (e.b = (q : Int)))) = [] := by
    unfold quOf
    by_cases h : n = 0
    · simp [h]
    · simp [h]
  rw [e, List.nil_append]
  by_cases h : row.length = 0
  · have h0 : ¬ 0 < row.length := by omega
    rw [if_neg h0, if_pos h]
    exact sortBy_nil _
  · have h0 : 0 < row.length := by omega
    rw [if_pos h0, if_neg h]
    exact sortBy_one _ _
theorem with_rep (n k : Nat) : withRow (quOf p q L n) p q (List.replicate k L) = quOf p q L k := by
  rw [with_pq]
  unfold quOf
  simp
theorem sts_p (hp : p < 4) (i j v : Nat) : (sts p q i j).set p ((v : Int)) = sts p q v j := by
  unfold sts stOf
  rcases lt4 hp with rfl | rfl | rfl | rfl <;> simp
theorem sts_q (hq : q < 4) (hpq : p ≠ q) (i j v : Nat) : (sts p q i j).set q ((v : Int)) = sts p q i v := by
  unfold sts stOf
  rcases lt4 hq with rfl | rfl | rfl | rfl <;> simp [Ne.symm hpq]
/-- the deeds, in words -/
def sendD (p q : Nat) (L : Int) (a : A3) : Deed := ⟨p, true, q, L, emb p q L ⟨a.i + 1, a.j, a.n + 1⟩⟩
def hearD (p q : Nat) (L : Int) (a : A3) : Deed := ⟨q, false, p, L, emb p q L ⟨a.i, a.j + 1, a.n - 1⟩⟩
theorem deed_p (hp : p < 4) (hq : q < 4) (hpq : p ≠ q) (room : Nat) (a : A3) : (stepsAt (lineMs p q L m) (emb p q L a).st p).flatMap (stepDeed (lineMs p q L m) (emb p q L a) room p) = if a.i < m ∧ a.n < room then [sendD p q L a] else [] := by
  show (stepsAt (lineMs p q L m) (sts p q a.i a.j) p).flatMap _ = _
  rw [steps_p hp]
  by_cases h : a.i < m
  · rw [if_pos h]
    simp only [List.flatMap_cons, List.flatMap_nil, List.append_nil]
    unfold stepDeed
    have e1 : rowOf (emb p q L a).q p q = List.replicate a.n L := row_pq a.n
    have e2 : withRow (emb p q L a).q p q (List.replicate a.n L ++ [L]) = quOf p q L (a.n + 1) := by
      rw [show List.replicate a.n L ++ [L] = List.replicate (a.n + 1) L from (List.replicate_succ' ..).symm]
      exact with_rep a.n (a.n + 1)
    have e3 : (emb p q L a).st.set p ((a.i : Int) + 1) = sts p q (a.i + 1) a.j := by
      have := sts_p (q := q) hp a.i a.j (a.i + 1)
      rw [← this]
      rfl
    have c1 : (q : Int) < ((lineMs p q L m).length : Int) := by show (q : Int) < ((4 : Nat) : Int); omega
    have c2 : (q : Int) ≠ (p : Int) := by omega
    simp only [if_true, e1, List.length_replicate]
    by_cases hn : a.n < room
    · rw [if_pos ⟨c1, c2, by omega⟩, if_pos ⟨h, hn⟩, e2, e3]
      rfl
    · rw [if_neg (fun z => hn (by omega)), if_neg (fun z => hn z.2)]
  · rw [if_neg h, if_neg (fun z => h z.1)]
    rfl
theorem deed_q (hp : p < 4) (hq : q < 4) (hpq : p ≠ q) (room : Nat) (a : A3) : (stepsAt (lineMs p q L m) (emb p q L a).st q).flatMap (stepDeed (lineMs p q L m) (emb p q L a) room q) = if a.j < m ∧ 0 < a.n then [hearD p q L a] else [] := by
  show (stepsAt (lineMs p q L m) (sts p q a.i a.j) q).flatMap _ = _
  rw [steps_q hq hpq]
  by_cases h : a.j < m
  · rw [if_pos h]
    simp only [List.flatMap_cons, List.flatMap_nil, List.append_nil]
    unfold stepDeed
    have e1 : rowOf (emb p q L a).q p q = List.replicate a.n L := row_pq a.n
    have e3 : (emb p q L a).st.set q ((a.j : Int) + 1) = sts p q a.i (a.j + 1) := by
      have := sts_q (q := q) hq hpq a.i a.j (a.j + 1)
      rw [← this]
      rfl
    simp only [Bool.false_eq_true, if_false, e1]
    cases hn : a.n with
    | zero =>
      rw [if_neg (by simp), if_neg (by omega)]
    | succ k =>
      rw [if_pos (by simp [List.replicate_succ]), if_pos ⟨h, by omega⟩]
      have e2 : withRow (emb p q L a).q p q ((List.replicate (k + 1) L).drop 1) = quOf p q L k := by
        rw [List.drop_replicate]
        exact with_rep a.n k
      rw [e2, e3]
      unfold hearD
      rw [hn]
      rfl
  · rw [if_neg h, if_neg (fun z => h z.1)]
    rfl
theorem two_of {α : Type} (F : Nat → List α) (hp : p < 4) (hq : q < 4) (hpq : p ≠ q) (h : ∀ r, r < 4 → r ≠ p → r ≠ q → F r = []) : (List.range 4).flatMap F = if p < q then F p ++ F q else F q ++ F p := by
  have e : (List.range 4).flatMap F = F 0 ++ (F 1 ++ (F 2 ++ F 3)) := by simp [List.range_succ]
  rw [e]
  rcases lt4 hp with rfl | rfl | rfl | rfl <;> rcases lt4 hq with rfl | rfl | rfl | rfl <;>
    first
    | exact absurd rfl hpq
    | (simp (disch := omega) [h])
end
end K53
set_option Elab.async false
set_option linter.all false
set_option maxRecDepth 20000
namespace K53
open PySem L2 MP
open PySem.W (alike dataLe dataLt)
theorem le_role {x y : Deed} (h : x.role < y.role) : dataLe false id x.d y.d = true := by
  rw [PySem.W.dataLe_eq]
  show (!dataLt y.d x.d) = true
  unfold Deed.d
  rw [PySem.W.dataLt_tuple, PySem.W.dataLt_cons (by simp [alike])]
  have e : PyData.eqv (.int y.role) (.int x.role) = false := by
    simp only [PyData.eqv]
    exact beq_eq_false_iff_ne.mpr (by omega)
  rw [e, if_neg (by decide), PySem.W.dataLt_int]
  simp
  omega
theorem sort_two {x y : Deed} (h : x.role < y.role) : sortBy Deed.d [x, y] = [x, y] := by
  unfold sortBy
  exact List.mergeSort_of_pairwise (by simp [le_role h])
section
variable {p q : Nat} {L : Int} {m : Nat}
def nextA (fl : Bool) (m room : Nat) (a : A3) : List (K3 × A3) :=
  let s := if a.i < m ∧ a.n < room then [(K3.send, (⟨a.i + 1, a.j, a.n + 1⟩ : A3))] else []
  let h := if a.j < m ∧ 0 < a.n then [(K3.hear, (⟨a.i, a.j + 1, a.n - 1⟩ : A3))] else []
  if fl then s ++ h else h ++ s
def trA (m room : Nat) (a : A3) : Option Tr :=
  if (a.i < m ∧ a.n < room) ∨ (a.j < m ∧ 0 < a.n) then none else if ¬ a.i < m ∧ ¬ a.j < m then (if 0 < a.n then some .left else none) else some .stuck
theorem deeds_line (hp : p < 4) (hq : q < 4) (hpq : p ≠ q) (room : Nat) (a : A3) : deedsAt (lineMs p q L m) (emb p q L a) room =
    if p < q then (if a.i < m ∧ a.n < room then [sendD p q L a] else []) ++ (if a.j < m ∧ 0 < a.n then [hearD p q L a] else []) else (if a.j < m ∧ 0 < a.n then [hearD p q L a] else []) ++ (if a.i < m ∧ a.n < room then [sendD p q L a] else []) := by
  unfold deedsAt
  show (List.range 4).flatMap _ = _
  rw [two_of (p := p) (q := q) _ hp hq hpq fun r hr h1 h2 => by
    show (stepsAt (lineMs p q L m) (sts p q a.i a.j) r).flatMap _ = _
    rw [steps_r hr h1 h2]
    rfl]
  rw [deed_p hp hq hpq, deed_q hp hq hpq]
theorem deedsT_line (hp : p < 4) (hq : q < 4) (hpq : p ≠ q) (room : Nat) (a : A3) : deedsT (lineMs p q L m) (emb p q L a) room = deedsAt (lineMs p q L m) (emb p q L a) room := by
  unfold deedsT
  rw [deeds_line hp hq hpq]
  have r1 : (sendD p q L a).role = p := rfl
  have r2 : (hearD p q L a).role = q := rfl
  by_cases h1 : a.i < m ∧ a.n < room
  · by_cases h2 : a.j < m ∧ 0 < a.n
    · rw [if_pos h1, if_pos h2]
      by_cases h : p < q
      · rw [if_pos h]
        exact sort_two (by rw [r1, r2]; omega)
      · rw [if_neg h]
        exact sort_two (by rw [r1, r2]; omega)
    · rw [if_pos h1, if_neg h2]
      split <;> exact sortBy_one _ _
  · by_cases h2 : a.j < m ∧ 0 < a.n
    · rw [if_neg h1, if_pos h2]
      split <;> exact sortBy_one _ _
    · rw [if_neg h1, if_neg h2]
      split <;> exact sortBy_nil _
theorem next_line (hp : p < 4) (hq : q < 4) (hpq : p ≠ q) (room : Nat) (lost : Bool) (a : A3) : nextT (lineMs p q L m) room (emb p q L a) = (nextA (decide (p < q)) m room a).map fun x => (keyOf p q L lost x.1, emb p q L x.2) := by
  unfold nextT
  rw [deedsT_line hp hq hpq, deeds_line hp hq hpq]
  unfold nextA
  have k1 : ((sendD p q L a).key, (sendD p q L a).behind) = (keyOf p q L lost .send, emb p q L ⟨a.i + 1, a.j, a.n + 1⟩) := rfl
  have k2 : ((hearD p q L a).key, (hearD p q L a).behind) = (keyOf p q L lost .hear, emb p q L ⟨a.i, a.j + 1, a.n - 1⟩) := rfl
  by_cases h1 : a.i < m ∧ a.n < room <;> by_cases h2 : a.j < m ∧ 0 < a.n <;> by_cases h : p < q <;> simp only [h1, h2, h, if_true, if_false, decide_true, decide_false, List.append_nil, List.nil_append, List.map_cons, List.map_nil, List.cons_append, k1, k2, and_self, Bool.false_eq_true]
theorem len_emb (n : Nat) : (quOf p q L n).length = if n = 0 then 0 else 1 := by
  unfold quOf
  split <;> rfl
theorem unheard_q (n j : Nat) : isUnheard [⟨j, false, p, L, j + 1⟩] (quOf p q L n) q = false := by
  unfold isUnheard
  simp only [List.map_cons, List.map_nil, setI, insI, List.any_cons, List.any_nil, Bool.or_false, row_pq]
  cases n with
  | zero => simp
  | succ n => simp [List.replicate_succ]
theorem tr_line (hp : p < 4) (hq : q < 4) (hpq : p ≠ q) (room : Nat) (a : A3) : troubleT (lineMs p q L m) (emb p q L a) room = trA m room a := by
  unfold troubleT
  have l4 : (lineMs p q L m).length = 4 := rfl
  rw [l4]
  have no : ((List.range 4).any fun r => decide (0 < (stepsAt (lineMs p q L m) (emb p q L a).st r).length) && (stepsAt (lineMs p q L m) (emb p q L a).st r).all (fun s => !s.snd) && isUnheard (stepsAt (lineMs p q L m) (emb p q L a).st r) (emb p q L a).q r) = false := by
    rw [List.any_eq_false]
    intro r hr
    rw [List.mem_range] at hr
    show ¬ (decide (0 < (stepsAt (lineMs p q L m) (sts p q a.i a.j) r).length) && (stepsAt (lineMs p q L m) (sts p q a.i a.j) r).all (fun s => !s.snd) && isUnheard (stepsAt (lineMs p q L m) (sts p q a.i a.j) r) (quOf p q L a.n) r) = true
    by_cases h1 : r = p
    · subst h1
      rw [steps_p hp]
      by_cases h : a.i < m <;> simp [h]
    · by_cases h2 : r = q
      · subst h2
        rw [steps_q hq hpq]
        by_cases h : a.j < m
        · rw [if_pos h, unheard_q]
          simp
        · simp [h]
      · rw [steps_r hr h1 h2]
        simp
  rw [no, if_neg (by decide)]
  have al : ((List.range 4).all fun r => decide ((stepsAt (lineMs p q L m) (emb p q L a).st r).length = 0)) = (decide (¬ a.i < m) && decide (¬ a.j < m)) := by
    rw [Bool.eq_iff_iff, List.all_eq_true, Bool.and_eq_true, decide_eq_true_eq, decide_eq_true_eq]
    constructor
    · intro h
      have hp' := h p (List.mem_range.mpr hp)
      have hq' := h q (List.mem_range.mpr hq)
      rw [decide_eq_true_eq] at hp' hq'
      have hp' : (stepsAt (lineMs p q L m) (sts p q a.i a.j) p).length = 0 := hp'
      have hq' : (stepsAt (lineMs p q L m) (sts p q a.i a.j) q).length = 0 := hq'
      rw [steps_p hp] at hp'
      rw [steps_q hq hpq] at hq'
      refine ⟨fun z => ?_, fun z => ?_⟩
      · rw [if_pos z] at hp'; simp at hp'
      · rw [if_pos z] at hq'; simp at hq'
    · rintro ⟨h1, h2⟩ r hr
      rw [List.mem_range] at hr
      rw [decide_eq_true_eq]
      show (stepsAt (lineMs p q L m) (sts p q a.i a.j) r).length = 0
      by_cases e1 : r = p
      · subst e1; rw [steps_p hp, if_neg h1]; rfl
      · by_cases e2 : r = q
        · subst e2; rw [steps_q hq hpq, if_neg h2]; rfl
        · rw [steps_r hr e1 e2]; rfl
  rw [al]
  have ql : (emb p q L a).q.length = if a.n = 0 then 0 else 1 := len_emb a.n
  have dl : 0 < (deedsAt (lineMs p q L m) (emb p q L a) room).length ↔ ((a.i < m ∧ a.n < room) ∨ (a.j < m ∧ 0 < a.n)) := by
    rw [deeds_line hp hq hpq]
    by_cases h1 : a.i < m ∧ a.n < room <;> by_cases h2 : a.j < m ∧ 0 < a.n <;> by_cases h : p < q <;> simp [h1, h2, h]
  unfold trA
  by_cases hd : (a.i < m ∧ a.n < room) ∨ (a.j < m ∧ 0 < a.n)
  · rw [if_pos (dl.mpr hd), if_pos hd]
  · rw [if_neg (fun z => hd (dl.mp z)), if_neg hd]
    by_cases ho : ¬ a.i < m ∧ ¬ a.j < m
    · rw [if_pos ho, if_pos (by rw [decide_eq_true ho.1, decide_eq_true ho.2]; rfl)]
      by_cases hn : a.n = 0
      · rw [ql, if_pos hn, if_neg (by omega), if_neg (by omega)]
      · rw [ql, if_neg hn, if_pos (by omega), if_pos (by omega)]
    · rw [if_neg ho, if_neg (fun z => ho (by simpa using z))]
end
end K53
set_option Elab.async false
set_option linter.all false
set_option maxRecDepth 20000
namespace K53
open PySem L2 MP
/-! What the searches over a line tell. -/
def nextLA (fl : Bool) (m room : Nat) (lost : Bool) (x : A4) : List (K3 × A4) :=
  (nextA fl m room x.a).map (fun y => (y.1, (⟨y.2, x.s⟩ : A4))) ++ (if x.s = 0 ∧ 0 < x.a.n then [(K3.bad, (⟨⟨x.a.i, x.a.j, if lost then x.a.n - 1 else x.a.n + 1⟩, 1⟩ : A4))] else [])
def dlt (lost : Bool) : K3 → Int
  | .send => 1
  | .hear => -1
  | .bad => if lost then -1 else 1
def net : Bool → List K3 → Int → Option Int
  | _, [], v => some v
  | lost, k :: r, v => if v + dlt lost k < 0 then none else net lost r (v + dlt lost k)
def more (lost : Bool) : Nat := if lost then 0 else 1
def chk0 (r : Option (Option (Tr × List K3) × List A3)) : Bool := match r with
  | some (none, _) => true
  | _ => false
def chkL (m : Nat) (lost : Bool) (r : Option (Option (Tr × List K3) × List A4)) : Bool := match r with
  | some (none, _) => decide (m = 0)
  | some (some (t, w), _) => decide (m ≠ 0) && decide (t = if lost then .stuck else .left) && decide (w.length = 2 * m + more lost) && decide (w.count .bad = 1) && decide (w.count .send = m) && decide (w.count .hear + 1 = m + more lost) && decide (net lost w 0 = some (more lost))
  | none => false
theorem all0 : ∀ m, m < 5 → ∀ d, d < 3 → ∀ fl : Bool, chk0 (bfsRun (trA m (m + 1 + d)) (nextA fl m (m + 1 + d)) 4000 [⟨0, 0, 0⟩] [[]] 0) = true := by decide +kernel
theorem allL : ∀ m, m < 5 → ∀ d, d < 3 → ∀ fl lost : Bool, chkL m lost (bfsRun (fun x : A4 => trA m (m + 1 + d) x.a) (nextLA fl m (m + 1 + d) lost) 4000 [⟨⟨0, 0, 0⟩, 0⟩] [[]] 0) = true := by decide +kernel
section
variable {p q : Nat} {L : Int} {m : Nat}
theorem emb_inj (hp : p < 4) (hq : q < 4) (hpq : p ≠ q) (a b : A3) (h : emb p q L a = emb p q L b) : a = b := by
  have h1 : sts p q a.i a.j = sts p q b.i b.j := congrArg Here.st h
  have h2 : quOf p q L a.n = quOf p q L b.n := congrArg Here.q h
  have e1 := sAt_line (p := p) (q := q) (i := a.i) (j := a.j) hp
  have e2 := sAt_line (p := p) (q := q) (i := b.i) (j := b.j) hp
  have e3 := sAt_line (p := p) (q := q) (i := a.i) (j := a.j) hq
  have e4 := sAt_line (p := p) (q := q) (i := b.i) (j := b.j) hq
  rw [h1] at e1 e3
  rw [e1] at e2
  rw [e3] at e4
  simp [stOf] at e2
  simp [stOf, Ne.symm hpq] at e4
  have r := congrArg (fun z => (rowOf z p q).length) h2
  simp only [row_pq, List.length_replicate] at r
  cases a; cases b
  simp only [A3.mk.injEq]
  dsimp only at e2 e4 r
  omega
theorem wf_line (hm : m ≤ 60) (room : Int) (a : A3) (hn : a.n ≤ 1000) : WF (lineMs p q L m) room (emb p q L a) where
  len := rfl
  few := by show 4 ≤ 1000; omega
  steps := fun x hx => by
    have go : ∀ r, (machine p q L m r).2.length ≤ 60 := fun r => by
      unfold machine
      split
      · simpa [sendM] using hm
      · split
        · simpa [hearM] using hm
        · simp
    simp only [lineMs, List.mem_cons, List.not_mem_nil, or_false] at hx
    rcases hx with rfl | rfl | rfl | rfl <;> exact go _
  qs := by
    show (quOf p q L a.n).length ≤ 100
    rw [len_emb]
    split <;> omega
  rows := fun e he => by
    have he : e ∈ quOf p q L a.n := he
    unfold quOf at he
    split at he
    · cases he
    · rw [List.mem_singleton] at he
      subst he
      show (List.replicate a.n L).length ≤ 1000
      rw [List.length_replicate]
      exact hn
theorem here0_line : here0 (lineMs p q L m) = emb p q L ⟨0, 0, 0⟩ := by
  show (⟨[0, 0, 0, 0], []⟩ : Here) = ⟨sts p q 0 0, []⟩
  congr 1
  simp [sts, stOf]
def P3 (m : Nat) (a : A3) : Prop := a.j + a.n = a.i ∧ a.i ≤ m
theorem P3_next {fl : Bool} {room : Nat} (a : A3) (h : P3 m a) : ∀ x ∈ nextA fl m room a, P3 m x.2 := by
  intro x hx
  unfold P3 at h ⊢
  have hs : x ∈ (if a.i < m ∧ a.n < room then [(K3.send, (⟨a.i + 1, a.j, a.n + 1⟩ : A3))] else []) ∨ x ∈ (if a.j < m ∧ 0 < a.n then [(K3.hear, (⟨a.i, a.j + 1, a.n - 1⟩ : A3))] else []) := by
    unfold nextA at hx
    simp only at hx
    split at hx
    · exact List.mem_append.mp hx
    · exact (List.mem_append.mp hx).symm
  rcases hs with hs | hs
  · split at hs
    · rename_i hc
      rw [List.mem_singleton] at hs
      subst hs
      dsimp only
      omega
    · cases hs
  · split at hs
    · rename_i hc
      rw [List.mem_singleton] at hs
      subst hs
      dsimp only
      omega
    · cases hs
theorem calm_line (hp : p < 4) (hq : q < 4) (hpq : p ≠ q) (hm : m < 5) {d : Nat} (hd : d < 3) (n : Nat) (S : Store) : callN tbl (n + 5) 24 [.d (msD (lineMs p q L m)), .d (.int ((m + 1 + d : Nat) : Int))] S = some (.d .none, S) := by
  have hc := all0 m hm d hd (decide (p < q))
  have hb := bfs_map (f := emb p q L) (g := keyOf p q L false) (emb_inj hp hq hpq) (P := P3 m) (tr := fun h => troubleT (lineMs p q L m) h ((m + 1 + d : Nat) : Int)) (nx := nextT (lineMs p q L m) ((m + 1 + d : Nat) : Int)) (trA := trA m (m + 1 + d)) (nxA := nextA (decide (p < q)) m (m + 1 + d))
    (fun x _ => tr_line hp hq hpq _ x) (fun x _ => next_line hp hq hpq _ false x) (fun x hx => P3_next x hx) 4000 [⟨0, 0, 0⟩] [[]] 0 (fun x hx => by rw [List.mem_singleton] at hx; subst hx; exact ⟨rfl, Nat.zero_le _⟩)
  rw [List.map_singleton, List.map_singleton, List.map_nil, ← here0_line (m := m)] at hb
  generalize bfsRun (trA m (m + 1 + d)) (nextA (decide (p < q)) m (m + 1 + d)) 4000 [⟨0, 0, 0⟩] [[]] 0 = R at hb hc
  unfold chk0 at hc
  split at hc
  · rename_i fin
    refine trouble_none n (P := fun h => ∃ a, P3 m a ∧ h = emb p q L a) (fun x ⟨a, pa, e⟩ => ?_) (fun x ⟨a, pa, e⟩ y hy => ?_) ⟨⟨0, 0, 0⟩, ⟨rfl, Nat.zero_le _⟩, here0_line⟩ S (fin := fin.map (emb p q L)) hb
    · subst e
      exact wf_line (by omega) _ a (by unfold P3 at pa; omega)
    · subst e
      rw [next_line hp hq hpq _ false a] at hy
      obtain ⟨z, hz, rfl⟩ := List.mem_map.mp hy
      exact ⟨z.2, P3_next a pa z hz, rfl⟩
  · cases hc
/-! losses -/
theorem spl_line (lost : Bool) (a : A3) : splT lost (emb p q L a) = if 0 < a.n then [⟨p, q, emb p q L ⟨a.i, a.j, if lost then a.n - 1 else a.n + 1⟩⟩] else [] := by
  unfold splT splAt
  show sortBy Spl.d ((quOf p q L a.n).map _) = _
  cases hn : a.n with
  | zero =>
    show sortBy Spl.d [] = _
    rw [if_neg (by omega)]
    exact sortBy_nil _
  | succ k =>
    have e : quOf p q L (k + 1) = [⟨p, q, List.replicate (k + 1) L⟩] := by unfold quOf; rw [if_neg (by omega)]
    have r : rowOf (emb p q L a).q p q = List.replicate (k + 1) L := by
      show rowOf (quOf p q L a.n) p q = _
      rw [hn]
      exact row_pq _
    rw [e, if_pos (by omega), List.map_singleton, sortBy_one]
    have hq' : (emb p q L a).q = quOf p q L a.n := rfl
    simp only [r]
    cases lost with
    | true =>
      simp only [if_true]
      rw [List.drop_replicate, hq', with_rep]
      rfl
    | false =>
      simp only [Bool.false_eq_true, if_false]
      rw [List.take_replicate, List.replicate_append_replicate, hq', with_rep]
      have e3 : min 1 (k + 1) + (k + 1) = k + 1 + 1 := by omega
      rw [e3]
      rfl
theorem nextL_line (hp : p < 4) (hq : q < 4) (hpq : p ≠ q) (room : Nat) (lost : Bool) (x : A4) : nextL (lineMs p q L m) room lost (embS p q L x) = (nextLA (decide (p < q)) m room lost x).map fun y => (keyOf p q L lost y.1, embS p q L y.2) := by
  unfold nextL nextLA
  have e1 : (deedsT (lineMs p q L m) (emb p q L x.a) room).map (fun d => (d.key, (⟨d.behind, (x.s : Int)⟩ : HereS))) = ((nextA (decide (p < q)) m room x.a).map fun y => (y.1, (⟨y.2, x.s⟩ : A4))).map fun y => (keyOf p q L lost y.1, embS p q L y.2) := by
    have e := next_line (m := m) (L := L) hp hq hpq room lost x.a
    unfold nextT at e
    have e' := congrArg (List.map fun (z : DKey × Here) => (z.1, (⟨z.2, (x.s : Int)⟩ : HereS))) e
    rw [List.map_map, List.map_map] at e'
    rw [List.map_map]
    exact e'
  show (deedsT (lineMs p q L m) (emb p q L x.a) room).map (fun d => (d.key, (⟨d.behind, (x.s : Int)⟩ : HereS))) ++ (if (x.s : Int) = 0 then (splT lost (emb p q L x.a)).map (fun p => ((⟨p.a, lossW lost, p.b, 0⟩ : DKey), (⟨p.h, 1⟩ : HereS))) else []) = _
  rw [e1, List.map_append, spl_line]
  congr 1
  by_cases hs : x.s = 0
  · by_cases hn : 0 < x.a.n
    · have c0 : (x.s : Int) = 0 := by omega
      have c : x.s = 0 ∧ 0 < x.a.n := ⟨hs, hn⟩
      rw [if_pos c0, if_pos hn, if_pos c]
      rfl
    · have c0 : (x.s : Int) = 0 := by omega
      have c : ¬ (x.s = 0 ∧ 0 < x.a.n) := fun z => hn z.2
      rw [if_pos c0, if_neg hn, if_neg c]
      rfl
  · have c0 : ¬ (x.s : Int) = 0 := by omega
    have c : ¬ (x.s = 0 ∧ 0 < x.a.n) := fun z => hs z.1
    rw [if_neg c0, if_neg c]
    rfl
theorem embS_inj (hp : p < 4) (hq : q < 4) (hpq : p ≠ q) (a b : A4) (h : embS p q L a = embS p q L b) : a = b := by
  have h1 := emb_inj hp hq hpq a.a b.a (congrArg HereS.h h)
  have h2 : (a.s : Int) = (b.s : Int) := congrArg HereS.s h
  cases a; cases b
  simp only [A4.mk.injEq]
  dsimp only at h1 h2
  exact ⟨h1, by omega⟩
def P4 (m : Nat) (x : A4) : Prop := x.a.i ≤ m ∧ x.a.n + x.a.j ≤ x.a.i + x.s ∧ x.s ≤ 1
theorem P4_next {fl : Bool} {room : Nat} {lost : Bool} (x : A4) (h : P4 m x) : ∀ y ∈ nextLA fl m room lost x, P4 m y.2 := by
  intro y hy
  unfold P4 at h ⊢
  unfold nextLA at hy
  rcases List.mem_append.mp hy with hy | hy
  · obtain ⟨z, hz, rfl⟩ := List.mem_map.mp hy
    dsimp only
    have hs : z ∈ (if x.a.i < m ∧ x.a.n < room then [(K3.send, (⟨x.a.i + 1, x.a.j, x.a.n + 1⟩ : A3))] else []) ∨ z ∈ (if x.a.j < m ∧ 0 < x.a.n then [(K3.hear, (⟨x.a.i, x.a.j + 1, x.a.n - 1⟩ : A3))] else []) := by
      unfold nextA at hz
      simp only at hz
      split at hz
      · exact List.mem_append.mp hz
      · exact (List.mem_append.mp hz).symm
    rcases hs with hs | hs
    · split at hs
      · rw [List.mem_singleton] at hs
        subst hs
        dsimp only
        omega
      · cases hs
    · split at hs
      · rw [List.mem_singleton] at hs
        subst hs
        dsimp only
        omega
      · cases hs
  · split at hy
    · rw [List.mem_singleton] at hy
      subst hy
      dsimp only
      cases lost
      · rw [if_neg (by decide)]; omega
      · rw [if_pos rfl]; omega
    · cases hy
/-- the way that a loss leads to trouble, told by abstract words -/
theorem loss_line (hp : p < 4) (hq : q < 4) (hpq : p ≠ q) (hm : m < 5) {d : Nat} (hd : d < 3) (lost : Bool) (n : Nat) (S : Store) :
    ∃ res : Option (Tr × List K3), (match res with
      | none => decide (m = 0)
      | some (t, w) => decide (m ≠ 0) && decide (t = if lost then .stuck else .left) && decide (w.length = 2 * m + more lost) && decide (w.count .bad = 1) && decide (w.count .send = m) && decide (w.count .hear + 1 = m + more lost) && decide (net lost w 0 = some (more lost))) = true ∧
      callN tbl (n + 4) 26 [.d (msD (lineMs p q L m)), .d (.int ((m + 1 + d : Nat) : Int)), .d (.str (lossW lost))] S = some (.d (match res with | none => .none | some (t, w) => .tuple [t.d, wayD (w.map (keyOf p q L lost))]), S) ∧
      callN tbl (n + 5) 27 [.d (msD (lineMs p q L m)), .d (.int ((m + 1 + d : Nat) : Int)), .d (.str (lossW lost))] S = some (.d (.bool res.isNone), S) := by
  have hc := allL m hm d hd (decide (p < q)) lost
  have hb := bfs_map (f := embS p q L) (g := keyOf p q L lost) (embS_inj hp hq hpq) (P := P4 m) (tr := fun h => troubleT (lineMs p q L m) h.h ((m + 1 + d : Nat) : Int)) (nx := nextL (lineMs p q L m) ((m + 1 + d : Nat) : Int) lost) (trA := fun x : A4 => trA m (m + 1 + d) x.a) (nxA := nextLA (decide (p < q)) m (m + 1 + d) lost)
    (fun x _ => tr_line hp hq hpq _ x.a) (fun x _ => nextL_line hp hq hpq _ lost x) (fun x hx => P4_next x hx) 4000 [⟨⟨0, 0, 0⟩, 0⟩] [[]] 0 (fun x hx => by rw [List.mem_singleton] at hx; subst hx; exact ⟨Nat.zero_le _, Nat.zero_le _, Nat.zero_le _⟩)
  have h0 : embS p q L ⟨⟨0, 0, 0⟩, 0⟩ = ⟨here0 (lineMs p q L m), 0⟩ := by
    show (⟨emb p q L ⟨0, 0, 0⟩, ((0 : Nat) : Int)⟩ : HereS) = _
    rw [here0_line]
    rfl
  rw [List.map_singleton, List.map_singleton, List.map_nil, h0] at hb
  generalize bfsRun (fun x : A4 => trA m (m + 1 + d) x.a) (nextLA (decide (p < q)) m (m + 1 + d) lost) 4000 [⟨⟨0, 0, 0⟩, 0⟩] [[]] 0 = R at hb hc
  cases R with
  | none => cases hc
  | some rf =>
    obtain ⟨res, fin⟩ := rf
    have hW : ∀ x, (∃ a, P4 m a ∧ x = embS p q L a) → WF (lineMs p q L m) ((m + 1 + d : Nat) : Int) x.h := fun x ⟨a, pa, e⟩ => by
      subst e
      exact wf_line (by omega) _ a.a (by unfold P4 at pa; omega)
    have hP : ∀ x, (∃ a, P4 m a ∧ x = embS p q L a) → ∀ y ∈ nextL (lineMs p q L m) ((m + 1 + d : Nat) : Int) lost x, ∃ a, P4 m a ∧ y.2 = embS p q L a := fun x ⟨a, pa, e⟩ y hy => by
      subst e
      rw [nextL_line hp hq hpq] at hy
      obtain ⟨z, hz, rfl⟩ := List.mem_map.mp hy
      exact ⟨z.2, P4_next a pa z hz, rfl⟩
    have hs : ∃ a, P4 m a ∧ (⟨here0 (lineMs p q L m), 0⟩ : HereS) = embS p q L a := ⟨⟨⟨0, 0, 0⟩, 0⟩, ⟨Nat.zero_le _, Nat.zero_le _, Nat.zero_le _⟩, h0.symm⟩
    have l1 := losses n hW hP hs S hb
    have l2 := bears_ n hW hP hs S hb
    refine ⟨res, ?_, ?_, ?_⟩
    · cases res with
      | none => exact hc
      | some tw => exact hc
    · rw [l1]
      cases res with
      | none => rfl
      | some tw => rfl
    · rw [l2]
      cases res with
      | none => rfl
      | some tw => rfl
end
end K53
set_option Elab.async false
set_option linter.all false
set_option maxRecDepth 20000
namespace K53
open PySem L2 MP
/-! The line's talk, its parts, their machines. -/
theorem st_eq {a b : Str} {c : Bool} (h : decide (a = b) = c) : opEq (.str a) (.str b) = some (.bool c) := by rw [eq_str, h]
theorem st_ne {a b : Str} {c : Bool} (h : decide (a = b) = c) : opNe (.str a) (.str b) = some (.bool !c) := by
  subst h
  simp [opNe, okD, PyData.depth, PyData.eqv]
  rfl
theorem e1 : opEq (.str "end") (.str "say") = some (.bool false) := st_eq (by decide)
theorem e2 : opEq (.str "end") (.str "beside") = some (.bool false) := st_eq (by decide)
theorem e3 : opEq (.str "end") (.str "loop") = some (.bool false) := st_eq (by decide)
theorem e4 : opEq (.str "say") (.str "say") = some (.bool true) := st_eq (by decide)
theorem e5 : opEq (.str "say") (.str "beside") = some (.bool false) := st_eq (by decide)
theorem e6 : opEq (.str "say") (.str "loop") = some (.bool false) := st_eq (by decide)
theorem e7 : opEq (.str "send") (.str "loop") = some (.bool false) := st_eq (by decide)
theorem e8 : opEq (.str "hear") (.str "loop") = some (.bool false) := st_eq (by decide)
theorem e9 : opNe (.str "end") (.str "end") = some (.bool false) := st_ne (c := true) (by decide)
theorem e10 : opNe (.str "send") (.str "end") = some (.bool true) := st_ne (c := false) (by decide)
theorem e11 : opNe (.str "hear") (.str "end") = some (.bool true) := st_ne (c := false) (by decide)
theorem in_of {x : D} {ds : List D} {c : Bool} (h : (ds.any fun z => PyData.eqv z x) = c) (k : okD x = true) : opIn x (.tuple ds) = some (.bool c) := by
  show (if okD x = true then some (PyData.bool (ds.any fun z => PyData.eqv z x)) else none) = _
  rw [h, k]
  rfl
theorem i1 : opIn (.str "end") (.tuple [.str "end", .str "again"]) = some (.bool true) := in_of (by decide +kernel) (by simp [okD, PyData.depth])
theorem i2 : opIn (.str "say") (.tuple [.str "end", .str "again"]) = some (.bool false) := in_of (by decide +kernel) (by simp [okD, PyData.depth])
section
variable (p q : Nat) (L : Int)
def talkD : Nat → D
  | 0 => .tuple [.str "end"]
  | k + 1 => .tuple [.str "say", .int p, .int q, .tuple [.tuple [.int L, talkD k]]]
/-- the part of the role r -/
def partD (r : Nat) : Nat → D
  | 0 => .tuple [.str "end"]
  | k + 1 => if r = p then .tuple [.str "send", .int q, .tuple [.tuple [.int L, partD r k]]] else if r = q then .tuple [.str "hear", .int p, .tuple [.tuple [.int L, partD r k]]] else partD r k
end
variable {p q : Nat} {L : Int}
theorem talk_tup (k : Nat) : ∃ ds, talkD p q L k = .tuple ds := by cases k <;> exact ⟨_, rfl⟩
theorem part_tup (r : Nat) : ∀ k : Nat, ∃ ds, partD p q L r k = .tuple ds
  | 0 => ⟨_, rfl⟩
  | k + 1 => by
    unfold partD
    split
    · exact ⟨_, rfl⟩
    · split
      · exact ⟨_, rfl⟩
      · exact part_tup r k
theorem line_of (n m : Nat) (S : Store) : callN tbl (n + 1) 5 [.d (.int p), .d (.int q), .d (.list (List.replicate m (.int L))), .d (.tuple [.str "end"])] S = some (.d (talkD p q L m), S) := by
  rw [call__law_line_of]
  unfold b__law_line_of runFn
  obtain ⟨ρ2, e, j4, rfl⟩ := forRun_ix (t := .n 4) (b := l0__law_line_of (callN tbl n)) (S := S) (fun (x : D) => x) (fun k ρ => ∃ j4, ρ = [some (.d (.int p)), some (.d (.int q)), some (.d (.list (List.replicate m (.int L)))), some (.d (talkD p q L k)), j4])
    (List.replicate m (PyData.int L)) 0 [some (.d (.int p)), some (.d (.int q)), some (.d (.list (List.replicate m (.int L)))), some (.d (talkD p q L 0)), none] ⟨none, rfl⟩ (fun k a ρ hk ⟨j4, hρ⟩ => by
      subst hρ
      have ha : a = PyData.int L := List.eq_of_mem_replicate (List.mem_of_getElem? hk)
      subst ha
      refine ⟨_, _, rfl, .inl ?_, some (.d (.int L)), rfl⟩
      unfold l0__law_line_of
      simp [talkD])
  rw [List.map_id', Nat.zero_add, List.length_replicate] at e
  simp only [talkD] at e
  simp [start0, e]
theorem size_of : ∀ (k n : Nat) (S : Store), ∃ z : Int, callN tbl (n + k + 1) 10 [.d (talkD p q L k)] S = some (.d (.int z), S)
  | 0, n, S => by
    refine ⟨1, ?_⟩
    rw [call_size_of]
    unfold b_size_of runFn
    simp [start0, talkD, L2.atI, ixN, e1, e2, e3]
  | k + 1, n, S => by
    obtain ⟨z, hz⟩ := size_of k n S
    refine ⟨1 + z, ?_⟩
    rw [call_size_of]
    unfold b_size_of runFn
    have hz : callN tbl (n + (k + 1)) 10 [.d (talkD p q L k)] S = some (.d (.int z), S) := hz
    simp [start0, talkD, L2.atI, ixN, e4, compRun, hz, intsD]
theorem fr0 {t : Tg} {b : SMean} {ρ : MP.Env} {S : Store} : forRun t b [] ρ S = some (.nx ρ S) := rfl
/-- a parter of the role r at a -/
def PAt (S : Store) (a r : Nat) : Prop := S[a]? = some (.inst 0 [.d (.int r), .d .none])
theorem part (hp : p < 4) (hq : q < 4) (hpq : p ≠ q) {r : Nat} {a : Nat} : ∀ (k n : Nat) (z : Int) (S : Store), PAt S a r → callN tbl (n + 2 * k + 2) 8 [.obj a, .d (talkD p q L k), .d (.int z)] S = some (.d (partD p q L r k), S)
  | 0, n, z, S, hS => by
    rw [call_Parter_part]
    unfold b_Parter_part runFn
    simp [start0, talkD, partD, L2.atI, ixN, i1]
  | k + 1, n, z, S, hS => by
    have ih := part hp hq hpq k n (z + 1) S hS
    have e0 : n + 2 * (k + 1) + 2 = n + 2 * k + 2 + 1 + 1 := by omega
    rw [e0, call_Parter_part]
    unfold b_Parter_part runFn
    obtain ⟨w, hw⟩ := size_of (p := p) (q := q) (L := L) k (n + k + 1) S
    have hw : callN tbl (n + 2 * k + 2) 10 [.d (talkD p q L k)] S = some (.d (.int w), S) := by
      rw [show n + 2 * k + 2 = n + k + 1 + k + 1 by omega]
      exact hw
    obtain ⟨ds, hds⟩ := part_tup (p := p) (q := q) (L := L) r k
    have hn : isN (partD p q L r k) = false := by rw [hds]; rfl
    have hS' : S[a]? = some (.inst 0 [.d (.int r), .d .none]) := hS
    have os : callN tbl (n + 2 * k + 2 + 1) 9 [.obj a, .d (talkD p q L (k + 1)), .d (.int z)] S = some (.d (partD p q L r (k + 1)), S) := by
      rw [call_Parter_of_saying]
      unfold b_Parter_of_saying runFn
      have lp : forRun (.t [5, 6]) (l0_Parter_of_saying (callN tbl (n + 2 * k + 2))) [.tuple [.int L, talkD p q L k]] [some (.obj a), some (.d (talkD p q L (k + 1))), some (.d (.int (z + 1))), some (.d (.int z)), some (.d (.list [])), none, none, none, none, none] S =
          some (.nx [some (.obj a), some (.d (talkD p q L (k + 1))), some (.d (.int (z + 1 + w))), some (.d (.int z)), some (.d (.list [.tuple [.int L, partD p q L r k]])), some (.d (.int L)), some (.d (talkD p q L k)), none, none, none] S) := by
        unfold forRun l0_Parter_of_saying
        simp [hS', ih, hw, forRun]
      have cr : compRun (.t [8, 9]) (eC (.bool true)) (eBin opIs (eVar 9) (eC .none)) [some (.obj a), some (.d (talkD p q L (k + 1))), some (.d (.int (z + 1 + w))), some (.d (.int z)), some (.d (.list [.tuple [.int L, partD p q L r k]])), some (.d (.int L)), some (.d (talkD p q L k)), none, none, none] [.tuple [.int L, partD p q L r k]] S = some ([.bool false], S) := by
        simp [compRun, hn]
      simp only [talkD] at lp cr ⊢
      by_cases h1 : r = p
      · subst h1
        simp [start0, L2.atI, ixN, lp, cr, boolsD, hS', eq_int, partD]
      · have h1' : ¬ (r : Int) = (p : Int) := by omega
        by_cases h2 : r = q
        · subst h2
          simp [start0, L2.atI, ixN, lp, cr, boolsD, hS', eq_int, partD, h1, h1']
        · have h2' : ¬ (r : Int) = (q : Int) := by omega
          have c1 : opSl (.d (.list [.tuple [.int L, partD p q L r k]])) (some 1) none = some (.list []) := by
            rw [x_slL, show (1 : Int) = ((1 : Nat) : Int) from rfl, cut_from]
            rfl
          simp [-x_slL, start0, L2.atI, ixN, lp, cr, boolsD, hS', eq_int, partD, h1, h1', h2, h2', c1, fr0, hn]
    simp only [talkD] at os ⊢
    simp [start0, L2.atI, ixN, i2, e6, e5, hS', os]
theorem parted_ (hp : p < 4) (hq : q < 4) (hpq : p ≠ q) (r k n : Nat) (S : Store) : callN tbl (n + 2 * k + 3) 11 [.d (talkD p q L k), .d (.int r)] S = some (.d (.tuple [partD p q L r k, .none]), S ++ [.inst 0 [.d (.int r), .d .none]]) := by
  rw [call_parted]
  unfold b_parted runFn
  have hg : PAt (S ++ [Ob.inst 0 [.d (.int r), .d .none]]) S.length r := by
    unfold PAt
    rw [List.getElem?_append_right (Nat.le_refl _), Nat.sub_self]; rfl
  have pt := part hp hq hpq (L := L) k n 0 _ hg
  have ini : callN tbl (n + 2 * k + 2) 7 [.obj S.length, .d (.int r)] (S ++ [.inst 0 []]) = some (.d .none, S ++ [.inst 0 [.d (.int r), .d .none]]) := by
    rw [call_Parter_init]
    unfold b_Parter_init runFn
    have g0 : (S ++ [Ob.inst 0 []])[S.length]? = some (.inst 0 []) := by
      rw [List.getElem?_append_right (Nat.le_refl _), Nat.sub_self]; rfl
    have s0 : ∀ x y : Ob, (S ++ [x]).set S.length y = S ++ [y] := fun x y => by
      rw [List.set_append_right _ _ (Nat.le_refl _), Nat.sub_self]; rfl
    have g1 : (S ++ [Ob.inst 0 [.d (.int r)]])[S.length]? = some (.inst 0 [.d (.int r)]) := by
      rw [List.getElem?_append_right (Nat.le_refl _), Nat.sub_self]; rfl
    simp only [x_seq, sFldSet, x_var, start0, x_c]
    simp [MP.putAt, s0]
  have hg' : ∀ x : Ob, (S ++ [x])[S.length]? = some x := fun x => by
    rw [List.getElem?_append_right (Nat.le_refl _), Nat.sub_self]; rfl
  simp [start0, ini, pt]
theorem parts_ (hp : p < 4) (hq : q < 4) (hpq : p ≠ q) (k n : Nat) (S : Store) : callN tbl (n + 2 * k + 4) 12 [.d (talkD p q L k)] S = some (.d (.list [partD p q L 0 k, partD p q L 1 k, partD p q L 2 k, partD p q L 3 k]), S ++ [.inst 0 [.d (.int 0), .d .none]] ++ [.inst 0 [.d (.int 1), .d .none]] ++ [.inst 0 [.d (.int 2), .d .none]] ++ [.inst 0 [.d (.int 3), .d .none]]) := by
  rw [call_parts]
  unfold b_parts runFn
  have nn : ∀ r, isN (partD p q L r k) = false := fun r => by
    obtain ⟨ds, hds⟩ := part_tup (p := p) (q := q) (L := L) r k
    rw [hds]; rfl
  have up : upFrom 0 4 = [PyData.int 0, PyData.int 1, PyData.int 2, PyData.int 3] := by rw [upFrom_range]; rfl
  have p0 : ∀ S : Store, callN tbl (n + 2 * k + 3) 11 [.d (talkD p q L k), .d (.int 0)] S = some (.d (.tuple [partD p q L 0 k, .none]), S ++ [.inst 0 [.d (.int 0), .d .none]]) := fun S => parted_ hp hq hpq (L := L) 0 k n S
  have p1 : ∀ S : Store, callN tbl (n + 2 * k + 3) 11 [.d (talkD p q L k), .d (.int 1)] S = some (.d (.tuple [partD p q L 1 k, .none]), S ++ [.inst 0 [.d (.int 1), .d .none]]) := fun S => parted_ hp hq hpq (L := L) 1 k n S
  have p2 : ∀ S : Store, callN tbl (n + 2 * k + 3) 11 [.d (talkD p q L k), .d (.int 2)] S = some (.d (.tuple [partD p q L 2 k, .none]), S ++ [.inst 0 [.d (.int 2), .d .none]]) := fun S => parted_ hp hq hpq (L := L) 2 k n S
  have p3 : ∀ S : Store, callN tbl (n + 2 * k + 3) 11 [.d (talkD p q L k), .d (.int 3)] S = some (.d (.tuple [partD p q L 3 k, .none]), S ++ [.inst 0 [.d (.int 3), .d .none]]) := fun S => parted_ hp hq hpq (L := L) 3 k n S
  simp [start0, up, compRun, p0, p1, p2, p3, L2.atI, ixN, nn, boolsD]
end K53
set_option Elab.async false
set_option linter.all false
set_option maxRecDepth 20000
namespace K53
open PySem L2 MP
open PySem.W (alike dataLe dataLt)
/-! The machine of a part. -/
def chain (b : Bool) (o : Nat) (L : Int) : Nat → D
  | 0 => .tuple [.str "end"]
  | k + 1 => .tuple [wD b, .int o, .tuple [.tuple [.int L, chain b o L k]]]
section
variable {p q : Nat} {L : Int} {b : Bool} {o : Nat}
theorem part_p : ∀ k, partD p q L p k = chain true q L k
  | 0 => rfl
  | k + 1 => by
    unfold partD chain
    rw [if_pos rfl, part_p k]
    rfl
theorem part_q (hpq : p ≠ q) : ∀ k, partD p q L q k = chain false p L k
  | 0 => rfl
  | k + 1 => by
    unfold partD chain
    rw [if_neg (Ne.symm hpq), if_pos rfl, part_q hpq k]
    rfl
theorem part_r {r : Nat} (h1 : r ≠ p) (h2 : r ≠ q) : ∀ k, partD p q L r k = chain true 0 L 0
  | 0 => rfl
  | k + 1 => by
    unfold partD
    rw [if_neg h1, if_neg h2]
    exact part_r h1 h2 k
theorem chain_pd : ∀ k, pd (chain b o L k) = true
  | 0 => rfl
  | k + 1 => by
    unfold chain
    simp [pd, pds, wD, chain_pd k]
theorem chain_dp : ∀ k, (chain b o L k).depth ≤ 2 * k + 1 + k
  | 0 => by simp [chain, PyData.depth, PyData.depthAll]
  | k + 1 => by
    have := chain_dp k
    unfold chain
    simp only [PyData.depth, PyData.depthAll, wD]
    omega
theorem chain_inj : ∀ {k l : Nat}, chain b o L k = chain b o L l → k = l
  | 0, 0, _ => rfl
  | 0, l + 1, h => by simp [chain] at h
  | k + 1, 0, h => by simp [chain] at h
  | k + 1, l + 1, h => by
    simp only [chain, PyData.tuple.injEq, List.cons.injEq, and_true, true_and] at h
    rw [chain_inj h]
theorem opened_ (n k : Nat) (S : Store) : callN tbl (n + 1) 13 [.d (chain b o L k)] S = some (.d (chain b o L k), S) := by
  rw [call_opened]
  unfold b_opened runFn
  cases k with
  | zero => simp [start0, chain, sWhile, whileRun, L2.atI, ixN, e3]
  | succ k => cases b <;> simp [start0, chain, sWhile, whileRun, L2.atI, ixN, wD, e7, e8]
def fnd (b : Bool) (o : Nat) (L : Int) (m i : Nat) : List D := (List.range (i + 1)).map fun t => chain b o L (m - t)
def stp (b : Bool) (o : Nat) (L : Int) (i : Nat) : List MP.Step := (List.range i).map fun (t : Nat) => (⟨t, b, o, L, t + 1⟩ : MP.Step)
def menv (b : Bool) (o : Nat) (L : Int) (m i at_ : Nat) (j4 j5 j6 : Option Val) : MP.Env :=
  [some (.d (chain b o L m)), some (.d (.list (fnd b o L m i))), some (.d (.list ((stp b o L i).map MP.Step.d))), some (.d (.int at_)), j4, j5, j6]
theorem fnd_succ (m i : Nat) : fnd b o L m (i + 1) = fnd b o L m i ++ [chain b o L (m - (i + 1))] := by
  unfold fnd
  rw [List.range_succ, List.map_append]
  rfl
theorem stp_succ (i : Nat) : stp b o L (i + 1) = stp b o L i ++ [⟨i, b, o, L, i + 1⟩] := by
  unfold stp
  rw [List.range_succ, List.map_append]
  rfl
theorem fnd_len (m i : Nat) : (fnd b o L m i).length = i + 1 := by simp [fnd]
theorem stp_len (i : Nat) : (stp b o L i).length = i := by simp [stp]
theorem fnd_at {m i : Nat} : L2.atI (fnd b o L m i) (i : Int) = some (chain b o L (m - i)) := by
  refine MP.atI_nat ?_
  simp [fnd]
theorem fnd_not {m i k : Nat} (h : i + k + 1 = m) : (fnd b o L m i).any (fun z => PyData.eqv z (chain b o L k)) = false := by
  rw [Bool.eq_false_iff]
  intro z
  rw [any_eqv (chain_pd k) (fun d hd => by
    obtain ⟨t, _, rfl⟩ := List.mem_map.mp hd
    exact chain_pd _)] at z
  obtain ⟨t, ht, e⟩ := List.mem_map.mp z
  have := chain_inj e
  rw [List.mem_range] at ht
  omega
theorem notIn_of {x : D} {ds : List D} {c : Bool} (h : (ds.any fun z => PyData.eqv z x) = c) (k : okD x = true) : opNotIn x (.list ds) = some (.bool !c) := by
  show (if okD x = true then some (PyData.bool !(ds.any fun z => PyData.eqv z x)) else none) = _
  rw [h, k]
  rfl
theorem depth_list {ds : List D} {c : Nat} (h : ∀ d ∈ ds, d.depth ≤ c) : (PyData.list ds).depth ≤ c + 1 := by
  simp only [PyData.depth]
  induction ds with
  | nil => simp [PyData.depthAll]
  | cons x xs ih =>
    have h1 := h x List.mem_cons_self
    have h2 := ih fun d hd => h d (List.mem_cons_of_mem _ hd)
    simp only [PyData.depthAll]
    omega
theorem fnd_idx {m i k : Nat} (h : i + k + 1 = m) : (fnd b o L m i ++ [chain b o L k]).findIdx? (fun z => PyData.eqv z (chain b o L k)) = some (i + 1) := by
  have hn := fnd_not (b := b) (o := o) (L := L) h
  have e0 : (fnd b o L m i).findIdx? (fun z => PyData.eqv z (chain b o L k)) = none := by
    rw [List.findIdx?_eq_none_iff]
    intro x hx
    rw [List.any_eq_false] at hn
    simpa using hn x hx
  rw [List.findIdx?_append, e0, fnd_len]
  have ee : PyData.eqv (chain b o L k) (chain b o L k) = true := (eqv_dec (chain_pd k) (chain_pd k)).mpr rfl
  simp [List.findIdx?_cons, ee]
theorem mloop (n m : Nat) (hm : m ≤ 10) (S : Store) : ∀ (k i fuel : Nat) (j4 j5 j6 : Option Val), i + k = m → k + 2 ≤ fuel →
    ∃ j4' j5' j6', whileRun (eBin opLt (eVar 3) (eU opLen (eVar 1))) (l1_machine_of (callN tbl (n + 1))) fuel (menv b o L m i i j4 j5 j6) S = some (.nx (menv b o L m m (m + 1) j4' j5' j6') S)
  | 0, i, fuel + 2, j4, j5, j6, h, hf => by
    have hi : i = m := by omega
    subst hi
    refine ⟨some (.d (chain b o L 0)), j5, j6, ?_⟩
    have body : l1_machine_of (callN tbl (n + 1)) (menv b o L i i i j4 j5 j6) S = some (.nx (menv b o L i i (i + 1) (some (.d (chain b o L 0))) j5 j6) S) := by
      unfold l1_machine_of
      have fa : L2.atI (fnd b o L i i) (i : Int) = some (chain b o L 0) := by
        have := fnd_at (b := b) (o := o) (L := L) (m := i) (i := i)
        rwa [Nat.sub_self] at this
      simp [menv, fa]
      simp [chain, L2.atI, ixN, e9, fr0]
    have t1 : eBin opLt (eVar 3) (eU opLen (eVar 1)) (menv b o L i i i j4 j5 j6) S = some (.d (.bool true), S) := by simp [menv, fnd_len]; omega
    have t2 : eBin opLt (eVar 3) (eU opLen (eVar 1)) (menv b o L i i (i + 1) (some (.d (chain b o L 0))) j5 j6) S = some (.d (.bool false), S) := by simp [menv, fnd_len]
    rw [whileRun]
    simp only [t1, body]
    rw [whileRun]
    simp only [t2]
  | k + 1, i, fuel + 1, j4, j5, j6, h, hf => by
    have hk : i + k + 1 = m := by omega
    have fa : L2.atI (fnd b o L m i) (i : Int) = some (chain b o L (k + 1)) := by
      have := fnd_at (b := b) (o := o) (L := L) (m := m) (i := i)
      rwa [show m - i = k + 1 by omega] at this
    have nin := notIn_of (fnd_not (b := b) (o := o) (L := L) hk) (okD_of (chain_dp k) (by omega))
    have fl : (fnd b o L m i).length < 1000000 := by rw [fnd_len]; omega
    have sl : (stp b o L i).length < 1000000 := by rw [stp_len]; omega
    have fi := fnd_idx (b := b) (o := o) (L := L) hk
    have dd : (PyData.list (fnd b o L m i ++ [chain b o L k])).depth ≤ 64 ∧ (chain b o L k).depth ≤ 64 := by
      have c0 : ∀ t, t ≤ m → (chain b o L t).depth ≤ 31 := fun t ht => Nat.le_trans (chain_dp t) (by omega)
      refine ⟨Nat.le_trans (depth_list (c := 31) fun d hd => ?_) (by omega), Nat.le_trans (c0 k (by omega)) (by omega)⟩
      rcases List.mem_append.mp hd with e | e
      · obtain ⟨t, _, rfl⟩ := List.mem_map.mp e
        exact c0 _ (by omega)
      · rw [List.mem_singleton] at e
        subst e
        exact c0 k (by omega)
    have inner : forRun (.t [5, 6]) (l0_machine_of (callN tbl (n + 1))) [.tuple [.int L, chain b o L k]] (menv b o L m i i (some (.d (chain b o L (k + 1)))) j5 j6) S = some (.nx (menv b o L m (i + 1) i (some (.d (chain b o L (k + 1)))) (some (.d (.int L))) (some (.d (chain b o L k)))) S) := by
      have body : l0_machine_of (callN tbl (n + 1)) (menv b o L m i i (some (.d (chain b o L (k + 1)))) (some (.d (.int L))) (some (.d (chain b o L k)))) S = some (.nx (menv b o L m (i + 1) i (some (.d (chain b o L (k + 1)))) (some (.d (.int L))) (some (.d (chain b o L k)))) S) := by
        unfold l0_machine_of menv
        rw [fnd_succ, stp_succ, show m - (i + 1) = k by omega]
        have ci : items S (.d (chain b o L (k + 1))) = some [wD b, .int o, .tuple [.tuple [.int L, chain b o L k]]] := rfl
        simp [opened_, nin, fl, sl, ci, L2.atI, ixN, fi, dd, MP.Step.d]
      unfold forRun
      have st : (Tg.t [5, 6]).set (.tuple [.int L, chain b o L k]) (menv b o L m i i (some (.d (chain b o L (k + 1)))) j5 j6) = some (menv b o L m i i (some (.d (chain b o L (k + 1)))) (some (.d (.int L))) (some (.d (chain b o L k)))) := rfl
      rw [st]
      simp only [body]
      rfl
    have body : l1_machine_of (callN tbl (n + 1)) (menv b o L m i i j4 j5 j6) S = some (.nx (menv b o L m (i + 1) (i + 1) (some (.d (chain b o L (k + 1)))) (some (.d (.int L))) (some (.d (chain b o L k)))) S) := by
      unfold l1_machine_of
      have ci : items S (.d (chain b o L (k + 1))) = some [wD b, .int o, .tuple [.tuple [.int L, chain b o L k]]] := rfl
      have nw : opNe (wD b) (.str "end") = some (.bool true) := by cases b; exact e11; exact e10
      have s1 : sSet 4 (eIx (eVar 1) (eVar 3)) (menv b o L m i i j4 j5 j6) S = some (.nx (menv b o L m i i (some (.d (chain b o L (k + 1)))) j5 j6) S) := by
        simp [menv, fa]
      have s2 : sFor (sSq (eIf (eBin opNe (eIx (eVar 4) (eC (.int 0))) (eC (.str "end"))) (eIx (eVar 4) (eC (.int 2))) (eTup (aNil)))) (.t [5, 6]) (l0_machine_of (callN tbl (n + 1))) (menv b o L m i i (some (.d (chain b o L (k + 1)))) j5 j6) S = some (.nx (menv b o L m (i + 1) i (some (.d (chain b o L (k + 1)))) (some (.d (.int L))) (some (.d (chain b o L k)))) S) := by
        rw [← inner]
        unfold menv
        simp [ci, L2.atI, ixN, nw]
      have s3 : sAug (fun i j => i + j) 3 (eC (.int 1)) (menv b o L m (i + 1) i (some (.d (chain b o L (k + 1)))) (some (.d (.int L))) (some (.d (chain b o L k)))) S = some (.nx (menv b o L m (i + 1) (i + 1) (some (.d (chain b o L (k + 1)))) (some (.d (.int L))) (some (.d (chain b o L k)))) S) := by
        simp [menv]
      rw [sSeq_nx s1, sSeq_nx s2, s3]
    have t1 : eBin opLt (eVar 3) (eU opLen (eVar 1)) (menv b o L m i i j4 j5 j6) S = some (.d (.bool true), S) := by simp [menv, fnd_len]; omega
    obtain ⟨a4, a5, a6, ih⟩ := mloop n m hm S k (i + 1) fuel (some (.d (chain b o L (k + 1)))) (some (.d (.int L))) (some (.d (chain b o L k))) (by omega) (by omega)
    refine ⟨a4, a5, a6, ?_⟩
    rw [whileRun]
    simp only [t1, body]
    exact ih
theorem le_src {x y : MP.Step} (h : x.src < y.src) : dataLe false id x.d y.d = true := by
  rw [PySem.W.dataLe_eq]
  show (!dataLt y.d x.d) = true
  unfold MP.Step.d
  rw [PySem.W.dataLt_tuple, PySem.W.dataLt_cons (by simp [alike])]
  have e : PyData.eqv (.int y.src) (.int x.src) = false := by
    simp only [PyData.eqv]
    exact beq_eq_false_iff_ne.mpr (by omega)
  rw [e, if_neg (by decide), PySem.W.dataLt_int]
  simp
  omega
theorem sort_stp (i : Nat) : sortBy MP.Step.d (stp b o L i) = stp b o L i := by
  unfold sortBy
  refine List.mergeSort_of_pairwise ?_
  unfold stp
  rw [List.pairwise_map]
  exact List.pairwise_lt_range.imp fun h => le_src (by show ((_ : Nat) : Int) < ((_ : Nat) : Int); omega)
theorem sortOk_stp (l : List MP.Step) : sortOk (l.map MP.Step.d) = true := sortOk_map _ l (fun x y => by simp [MP.Step.d, alike, PySem.W.alikeAll, wD]) (fun x => rfl) fun x => by
  exact decide_eq_true (by simp [MP.Step.d, PyData.depth, PyData.depthAll, wD])
theorem machine_ (n m : Nat) (hm : m ≤ 10) (S : Store) : callN tbl (n + 2) 15 [.d (chain b o L m)] S = some (.d (Mach.d ((m : Int) + 1, stp b o L m)), S) := by
  rw [call_machine_of]
  unfold b_machine_of runFn
  obtain ⟨j4, j5, j6, e⟩ := mloop (b := b) (o := o) (L := L) n m hm S m 0 1000 none none none (by omega) (by omega)
  have f0 : fnd b o L m 0 = [chain b o L m] := rfl
  have s0 : (stp b o L 0).map MP.Step.d = [] := rfl
  unfold menv at e
  rw [f0, s0, show ((0 : Nat) : Int) = 0 from rfl] at e
  simp [start0, opened_, sWhile, e, fnd_len, sortOk_stp, sortD_map, sort_stp, Mach.d]
end
end K53
set_option Elab.async false
set_option linter.all false
set_option maxRecDepth 20000
namespace K53
open PySem L2 MP
/-! The draws. -/
@[simp] theorem x_slS (ns : List Int) (l h : Option Int) : opSl (.scr ns) l h = some (.list (cutD (ns.map PyData.int) l h)) := rfl
@[simp] theorem x_itemsO (S : Store) (n : Nat) : items S (.obj n) = match S[n]? with
  | some (.cells xs) => some xs
  | _ => none := rfl
theorem x_cell (a i v : Mean) (ρ : MP.Env) (S : Store) : sCell a i v ρ S = match v ρ S with
  | some (.d d, S1) => match a ρ S1 with
    | some (.obj n, S2) => match i ρ S2 with
      | some (.d (.int i), S3) => match S3[n]? with
        | some (.cells xs) => (ixN xs.length i).map fun j => .nx ρ (S3.set n (.cells (xs.set j d)))
        | _ => none
      | _ => none
    | _ => none
  | _ => none := rfl
/-- the pool at a -/
def PoolAt (S : Store) (a : Nat) : Prop := ∃ (cs : List Int) (i : Nat) (x c s : Int), S[a]? = some (.cells [.list (cs.map PyData.int), .int i, .int x, .int c, .int s])
theorem pool (n : Nat) (ns : List Int) (S : Store) : ∃ s : Int, callN tbl (n + 1) 1 [.scr ns] S = some (.obj S.length, S ++ [.cells [.list (ns.map PyData.int), .int 0, .int 0, .int 0, .int s]]) := by
  obtain ⟨ρ2, e, s, j2, rfl⟩ := forRun_ix (t := .n 2) (b := l0__law_pool (callN tbl n)) (S := S) PyData.int (fun k ρ => ∃ s j2, ρ = [some (.scr ns), some (.d (.int s)), j2]) (ns.take 63) 0 [some (.scr ns), some (.d (.int 7)), none] ⟨7, none, rfl⟩ (fun k a ρ hk ⟨s, j2, hρ⟩ => by
    subst hρ
    refine ⟨_, _, rfl, .inl ?_, (s * 31 + a) % 1000003, some (.d (.int a)), rfl⟩
    unfold l0__law_pool
    simp [smallI])
  refine ⟨s, ?_⟩
  rw [call__law_pool]
  unfold b__law_pool runFn
  have c : cutD (ns.map PyData.int) none (some 63) = (ns.take 63).map PyData.int := by
    rw [show (63 : Int) = ((63 : Nat) : Int) from rfl, cut_to, List.map_take]
  simp [start0, eCells, -List.map_take, c, e]
theorem spread (n : Nat) (x : Int) (S : Store) : ∃ z : Int, callN tbl (n + 1) 2 [.d (.int x)] S = some (.d (.int z), S) := by
  obtain ⟨ρ2, e, y, z, j3, rfl⟩ := forRun_ix (t := .n 3) (b := l0__law_spread (callN tbl n)) (S := S) (fun (i : Nat) => PyData.int (i : Int)) (fun k ρ => ∃ y z j3, ρ = [some (.d (.int x)), some (.d (.int y)), some (.d (.int z)), j3]) (List.range 4) 0 [some (.d (.int x)), some (.d (.int (x % 2147483647))), some (.d (.int 1)), none] ⟨_, 1, none, rfl⟩ (fun k a ρ hk ⟨y, z, j3, hρ⟩ => by
    subst hρ
    refine ⟨_, _, rfl, .inl ?_, (y * 48271 + 12345 + a) % 2147483647, z * 2147483647 + (y * 48271 + 12345 + a) % 2147483647, some (.d (.int a)), rfl⟩
    unfold l0__law_spread
    simp [smallI])
  refine ⟨z, ?_⟩
  rw [call__law_spread]
  unfold b__law_spread runFn
  have up : upFrom 0 4 = (List.range 4).map fun (i : Nat) => PyData.int (i : Int) := upFrom_range 4
  generalize (List.range 4).map (fun (i : Nat) => PyData.int (i : Int)) = U at e up
  simp [start0, up, e]
section
variable {x0 x1 x2 x3 x4 : D}
theorem t0 : L2.atI [x0, x1, x2, x3, x4] 0 = some x0 := rfl
theorem t1 : L2.atI [x0, x1, x2, x3, x4] 1 = some x1 := rfl
theorem t2 : L2.atI [x0, x1, x2, x3, x4] 2 = some x2 := rfl
theorem t3 : L2.atI [x0, x1, x2, x3, x4] 3 = some x3 := rfl
theorem t4 : L2.atI [x0, x1, x2, x3, x4] 4 = some x4 := rfl
end
theorem y1 : ixN 5 1 = some 1 := rfl
theorem y2 : ixN 5 2 = some 2 := rfl
theorem y3 : ixN 5 3 = some 3 := rfl
def pl (cs : List Int) (i x c s : Int) : Ob := .cells [.list (cs.map PyData.int), .int i, .int x, .int c, .int s]
theorem draw (n : Nat) {many : Int} (h0 : 0 < many) (h1 : many < 1073741824) (S : Store) {a : Nat} (hp : PoolAt S a) : ∃ (v : Int) (S' : Store), callN tbl (n + 2) 3 [.obj a, .d (.int many)] S = some (.d (.int v), S') ∧ 0 ≤ v ∧ v < many ∧ PoolAt S' a ∧ S'.length = S.length := by
  obtain ⟨cs, i, x, c, s, hS⟩ := hp
  obtain ⟨hl, hg⟩ := List.getElem?_eq_some_iff.mp hS
  have hse : S.set a (pl cs i x c s) = S := by
    apply List.ext_getElem?
    intro k
    by_cases hk : a = k
    · subst hk
      rw [List.getElem?_set_self hl, hS]
      rfl
    · rw [List.getElem?_set_ne hk]
  -- what stands behind the first test
  have first : ∃ (i' : Nat) (x' : Int) (j2 : Option Val), sIf (eAnd (eBin opLe (eIx (eVar 0) (eC (.int 2))) (eC (.int 0))) (eBin opLt (eIx (eVar 0) (eC (.int 1))) (eU opLen (eIx (eVar 0) (eC (.int 0)))))) (sSeq (sSet 2 (eIx (eIx (eVar 0) (eC (.int 0))) (eIx (eVar 0) (eC (.int 1))))) (sSeq (sCell (eVar 0) (eC (.int 1)) (eBin opAdd (eIx (eVar 0) (eC (.int 1))) (eC (.int 1)))) (sSeq (sCell (eVar 0) (eC (.int 2)) (eVar 2)) (sIf (eBin opLt (eVar 2) (eC (.int 1000000000000000000))) (sCell (eVar 0) (eC (.int 2)) (eCall (callN tbl (n + 1)) 2 (aCons (eVar 2) (aNil)) [])) (sSkip))))) (sSkip)
      [some (.obj a), some (.d (.int many)), none, none, none] S = some (.nx [some (.obj a), some (.d (.int many)), j2, none, none] (S.set a (pl cs i' x' c s))) := by
    by_cases hx : x ≤ 0
    · by_cases hi : i < cs.length
      · have at0 : L2.atI (cs.map PyData.int) (i : Int) = some (.int cs[i]) := MP.atI_nat (by rw [List.getElem?_map, List.getElem?_eq_getElem hi]; rfl)
        obtain ⟨z, hz⟩ := spread n cs[i] (S.set a (pl cs (i + 1) cs[i] c s))
        unfold pl at hz
        by_cases hc : cs[i] < 1000000000000000000
        · refine ⟨i + 1, z, some (.d (.int cs[i])), ?_⟩
          simp [x_cell, hg, hl, t0, t1, t2, t3, t4, y1, y2, y3, at0, hx, hi, hz, hc, pl]
        · refine ⟨i + 1, cs[i], some (.d (.int cs[i])), ?_⟩
          simp [x_cell, hg, hl, t0, t1, t2, t3, t4, y1, y2, y3, at0, hx, hi, hz, hc, pl]
      · refine ⟨i, x, none, ?_⟩
        rw [hse]
        simp [x_cell, hg, hl, t0, t1, t2, t3, t4, hx, hi]
    · refine ⟨i, x, none, ?_⟩
      rw [hse]
      simp [x_cell, hg, hl, t0, t1, t2, t3, t4, hx]
  obtain ⟨i', x', j2, e⟩ := first
  have em : (0 : Int) ≤ 5 := by omega
  have v1 : ∀ y : Int, 0 ≤ y % many ∧ y % many < many := fun y => ⟨Int.emod_nonneg _ (by omega), Int.emod_lt_of_pos _ h0⟩
  have hl2 : ∀ o : Ob, a < (S.set a o).length := fun o => by rw [List.length_set]; exact hl
  have se : start0 5 [.obj a, .d (.int many)] = [some (.obj a), some (.d (.int many)), none, none, none] := rfl
  by_cases hx : x' ≤ 0
  · refine ⟨((((s * 48271 + (c + 1) * 69621 + 1) % 2147483647) * 16807 + (c + 1)) % 2147483629 / 5) % many, S.set a (pl cs i' x' (c + 1) s), ?_, (v1 _).1, (v1 _).2, ⟨cs, i', x', c + 1, s, List.getElem?_set_self hl⟩, by rw [List.length_set]⟩
    rw [call__law_draw]
    unfold b__law_draw runFn
    rw [se, sSeq_nx e]
    simp [x_cell, hl, t0, t1, t2, t3, t4, y1, y2, y3, pl, hx, smallI, h0]
  · refine ⟨x' % many, S.set a (pl cs i' (x' / many) (c + 1) s), ?_, (v1 _).1, (v1 _).2, ⟨cs, i', x' / many, c + 1, s, List.getElem?_set_self hl⟩, by rw [List.length_set]⟩
    rw [call__law_draw]
    unfold b__law_draw runFn
    rw [se, sSeq_nx e]
    simp [x_cell, hl, t0, t1, t2, t3, t4, y1, y2, y3, pl, hx, h0, h1]
end K53
set_option Elab.async false
set_option linter.all false
set_option maxRecDepth 20000
namespace K53
open PySem L2 MP
/-! The shuffle; what the law compares. -/
theorem ne_nil (ds : List D) : opNe (.list ds) (.list []) = some (.bool (!ds.isEmpty)) := by
  show (if okD (.list []) || okD (.list ds) then some (PyData.bool (!PyData.eqv (.list ds) (.list []))) else none) = _
  have h : okD (.list []) = true := by simp [okD, PyData.depth, PyData.depthAll]
  rw [h]
  cases ds <;> simp [PyData.eqv, PyData.eqvAll]
theorem er_map {α β : Type} (f : α → β) : ∀ (l : List α) (j : Nat), (l.map f).eraseIdx j = (l.eraseIdx j).map f
  | [], j => by simp
  | x :: l, 0 => by simp
  | x :: l, j + 1 => by simp [er_map f l j]
theorem er_perm {α : Type} : ∀ (l : List α) (j : Nat) (h : j < l.length), (l[j] :: l.eraseIdx j).Perm l
  | x :: l, 0, _ => by simp
  | x :: l, j + 1, h => by
    have ih := er_perm l j (by simpa using h)
    simp only [List.getElem_cons_succ, List.eraseIdx_cons_succ]
    exact (List.Perm.swap _ _ _).trans (List.Perm.cons _ ih)
def shenv (a : Nat) (items left found : List Int) : MP.Env := [some (.obj a), some (.d (.list (items.map PyData.int))), some (.d (.list (left.map PyData.int))), some (.d (.list (found.map PyData.int)))]
theorem shuf_loop (n : Nat) (a : Nat) (items : List Int) : ∀ (k : Nat) (left found : List Int) (S : Store) (fuel : Nat), left.length = k → k + 1 ≤ fuel → k ≤ 1000 → found.length + k ≤ 1000 → PoolAt S a →
    ∃ (res : List Int) (S' : Store), whileRun (eBin opNe (eVar 2) (eLst (aNil))) (l0__law_shuffled (callN tbl (n + 2))) fuel (shenv a items left found) S = some (.nx (shenv a items [] res) S') ∧ res.Perm (found ++ left) ∧ PoolAt S' a ∧ S'.length = S.length
  | 0, left, found, S, fuel + 1, hk, hf, hb, hb2, hp => by
    have : left = [] := List.eq_nil_of_length_eq_zero hk
    subst this
    refine ⟨found, S, ?_, by rw [List.append_nil], hp, rfl⟩
    rw [whileRun]
    simp [shenv, ne_nil]
  | k + 1, left, found, S, fuel + 1, hk, hf, hb, hb2, hp => by
    obtain ⟨v, S1, e, v0, v1, hp1, hl1⟩ := draw n (many := (left.length : Int)) (by omega) (by omega) S hp
    obtain ⟨j, rfl⟩ : ∃ j : Nat, v = (j : Int) := ⟨v.toNat, by omega⟩
    have hj : j < left.length := by omega
    have ix : ixN (left.map PyData.int).length (j : Int) = some j := MP.ixN_nat (by rw [List.length_map]; exact hj)
    have gj : (left.map PyData.int)[j]? = some (.int left[j]) := by rw [List.getElem?_map, List.getElem?_eq_getElem hj]; rfl
    have f1 : (found.map PyData.int).length < 1000000 := by rw [List.length_map]; omega
    have f2 : (left.map PyData.int).length ≤ 1000000 := by rw [List.length_map]; omega
    have body : l0__law_shuffled (callN tbl (n + 2)) (shenv a items left found) S = some (.nx (shenv a items (left.eraseIdx j) (found ++ [left[j]])) S1) := by
      unfold l0__law_shuffled sPopApp
      have ev : eCall (callN tbl (n + 2)) 3 (aCons (eVar 0) (aCons (eU opLen (eVar 2)) (aNil))) [] (shenv a items left found) S = some (.d (.int j), S1) := by
        simp [shenv, e]
      rw [ev]
      have r3 : (shenv a items left found).getD 3 none = some (.d (.list (found.map PyData.int))) := rfl
      have r2 : (shenv a items left found).getD 2 none = some (.d (.list (left.map PyData.int))) := rfl
      simp only [r3, r2, f1, f2, if_true, ix, gj]
      unfold shenv
      simp [er_map]
    have tst : eBin opNe (eVar 2) (eLst (aNil)) (shenv a items left found) S = some (.d (.bool true), S) := by
      have : left.isEmpty = false := by cases left <;> simp_all
      simp [shenv, ne_nil, this]
    have hlen : (left.eraseIdx j).length = k := by rw [List.length_eraseIdx, if_pos hj]; omega
    obtain ⟨res, S2, e2, pm, hp2, hl2⟩ := shuf_loop n a items k (left.eraseIdx j) (found ++ [left[j]]) S1 fuel hlen (by omega) (by omega) (by simp; omega) hp1
    refine ⟨res, S2, ?_, ?_, hp2, hl2.trans hl1⟩
    · rw [whileRun]
      simp only [tst, body]
      exact e2
    · refine pm.trans ?_
      rw [List.append_assoc]
      exact List.Perm.append_left _ (er_perm left j hj)
theorem shuffled (n : Nat) (a : Nat) (S : Store) (hp : PoolAt S a) : ∃ (res : List Int) (S' : Store), callN tbl (n + 3) 4 [.obj a, .d (.list [.int 0, .int 1, .int 2, .int 3])] S = some (.d (.list (res.map PyData.int)), S') ∧ res.Perm [0, 1, 2, 3] ∧ PoolAt S' a ∧ S'.length = S.length := by
  obtain ⟨res, S', e, pm, hp', hl⟩ := shuf_loop n a [0, 1, 2, 3] 4 [0, 1, 2, 3] [] S 100 rfl (by omega) (by omega) (by simp) hp
  refine ⟨res, S', ?_, pm, hp', hl⟩
  rw [call__law_shuffled]
  unfold b__law_shuffled runFn
  have se : shenv a [0, 1, 2, 3] [0, 1, 2, 3] [] = [some (.obj a), some (.d (.list [.int 0, .int 1, .int 2, .int 3])), some (.d (.list [.int 0, .int 1, .int 2, .int 3])), some (.d (.list []))] := rfl
  rw [se] at e
  simp [start0, sWhile, e, shenv]
theorem two_roles {res : List Int} (h : res.Perm [0, 1, 2, 3]) : ∃ (p q : Nat) (r : List Int), p < 4 ∧ q < 4 ∧ p ≠ q ∧ res = (p : Int) :: (q : Int) :: r := by
  have hl := h.length_eq
  match res, hl with
  | x :: y :: r, _ =>
    have hx : x ∈ ([0, 1, 2, 3] : List Int) := h.mem_iff.mp List.mem_cons_self
    have hy : y ∈ ([0, 1, 2, 3] : List Int) := h.mem_iff.mp (List.mem_cons_of_mem _ List.mem_cons_self)
    have nd : (x :: y :: r).Nodup := h.nodup_iff.mpr (by decide)
    have hne : x ≠ y := fun e => by
      subst e
      exact (List.nodup_cons.mp nd).1 List.mem_cons_self
    simp only [List.mem_cons, List.not_mem_nil, or_false] at hx hy
    refine ⟨x.toNat, y.toNat, r, by omega, by omega, fun e => hne (by omega), ?_⟩
    rw [show (x.toNat : Int) = x by omega, show (y.toNat : Int) = y by omega]
/-! _law_same of ints -/
theorem same_int (n : Nat) (x y : Int) (S : Store) : callN tbl (n + 1) 0 [.d (.int x), .d (.int y)] S = some (.d (.bool (decide (x = y))), S) := by
  have a1 : isiD (.int y) "tuple" = false := by rfl
  have a2 : isiD (.int y) "list" = false := by rfl
  have a3 : isiD (.int y) "bool" = false := by rfl
  have a4 : isiD (.int x) "bool" = false := by rfl
  have a5 : isiD (.int y) "int" = true := by rfl
  have a6 : isiD (.int x) "int" = true := by rfl
  rw [call__law_same]
  unfold b__law_same runFn
  simp [start0, a1, a2, a3, a4, a5, a6, eq_int]
theorem same_two (n : Nat) (x y : Int) (S : Store) : callN tbl (n + 2) 0 [.d (.list [.int x, .int y]), .d (.list [.int x, .int y])] S = some (.d (.bool true), S) := by
  have a1 : isiD (.list [.int x, .int y]) "tuple" = false := by rfl
  have a2 : isiD (.list [.int x, .int y]) "list" = true := by rfl
  have nb : ∀ c d : Bool, opNe (.bool c) (.bool d) = some (.bool (!(c == d))) := fun c d => by simp [opNe, okD, PyData.depth, PyData.eqv]
  have up : upFrom 0 2 = [PyData.int 0, PyData.int 1] := by rw [upFrom_range]; rfl
  rw [call__law_same]
  unfold b__law_same runFn
  simp [start0, a1, a2, nb, ne_int, up, compRun, L2.atI, ixN, same_int, eq_int]
end K53
set_option Elab.async false
set_option linter.all false
set_option maxRecDepth 20000
namespace K53
open PySem L2 MP
/-! The law. -/
section
variable {p q : Nat} {L : Int} {m : Nat}
theorem machine_r (hpq : p ≠ q) (hm : m ≤ 10) (n r : Nat) (S : Store) : callN tbl (n + 2) 15 [.d (partD p q L r m)] S = some (.d (Mach.d (machine p q L m r)), S) := by
  unfold machine
  by_cases h1 : r = p
  · subst h1
    rw [if_pos rfl, part_p]
    exact machine_ n m hm S
  · rw [if_neg h1]
    by_cases h2 : r = q
    · subst h2
      rw [if_pos rfl, part_q hpq]
      exact machine_ n m hm S
    · rw [if_neg h2, part_r h1 h2]
      exact machine_ n 0 (by omega) S
theorem key_eq (hpq : p ≠ q) (lost : Bool) (k l : K3) : opEq (keyOf p q L lost k).d (keyOf p q L lost l).d = some (.bool (decide (k = l))) := by
  have pk : ∀ x : DKey, pd x.d = true := fun x => rfl
  have dk : ∀ x : DKey, okD x.d = true := fun x => decide_eq_true (by simp [DKey.d, PyData.depth, PyData.depthAll])
  have w1 : ¬ ("send" : Str) = "hear" := by decide
  have w2 : ¬ ("hear" : Str) = "send" := by decide
  have w3 : ∀ b, ¬ ("send" : Str) = lossW b := by intro b; cases b <;> decide
  have w4 : ∀ b, ¬ ("hear" : Str) = lossW b := by intro b; cases b <;> decide
  have w5 : ∀ b, ¬ lossW b = ("send" : Str) := by intro b; cases b <;> decide
  have w6 : ∀ b, ¬ lossW b = ("hear" : Str) := by intro b; cases b <;> decide
  have key : (keyOf p q L lost k = keyOf p q L lost l) ↔ k = l := by
    cases k <;> cases l <;> simp [keyOf, w1, w2, w3, w4, w5, w6]
  have e : PyData.eqv (keyOf p q L lost k).d (keyOf p q L lost l).d = decide (k = l) := by
    rw [Bool.eq_iff_iff, eqv_dec (pk _) (pk _), decide_eq_true_eq, ← key]
    exact ⟨DKey.inj, fun h => by rw [h]⟩
  show (if okD _ || okD _ then some (PyData.bool (PyData.eqv _ _)) else none) = _
  rw [e, dk, dk]
  rfl
/-- the law's names -/
def lw (ns : List Int) (x2 x3 x4 x5 x6 x7 x8 x9 x10 x11 x12 x13 x14 x15 x16 x17 x18 : Option Val) : MP.Env :=
  [some (.scr ns), some (.obj 0), x2, x3, x4, x5, x6, x7, x8, x9, x10, x11, x12, x13, x14, x15, x16, x17, x18]
theorem net_loop (hpq : p ≠ q) (lost : Bool) (B : Calls) (ns : List Int) (x2 x3 x4 x5 x6 x7 x9 x10 x11 x12 x13 x18 : Option Val) (S : Store) : ∀ (w : List K3) (v z : Int) (x17 : Option Val), net lost w v = some z →
    ∃ y17, forRun (.n 17) (l0_law B) (w.map fun k => (keyOf p q L lost k).d) (lw ns x2 x3 x4 x5 x6 x7 (some (.d (.str (lossW lost)))) x9 x10 x11 x12 x13 (some (.d (keyOf p q L lost .send).d)) (some (.d (keyOf p q L lost .hear).d)) (some (.d (.int v))) x17 x18) S =
      some (.nx (lw ns x2 x3 x4 x5 x6 x7 (some (.d (.str (lossW lost)))) x9 x10 x11 x12 x13 (some (.d (keyOf p q L lost .send).d)) (some (.d (keyOf p q L lost .hear).d)) (some (.d (.int z))) y17 x18) S)
  | [], v, z, x17, h => by
    cases h
    exact ⟨x17, rfl⟩
  | k :: w, v, z, x17, h => by
    unfold net at h
    by_cases hv : v + dlt lost k < 0
    · rw [if_pos hv] at h
      cases h
    · rw [if_neg hv] at h
      obtain ⟨y17, ih⟩ := net_loop hpq lost B ns x2 x3 x4 x5 x6 x7 x9 x10 x11 x12 x13 x18 S w _ z (some (.d (keyOf p q L lost k).d)) h
      refine ⟨y17, ?_⟩
      rw [← ih, List.map_cons]
      conv => lhs; unfold forRun
      have body : l0_law B (lw ns x2 x3 x4 x5 x6 x7 (some (.d (.str (lossW lost)))) x9 x10 x11 x12 x13 (some (.d (keyOf p q L lost .send).d)) (some (.d (keyOf p q L lost .hear).d)) (some (.d (.int v))) (some (.d (keyOf p q L lost k).d)) x18) S =
          some (.nx (lw ns x2 x3 x4 x5 x6 x7 (some (.d (.str (lossW lost)))) x9 x10 x11 x12 x13 (some (.d (keyOf p q L lost .send).d)) (some (.d (keyOf p q L lost .hear).d)) (some (.d (.int (v + dlt lost k)))) (some (.d (keyOf p q L lost k).d)) x18) S) := by
        unfold l0_law lw
        have k1 := key_eq (p := p) (q := q) (L := L) hpq lost k .send
        have k2 := key_eq (p := p) (q := q) (L := L) hpq lost k .hear
        have ll : opEq (.str (lossW lost)) (.str "lost") = some (.bool lost) := by
          cases lost
          · exact w_dl
          · exact w_ll
        cases k with
        | send =>
          simp only [dlt] at hv
          simp [k1, hv, dlt]
        | hear =>
          simp only [dlt] at hv
          simp [k1, k2, hv, dlt]
        | bad =>
          cases lost with
          | true =>
            simp only [dlt, if_true] at hv
            simp [k1, k2, ll, hv, dlt]
          | false =>
            simp only [dlt, Bool.false_eq_true, if_false] at hv
            simp [k1, k2, ll, hv, dlt]
      have st : (Tg.n 17).set (keyOf p q L lost k).d (lw ns x2 x3 x4 x5 x6 x7 (some (.d (.str (lossW lost)))) x9 x10 x11 x12 x13 (some (.d (keyOf p q L lost .send).d)) (some (.d (keyOf p q L lost .hear).d)) (some (.d (.int v))) x17 x18) =
          some (lw ns x2 x3 x4 x5 x6 x7 (some (.d (.str (lossW lost)))) x9 x10 x11 x12 x13 (some (.d (keyOf p q L lost .send).d)) (some (.d (keyOf p q L lost .hear).d)) (some (.d (.int v))) (some (.d (keyOf p q L lost k).d)) x18) := rfl
      rw [st]
      simp only [body]
theorem cnt (w : List K3) (a : K3) : (w.filter fun k => decide (k = a)).length = w.count a := by
  rw [List.count, List.countP_eq_length_filter]
  rfl
/-- .. in a turn over a word -/
def lt (ns r : List Int) (p q : Nat) (L : Int) (m : Nat) (x5 : Option Val) (M : D) (R : Int) (lost : Bool) (y11 y12 y13 y14 y15 y16 y17 y18 : Option Val) : MP.Env :=
  lw ns (some (.d (.list (.int p :: .int q :: r.map PyData.int)))) (some (.d (.int L))) (some (.d (.int m))) x5 (some (.d M)) (some (.d (.int R))) (some (.d (.str (lossW lost)))) (some (.d (.str (if lost then "stuck" else "left")))) (some (.d (.int (more lost : Nat)))) y11 y12 y13 y14 y15 y16 y17 y18
theorem ne_intT {a b : Int} (h : a = b) : opNe (.int a) (.int b) = some (.bool false) := by rw [ne_int, decide_eq_true h]; rfl
theorem turn (hp : p < 4) (hq : q < 4) (hpq : p ≠ q) (hm : m < 5) (hm0 : m ≠ 0) {d : Nat} (hd : d < 3) (lost : Bool) (ns r : List Int) (x5 x11 x12 x13 x14 x15 x16 x17 x18 : Option Val) (S : Store) :
    ∃ y11 y12 y13 y14 y15 y16 y17, l1_law (callN tbl 39) (lt ns r p q L m x5 (msD (lineMs p q L m)) ((m + 1 + d : Nat) : Int) lost x11 x12 x13 x14 x15 x16 x17 x18) S =
      some (.nx (lt ns r p q L m x5 (msD (lineMs p q L m)) ((m + 1 + d : Nat) : Int) lost y11 y12 y13 y14 y15 y16 y17 x18) S) := by
  obtain ⟨res, hf, hc, _⟩ := loss_line (L := L) hp hq hpq hm hd lost 35 S
  cases res with
  | none => exact absurd (of_decide_eq_true hf) hm0
  | some tw =>
    obtain ⟨t, w⟩ := tw
    simp only [Bool.and_eq_true, decide_eq_true_eq] at hf
    obtain ⟨⟨⟨⟨⟨⟨_, ht⟩, hlen⟩, hbad⟩, hsend⟩, hhear⟩, hnet⟩ := hf
    have hc : callN tbl 39 26 [.d (msD (lineMs p q L m)), .d (.int ((m + 1 + d : Nat) : Int)), .d (.str (lossW lost))] S = some (.d (.tuple [t.d, wayD (w.map (keyOf p q L lost))]), S) := hc
    generalize msD (lineMs p q L m) = M at hc ⊢
    generalize ((m + 1 + d : Nat) : Int) = R at hc ⊢
    obtain ⟨y17, lp⟩ := net_loop (p := p) (q := q) (L := L) hpq lost (callN tbl 39) ns (some (.d (.list (.int p :: .int q :: r.map PyData.int)))) (some (.d (.int L))) (some (.d (.int m))) x5 (some (.d M)) (some (.d (.int R))) (some (.d (.str (if lost then "stuck" else "left")))) (some (.d (.int (more lost : Nat)))) (some (.d t.d)) (some (.d (wayD (w.map (keyOf p q L lost))))) (some (.d (keyOf p q L lost .bad).d)) x18 S w 0 _ x17 hnet
    have wl : (w.map (keyOf p q L lost)).map DKey.d = w.map fun k => (keyOf p q L lost k).d := by rw [List.map_map]; rfl
    have wlen : opLen (.d (wayD (w.map (keyOf p q L lost)))) = some (.int w.length) := by unfold wayD; rw [x_len2]; simp
    have s1 : sUnp (.t [11, 12]) (eCall (callN tbl 39) 26 (aCons (eVar 6) (aCons (eVar 7) (aCons (eVar 8) (aNil)))) []) (lt ns r p q L m x5 M R lost x11 x12 x13 x14 x15 x16 x17 x18) S = some (.nx (lt ns r p q L m x5 M R lost (some (.d t.d)) (some (.d (wayD (w.map (keyOf p q L lost))))) x13 x14 x15 x16 x17 x18) S) := by
      unfold lt lw
      simp [hc]
    have s2 : sSet 13 (eTup (aCons (eIx (eVar 2) (eC (.int 0))) (aCons (eVar 8) (aCons (eIx (eVar 2) (eC (.int 1))) (aCons (eC (.int 0)) (aNil)))))) (lt ns r p q L m x5 M R lost (some (.d t.d)) (some (.d (wayD (w.map (keyOf p q L lost))))) x13 x14 x15 x16 x17 x18) S = some (.nx (lt ns r p q L m x5 M R lost (some (.d t.d)) (some (.d (wayD (w.map (keyOf p q L lost))))) (some (.d (keyOf p q L lost .bad).d)) x14 x15 x16 x17 x18) S) := by
      have a0 : L2.atI (.int p :: .int q :: r.map PyData.int) 0 = some (.int p) := MP.atI_nat (k := 0) rfl
      have a1 : L2.atI (.int p :: .int q :: r.map PyData.int) 1 = some (.int q) := MP.atI_nat (k := 1) rfl
      unfold lt lw
      simp [a0, a1, keyOf, DKey.d]
    have s3 : sUnp (.t [14, 15]) (eTup (aCons (eTup (aCons (eIx (eVar 2) (eC (.int 0))) (aCons (eC (.str "send")) (aCons (eIx (eVar 2) (eC (.int 1))) (aCons (eVar 3) (aNil)))))) (aCons (eTup (aCons (eIx (eVar 2) (eC (.int 1))) (aCons (eC (.str "hear")) (aCons (eIx (eVar 2) (eC (.int 0))) (aCons (eVar 3) (aNil)))))) (aNil)))) (lt ns r p q L m x5 M R lost (some (.d t.d)) (some (.d (wayD (w.map (keyOf p q L lost))))) (some (.d (keyOf p q L lost .bad).d)) x14 x15 x16 x17 x18) S =
        some (.nx (lt ns r p q L m x5 M R lost (some (.d t.d)) (some (.d (wayD (w.map (keyOf p q L lost))))) (some (.d (keyOf p q L lost .bad).d)) (some (.d (keyOf p q L lost .send).d)) (some (.d (keyOf p q L lost .hear).d)) x16 x17 x18) S) := by
      have a0 : L2.atI (.int p :: .int q :: r.map PyData.int) 0 = some (.int p) := MP.atI_nat (k := 0) rfl
      have a1 : L2.atI (.int p :: .int q :: r.map PyData.int) 1 = some (.int q) := MP.atI_nat (k := 1) rfl
      unfold lt lw
      simp [a0, a1, keyOf, DKey.d]
    -- what is counted
    have cr : ∀ (i : Nat) (k0 : K3) (ρ : MP.Env), ρ.length = 19 → i ≠ 17 → ρ.getD i none = some (.d (keyOf p q L lost k0).d) → compRun (.n 17) (eBin opEq (eVar 17) (eVar i)) (eVar 17) (ρ.set 17 none) ((w.map (keyOf p q L lost)).map DKey.d) S = some ((w.filter fun k => decide (k = k0)).map fun k => (keyOf p q L lost k).d, S) := fun i k0 ρ hl hi hg => by
      rw [wl, compRun_of (fun k => (keyOf p q L lost k).d) (fun k => decide (k = k0)) (fun k => (keyOf p q L lost k).d)]
      intro k hk
      have g1 : ((ρ.set 17 none).set 17 (some (.d (keyOf p q L lost k).d))).getD 17 none = some (.d (keyOf p q L lost k).d) := by
        rw [List.getD_eq_getElem?_getD, List.getElem?_set_self (by rw [List.length_set, hl]; omega)]
        rfl
      have g2 : ((ρ.set 17 none).set 17 (some (.d (keyOf p q L lost k).d))).getD i none = some (.d (keyOf p q L lost k0).d) := by
        rw [List.getD_eq_getElem?_getD, List.getElem?_set_ne (Ne.symm hi), List.getElem?_set_ne (Ne.symm hi), ← List.getD_eq_getElem?_getD]
        exact hg
      refine ⟨_, rfl, ?_, fun _ => ?_⟩
      · rw [x_bin, x_var, g1]
        simp only [Option.map_some, x_var, g2, key_eq hpq]
      · rw [x_var, g1]
        rfl
    have c13 := cr 13 .bad (lt ns r p q L m x5 M R lost (some (.d t.d)) (some (.d (wayD (w.map (keyOf p q L lost))))) (some (.d (keyOf p q L lost .bad).d)) (some (.d (keyOf p q L lost .send).d)) (some (.d (keyOf p q L lost .hear).d)) x16 x17 x18) rfl (by omega) rfl
    have c14 := cr 14 .send (lt ns r p q L m x5 M R lost (some (.d t.d)) (some (.d (wayD (w.map (keyOf p q L lost))))) (some (.d (keyOf p q L lost .bad).d)) (some (.d (keyOf p q L lost .send).d)) (some (.d (keyOf p q L lost .hear).d)) x16 x17 x18) rfl (by omega) rfl
    have c15 := cr 15 .hear (lt ns r p q L m x5 M R lost (some (.d t.d)) (some (.d (wayD (w.map (keyOf p q L lost))))) (some (.d (keyOf p q L lost .bad).d)) (some (.d (keyOf p q L lost .send).d)) (some (.d (keyOf p q L lost .hear).d)) x16 x17 x18) rfl (by omega) rfl
    have lnB := (cnt w .bad).trans hbad
    have lnS := (cnt w .send).trans hsend
    have lnH := cnt w .hear
    have due : opNe t.d (.str (if lost then "stuck" else "left")) = some (.bool false) := by
      subst ht
      cases lost
      · exact st_ne (c := true) (by decide)
      · exact st_ne (c := true) (by decide)
    generalize hW : wayD (w.map (keyOf p q L lost)) = W at *
    have it : ∀ (S : Store), sSq (eVar 12) (lt ns r p q L m x5 M R lost (some (.d t.d)) (some (.d W)) (some (.d (keyOf p q L lost .bad).d)) (some (.d (keyOf p q L lost .send).d)) (some (.d (keyOf p q L lost .hear).d)) x16 x17 x18) S = some ((w.map (keyOf p q L lost)).map DKey.d, S) := fun S => by
      subst hW
      rfl
    have n13 : eU opLen (eComp (sSq (eVar 12)) (.n 17) [17] (eBin opEq (eVar 17) (eVar 13)) (eVar 17)) (lt ns r p q L m x5 M R lost (some (.d t.d)) (some (.d W)) (some (.d (keyOf p q L lost .bad).d)) (some (.d (keyOf p q L lost .send).d)) (some (.d (keyOf p q L lost .hear).d)) x16 x17 x18) S = some (.d (.int 1), S) := by
      rw [x_u, x_comp, it]
      simp only [x_wipe, x_wipe0, c13, x_len1, List.length_map, lnB, Option.map_some]
      rfl
    have n14 : eU opLen (eComp (sSq (eVar 12)) (.n 17) [17] (eBin opEq (eVar 17) (eVar 14)) (eVar 17)) (lt ns r p q L m x5 M R lost (some (.d t.d)) (some (.d W)) (some (.d (keyOf p q L lost .bad).d)) (some (.d (keyOf p q L lost .send).d)) (some (.d (keyOf p q L lost .hear).d)) x16 x17 x18) S = some (.d (.int m), S) := by
      rw [x_u, x_comp, it]
      simp only [x_wipe, x_wipe0, c14, x_len1, List.length_map, lnS, Option.map_some]
    have n15 : eU opLen (eComp (sSq (eVar 12)) (.n 17) [17] (eBin opEq (eVar 17) (eVar 15)) (eVar 17)) (lt ns r p q L m x5 M R lost (some (.d t.d)) (some (.d W)) (some (.d (keyOf p q L lost .bad).d)) (some (.d (keyOf p q L lost .send).d)) (some (.d (keyOf p q L lost .hear).d)) x16 x17 x18) S = some (.d (.int ((m : Int) - 1 + (more lost : Nat))), S) := by
      rw [x_u, x_comp, it]
      simp only [x_wipe, x_wipe0, c15, x_len1, List.length_map, lnH, Option.map_some]
      rw [show ((w.count K3.hear : Nat) : Int) = (m : Int) - 1 + (more lost : Nat) by omega]
    have n12 : eBin opNe (eU opLen (eVar 12)) (eBin opAdd (eBin opMul (eC (.int 2)) (eVar 4)) (eVar 10)) (lt ns r p q L m x5 M R lost (some (.d t.d)) (some (.d W)) (some (.d (keyOf p q L lost .bad).d)) (some (.d (keyOf p q L lost .send).d)) (some (.d (keyOf p q L lost .hear).d)) x16 x17 x18) S = some (.d (.bool false), S) := by
      have g12 : (lt ns r p q L m x5 M R lost (some (.d t.d)) (some (.d W)) (some (.d (keyOf p q L lost .bad).d)) (some (.d (keyOf p q L lost .send).d)) (some (.d (keyOf p q L lost .hear).d)) x16 x17 x18).getD 12 none = some (.d W) := rfl
      have g4 : (lt ns r p q L m x5 M R lost (some (.d t.d)) (some (.d W)) (some (.d (keyOf p q L lost .bad).d)) (some (.d (keyOf p q L lost .send).d)) (some (.d (keyOf p q L lost .hear).d)) x16 x17 x18).getD 4 none = some (.d (.int m)) := rfl
      have g10 : (lt ns r p q L m x5 M R lost (some (.d t.d)) (some (.d W)) (some (.d (keyOf p q L lost .bad).d)) (some (.d (keyOf p q L lost .send).d)) (some (.d (keyOf p q L lost .hear).d)) x16 x17 x18).getD 10 none = some (.d (.int (more lost : Nat))) := rfl
      have el : (w.length : Int) = 2 * (m : Int) + (more lost : Nat) := by omega
      have s2 : (smallI 2 || smallI m) = true := rfl
      simp only [x_bin, x_u, x_var, x_c, g12, g4, g10, Option.map_some, wlen, x_mulI, s2, if_true, x_addI, ne_intT el]
    have n11 : eBin opNe (eVar 11) (eVar 9) (lt ns r p q L m x5 M R lost (some (.d t.d)) (some (.d W)) (some (.d (keyOf p q L lost .bad).d)) (some (.d (keyOf p q L lost .send).d)) (some (.d (keyOf p q L lost .hear).d)) x16 x17 x18) S = some (.d (.bool false), S) := by
      have g11 : (lt ns r p q L m x5 M R lost (some (.d t.d)) (some (.d W)) (some (.d (keyOf p q L lost .bad).d)) (some (.d (keyOf p q L lost .send).d)) (some (.d (keyOf p q L lost .hear).d)) x16 x17 x18).getD 11 none = some (.d t.d) := rfl
      have g9 : (lt ns r p q L m x5 M R lost (some (.d t.d)) (some (.d W)) (some (.d (keyOf p q L lost .bad).d)) (some (.d (keyOf p q L lost .send).d)) (some (.d (keyOf p q L lost .hear).d)) x16 x17 x18).getD 9 none = some (.d (.str (if lost then "stuck" else "left"))) := rfl
      simp only [x_bin, x_var, g11, g9, Option.map_some, due]
    have s4 : sIf (eOr (eBin opNe (eVar 11) (eVar 9)) (eOr (eBin opNe (eU opLen (eVar 12)) (eBin opAdd (eBin opMul (eC (.int 2)) (eVar 4)) (eVar 10))) (eBin opNe (eU opLen (eComp (sSq (eVar 12)) (.n 17) [17] (eBin opEq (eVar 17) (eVar 13)) (eVar 17))) (eC (.int 1))))) (sRet (eC (.bool false))) (sSkip) (lt ns r p q L m x5 M R lost (some (.d t.d)) (some (.d W)) (some (.d (keyOf p q L lost .bad).d)) (some (.d (keyOf p q L lost .send).d)) (some (.d (keyOf p q L lost .hear).d)) x16 x17 x18) S = some (.nx (lt ns r p q L m x5 M R lost (some (.d t.d)) (some (.d W)) (some (.d (keyOf p q L lost .bad).d)) (some (.d (keyOf p q L lost .send).d)) (some (.d (keyOf p q L lost .hear).d)) x16 x17 x18) S) := by
      rw [x_sIf, x_or, n11]
      simp only [x_or, n12]
      rw [x_bin, n13]
      simp only [x_c, ne_intT, Option.map_some, x_skip]
    have s5 : sIf (eNot (eCall (callN tbl 39) 0 (aCons (eLst (aCons (eU opLen (eComp (sSq (eVar 12)) (.n 17) [17] (eBin opEq (eVar 17) (eVar 14)) (eVar 17))) (aCons (eU opLen (eComp (sSq (eVar 12)) (.n 17) [17] (eBin opEq (eVar 17) (eVar 15)) (eVar 17))) (aNil)))) (aCons (eLst (aCons (eVar 4) (aCons (eBin opAdd (eBin opSub (eVar 4) (eC (.int 1))) (eVar 10)) (aNil)))) (aNil))) [])) (sRet (eC (.bool false))) (sSkip) (lt ns r p q L m x5 M R lost (some (.d t.d)) (some (.d W)) (some (.d (keyOf p q L lost .bad).d)) (some (.d (keyOf p q L lost .send).d)) (some (.d (keyOf p q L lost .hear).d)) x16 x17 x18) S = some (.nx (lt ns r p q L m x5 M R lost (some (.d t.d)) (some (.d W)) (some (.d (keyOf p q L lost .bad).d)) (some (.d (keyOf p q L lost .send).d)) (some (.d (keyOf p q L lost .hear).d)) x16 x17 x18) S) := by
      have g4 : (lt ns r p q L m x5 M R lost (some (.d t.d)) (some (.d W)) (some (.d (keyOf p q L lost .bad).d)) (some (.d (keyOf p q L lost .send).d)) (some (.d (keyOf p q L lost .hear).d)) x16 x17 x18).getD 4 none = some (.d (.int m)) := rfl
      have g10 : (lt ns r p q L m x5 M R lost (some (.d t.d)) (some (.d W)) (some (.d (keyOf p q L lost .bad).d)) (some (.d (keyOf p q L lost .send).d)) (some (.d (keyOf p q L lost .hear).d)) x16 x17 x18).getD 10 none = some (.d (.int (more lost : Nat))) := rfl
      have sm := same_two 37 (m : Int) ((m : Int) - 1 + (more lost : Nat)) S
      have sm : callN tbl 39 0 [.d (.list [.int m, .int ((m : Int) - 1 + (more lost : Nat))]), .d (.list [.int m, .int ((m : Int) - 1 + (more lost : Nat))])] S = some (.d (.bool true), S) := sm
      have l1 : eLst (aCons (eU opLen (eComp (sSq (eVar 12)) (.n 17) [17] (eBin opEq (eVar 17) (eVar 14)) (eVar 17))) (aCons (eU opLen (eComp (sSq (eVar 12)) (.n 17) [17] (eBin opEq (eVar 17) (eVar 15)) (eVar 17))) (aNil))) (lt ns r p q L m x5 M R lost (some (.d t.d)) (some (.d W)) (some (.d (keyOf p q L lost .bad).d)) (some (.d (keyOf p q L lost .send).d)) (some (.d (keyOf p q L lost .hear).d)) x16 x17 x18) S = some (.d (.list [.int m, .int ((m : Int) - 1 + (more lost : Nat))]), S) := by
        rw [x_lst, x_cons, n14]
        simp only [x_cons, n15, x_nil, x_datas, x_datas0, Option.map_some]
      have l2 : eLst (aCons (eVar 4) (aCons (eBin opAdd (eBin opSub (eVar 4) (eC (.int 1))) (eVar 10)) (aNil))) (lt ns r p q L m x5 M R lost (some (.d t.d)) (some (.d W)) (some (.d (keyOf p q L lost .bad).d)) (some (.d (keyOf p q L lost .send).d)) (some (.d (keyOf p q L lost .hear).d)) x16 x17 x18) S = some (.d (.list [.int m, .int ((m : Int) - 1 + (more lost : Nat))]), S) := by
        simp only [x_lst, x_cons, x_bin, x_var, g4, g10, x_c, Option.map_some, x_subI, x_addI, x_nil, x_datas, x_datas0]
      rw [x_sIf, x_not, x_call, x_cons, l1]
      simp only [x_cons, l2, x_nil, sm, Bool.not_true, x_skip]
    have s6 : sSet 16 (eC (.int 0)) (lt ns r p q L m x5 M R lost (some (.d t.d)) (some (.d W)) (some (.d (keyOf p q L lost .bad).d)) (some (.d (keyOf p q L lost .send).d)) (some (.d (keyOf p q L lost .hear).d)) x16 x17 x18) S = some (.nx (lt ns r p q L m x5 M R lost (some (.d t.d)) (some (.d W)) (some (.d (keyOf p q L lost .bad).d)) (some (.d (keyOf p q L lost .send).d)) (some (.d (keyOf p q L lost .hear).d)) (some (.d (.int 0))) x17 x18) S) := rfl
    have s7 : sFor (sSq (eVar 12)) (.n 17) (l0_law (callN tbl 39)) (lt ns r p q L m x5 M R lost (some (.d t.d)) (some (.d W)) (some (.d (keyOf p q L lost .bad).d)) (some (.d (keyOf p q L lost .send).d)) (some (.d (keyOf p q L lost .hear).d)) (some (.d (.int 0))) x17 x18) S = some (.nx (lt ns r p q L m x5 M R lost (some (.d t.d)) (some (.d W)) (some (.d (keyOf p q L lost .bad).d)) (some (.d (keyOf p q L lost .send).d)) (some (.d (keyOf p q L lost .hear).d)) (some (.d (.int (more lost : Nat)))) y17 x18) S) := by
      have it2 : sSq (eVar 12) (lt ns r p q L m x5 M R lost (some (.d t.d)) (some (.d W)) (some (.d (keyOf p q L lost .bad).d)) (some (.d (keyOf p q L lost .send).d)) (some (.d (keyOf p q L lost .hear).d)) (some (.d (.int 0))) x17 x18) S = some (w.map fun k => (keyOf p q L lost k).d, S) := by
        rw [← wl]
        subst hW
        rfl
      rw [x_for, it2]
      exact lp
    have s8 : sIf (eBin opNe (eVar 16) (eVar 10)) (sRet (eC (.bool false))) (sSkip) (lt ns r p q L m x5 M R lost (some (.d t.d)) (some (.d W)) (some (.d (keyOf p q L lost .bad).d)) (some (.d (keyOf p q L lost .send).d)) (some (.d (keyOf p q L lost .hear).d)) (some (.d (.int (more lost : Nat)))) y17 x18) S = some (.nx (lt ns r p q L m x5 M R lost (some (.d t.d)) (some (.d W)) (some (.d (keyOf p q L lost .bad).d)) (some (.d (keyOf p q L lost .send).d)) (some (.d (keyOf p q L lost .hear).d)) (some (.d (.int (more lost : Nat)))) y17 x18) S) := by
      rw [x_sIf, x_bin]
      have g16 : (lt ns r p q L m x5 M R lost (some (.d t.d)) (some (.d W)) (some (.d (keyOf p q L lost .bad).d)) (some (.d (keyOf p q L lost .send).d)) (some (.d (keyOf p q L lost .hear).d)) (some (.d (.int (more lost : Nat)))) y17 x18).getD 16 none = some (.d (.int (more lost : Nat))) := rfl
      have g10 : (lt ns r p q L m x5 M R lost (some (.d t.d)) (some (.d W)) (some (.d (keyOf p q L lost .bad).d)) (some (.d (keyOf p q L lost .send).d)) (some (.d (keyOf p q L lost .hear).d)) (some (.d (.int (more lost : Nat)))) y17 x18).getD 10 none = some (.d (.int (more lost : Nat))) := rfl
      simp only [x_var, g16, g10, Option.map_some, ne_intT, x_skip]
    refine ⟨some (.d t.d), some (.d W), some (.d (keyOf p q L lost .bad).d), some (.d (keyOf p q L lost .send).d), some (.d (keyOf p q L lost .hear).d), some (.d (.int (more lost : Nat))), y17, ?_⟩
    unfold l1_law
    rw [sSeq_nx s1, sSeq_nx s2, sSeq_nx s3, sSeq_nx s4, sSeq_nx s5, sSeq_nx s6, sSeq_nx s7, s8]
end
theorem none_iff {p q : Nat} {L : Int} {m : Nat} (hp : p < 4) (hq : q < 4) (hpq : p ≠ q) (hm : m < 5) {d : Nat} (hd : d < 3) (lost : Bool) (S : Store) :
    callN tbl 39 27 [.d (msD (lineMs p q L m)), .d (.int ((m + 1 + d : Nat) : Int)), .d (.str (lossW lost))] S = some (.d (.bool (decide (m = 0))), S) ∧ (m = 0 → callN tbl 39 26 [.d (msD (lineMs p q L m)), .d (.int ((m + 1 + d : Nat) : Int)), .d (.str (lossW lost))] S = some (.d .none, S)) := by
  obtain ⟨r1, f1, _, b1⟩ := loss_line (L := L) hp hq hpq hm hd lost 34 S
  obtain ⟨r2, f2, b2, _⟩ := loss_line (L := L) hp hq hpq hm hd lost 35 S
  constructor
  · cases r1 with
    | none =>
      rw [of_decide_eq_true f1, decide_eq_true rfl]
      rw [of_decide_eq_true f1] at b1
      exact b1
    | some tw =>
      obtain ⟨t, w⟩ := tw
      simp only [Bool.and_eq_true, decide_eq_true_eq] at f1
      rw [decide_eq_false f1.1.1.1.1.1.1]
      exact b1
  · intro h0
    cases r2 with
    | none => exact b2
    | some tw =>
      obtain ⟨t, w⟩ := tw
      simp only [Bool.and_eq_true, decide_eq_true_eq] at f2
      exact absurd h0 f2.1.1.1.1.1.1
theorem ne_same (b : Bool) : opNe (.bool b) (.bool b) = some (.bool false) := by
  simp [opNe, okD, PyData.depth, PyData.eqv]
theorem rep_flat (m : Nat) (x : D) : (List.replicate m [x]).flatten = List.replicate m x := by
  induction m with
  | zero => rfl
  | succ m ih => rw [List.replicate_succ, List.flatten_cons, ih, List.replicate_succ]; rfl
def lw0 (ns : List Int) (x1 : Option Val) : MP.Env := [some (.scr ns), x1, none, none, none, none, none, none, none, none, none, none, none, none, none, none, none, none, none]
theorem law_true : ∀ ns : List Int, ns.length ≤ 63 → ∃ S, callN tbl 40 6 [.scr ns] [] = some (.d (.bool true), S) := by
  intro ns _
  obtain ⟨sa, e1⟩ := pool 38 ns []
  have e1 : callN tbl 39 1 [.scr ns] [] = some (.obj 0, [.cells [.list (ns.map PyData.int), .int 0, .int 0, .int 0, .int sa]]) := e1
  have hp1 : PoolAt [.cells [.list (ns.map PyData.int), .int 0, .int 0, .int 0, .int sa]] 0 := ⟨ns, 0, 0, 0, sa, rfl⟩
  generalize ([.cells [.list (ns.map PyData.int), .int 0, .int 0, .int 0, .int sa]] : Store) = S1 at e1 hp1
  obtain ⟨res, S2, e2, pm, hp2, _⟩ := shuffled 36 0 S1 hp1
  have e2 : callN tbl 39 4 [.obj 0, .d (.list [.int 0, .int 1, .int 2, .int 3])] S1 = some (.d (.list (res.map PyData.int)), S2) := e2
  obtain ⟨p, q, r, hp, hq, hpq, rfl⟩ := two_roles pm
  obtain ⟨L, S3, e3, _, _, hp3, _⟩ := draw 37 (many := 6) (by omega) (by omega) S2 hp2
  have e3 : callN tbl 39 3 [.obj 0, .d (.int 6)] S2 = some (.d (.int L), S3) := e3
  obtain ⟨mv, S4, e4, m0, m1, hp4, _⟩ := draw 37 (many := 5) (by omega) (by omega) S3 hp3
  have e4 : callN tbl 39 3 [.obj 0, .d (.int 5)] S3 = some (.d (.int mv), S4) := e4
  obtain ⟨m, rfl⟩ : ∃ m : Nat, mv = (m : Int) := ⟨mv.toNat, by omega⟩
  have hm : m < 5 := by omega
  have e5 : callN tbl 39 5 [.d (.int p), .d (.int q), .d (.list (List.replicate m (.int L))), .d (.tuple [.str "end"])] S4 = some (.d (talkD p q L m), S4) := line_of 38 m S4
  have e6 := parts_ (L := L) hp hq hpq m (35 - 2 * m) S4
  rw [show 35 - 2 * m + 2 * m + 4 = 39 by omega] at e6
  generalize hS5 : S4 ++ [Ob.inst 0 [.d (.int 0), .d .none]] ++ [.inst 0 [.d (.int 1), .d .none]] ++ [.inst 0 [.d (.int 2), .d .none]] ++ [.inst 0 [.d (.int 3), .d .none]] = S5 at e6
  have hp5 : PoolAt S5 0 := by
    obtain ⟨cs, i, x, c, s, h⟩ := hp4
    refine ⟨cs, i, x, c, s, ?_⟩
    have hl := (List.getElem?_eq_some_iff.mp h).1
    rw [← hS5, List.append_assoc, List.append_assoc, List.append_assoc, List.getElem?_append_left hl]
    exact h
  obtain ⟨dv, S6, e7, d0, d1, hp6, _⟩ := draw 37 (many := 3) (by omega) (by omega) S5 hp5
  have e7 : callN tbl 39 3 [.obj 0, .d (.int 3)] S5 = some (.d (.int dv), S6) := e7
  obtain ⟨d, rfl⟩ : ∃ d : Nat, dv = (d : Int) := ⟨dv.toNat, by omega⟩
  have hd : d < 3 := by omega
  have calm : callN tbl 39 24 [.d (msD (lineMs p q L m)), .d (.int ((m + 1 + d : Nat) : Int))] S6 = some (.d .none, S6) := calm_line hp hq hpq hm hd 34 S6
  obtain ⟨bl, zl⟩ := none_iff (L := L) hp hq hpq hm hd true S6
  obtain ⟨bd, zd⟩ := none_iff (L := L) hp hq hpq hm hd false S6
  have cm : ∀ ρ : MP.Env, ρ.length = 19 → compRun (.n 18) (eC (.bool true)) (eCall (callN tbl 39) 15 (aCons (eVar 18) (aNil)) []) ρ [partD p q L 0 m, partD p q L 1 m, partD p q L 2 m, partD p q L 3 m] S5 = some ((lineMs p q L m).map Mach.d, S5) := fun ρ hl => by
    have c := compRun_of (t := .n 18) (tst := eC (.bool true)) (elt := eCall (callN tbl 39) 15 (aCons (eVar 18) (aNil)) []) (ρ := ρ) (S := S5) (fun r => partD p q L r m) (fun _ => true) (fun r => Mach.d (machine p q L m r)) [0, 1, 2, 3] (fun r hr => by
      refine ⟨_, rfl, rfl, fun _ => ?_⟩
      have g : (ρ.set 18 (some (Val.d (partD p q L r m)))).getD 18 none = some (.d (partD p q L r m)) := by
        rw [List.getD_eq_getElem?_getD, List.getElem?_set_self (by rw [hl]; omega)]
        rfl
      have mr : callN tbl 39 15 [.d (partD p q L r m)] S5 = some (.d (Mach.d (machine p q L m r)), S5) := machine_r hpq (by omega) 37 r S5
      rw [x_call, x_cons, x_var, g]
      simp only [Option.map_some, x_nil, mr])
    exact c
  have hs0 : start0 19 [.scr ns] = lw0 ns none := rfl
  have t1 : sSet 1 (eCall (callN tbl 39) 1 (aCons (eVar 0) (aNil)) []) (lw0 ns none) [] = some (.nx (lw0 ns (some (.obj 0))) S1) := by
    unfold lw0
    simp [e1]
  have t2 : sPar [2, 3, 4] (aCons (eCall (callN tbl 39) 4 (aCons (eVar 1) (aCons (eLst (aCons (eC (.int 0)) (aCons (eC (.int 1)) (aCons (eC (.int 2)) (aCons (eC (.int 3)) (aNil)))))) (aNil))) []) (aCons (eCall (callN tbl 39) 3 (aCons (eVar 1) (aCons (eC (.int 6)) (aNil))) []) (aCons (eCall (callN tbl 39) 3 (aCons (eVar 1) (aCons (eC (.int 5)) (aNil))) []) (aNil)))) (lw0 ns (some (.obj 0))) S1 =
      some (.nx (lw ns (some (.d (.list (.int p :: .int q :: r.map PyData.int)))) (some (.d (.int L))) (some (.d (.int m))) none none none none none none none none none none none none none none) S4) := by
    unfold lw0 lw
    simp [e2, e3, e4]
  have t3 : sSet 5 (eCall (callN tbl 39) 5 (aCons (eIx (eVar 2) (eC (.int 0))) (aCons (eIx (eVar 2) (eC (.int 1))) (aCons (eRep (eLst (aCons (eVar 3) (aNil))) (eVar 4)) (aCons (eTup (aCons (eC (.str "end")) (aNil))) (aNil))))) []) (lw ns (some (.d (.list (.int p :: .int q :: r.map PyData.int)))) (some (.d (.int L))) (some (.d (.int m))) none none none none none none none none none none none none none none) S4 =
      some (.nx (lw ns (some (.d (.list (.int p :: .int q :: r.map PyData.int)))) (some (.d (.int L))) (some (.d (.int m))) (some (.d (talkD p q L m))) none none none none none none none none none none none none none) S4) := by
    have a0 : L2.atI (.int p :: .int q :: r.map PyData.int) 0 = some (.int p) := MP.atI_nat (k := 0) rfl
    have a1 : L2.atI (.int p :: .int q :: r.map PyData.int) 1 = some (.int q) := MP.atI_nat (k := 1) rfl
    have er : eRep (eLst (aCons (eVar 3) (aNil))) (eVar 4) (lw ns (some (.d (.list (.int p :: .int q :: r.map PyData.int)))) (some (.d (.int L))) (some (.d (.int m))) none none none none none none none none none none none none none none) S4 = some (.d (.list (List.replicate m (.int L))), S4) := by
      have c : (0 : Int) ≤ (m : Int) ∧ (m : Int) ≤ 1000 ∧ [PyData.int L].length ≤ 1000 := ⟨by omega, by omega, by simp⟩
      have q1 : eLst (aCons (eVar 3) (aNil)) (lw ns (some (.d (.list (.int p :: .int q :: r.map PyData.int)))) (some (.d (.int L))) (some (.d (.int m))) none none none none none none none none none none none none none none) S4 = some (.d (.list [.int L]), S4) := by
        unfold lw
        simp
      have q2 : eVar 4 (lw ns (some (.d (.list (.int p :: .int q :: r.map PyData.int)))) (some (.d (.int L))) (some (.d (.int m))) none none none none none none none none none none none none none none) S4 = some (.d (.int m), S4) := rfl
      rw [x_rep, q1]
      simp only [q2, if_pos c, Int.toNat_natCast, rep_flat]
    have ix0 : eIx (eVar 2) (eC (.int 0)) (lw ns (some (.d (.list (.int p :: .int q :: r.map PyData.int)))) (some (.d (.int L))) (some (.d (.int m))) none none none none none none none none none none none none none none) S4 = some (.d (.int p), S4) := by
      unfold lw
      simp [a0]
    have ix1 : eIx (eVar 2) (eC (.int 1)) (lw ns (some (.d (.list (.int p :: .int q :: r.map PyData.int)))) (some (.d (.int L))) (some (.d (.int m))) none none none none none none none none none none none none none none) S4 = some (.d (.int q), S4) := by
      unfold lw
      simp [a1]
    rw [x_set, x_call, x_cons, ix0]
    simp only [x_cons, ix1, er, x_tup, x_c, x_nil, x_datas, x_datas0, Option.map_some, e5]
    rfl
  have t4 : sSet 6 (eU opTuple (eComp (sSq (eCall (callN tbl 39) 12 (aCons (eVar 5) (aNil)) [])) (.n 18) [18] (eC (.bool true)) (eCall (callN tbl 39) 15 (aCons (eVar 18) (aNil)) []))) (lw ns (some (.d (.list (.int p :: .int q :: r.map PyData.int)))) (some (.d (.int L))) (some (.d (.int m))) (some (.d (talkD p q L m))) none none none none none none none none none none none none none) S4 =
      some (.nx (lw ns (some (.d (.list (.int p :: .int q :: r.map PyData.int)))) (some (.d (.int L))) (some (.d (.int m))) (some (.d (talkD p q L m))) (some (.d (msD (lineMs p q L m)))) none none none none none none none none none none none none) S5) := by
    have g : eCall (callN tbl 39) 12 (aCons (eVar 5) (aNil)) [] (lw ns (some (.d (.list (.int p :: .int q :: r.map PyData.int)))) (some (.d (.int L))) (some (.d (.int m))) (some (.d (talkD p q L m))) none none none none none none none none none none none none none) S4 = some (.d (.list [partD p q L 0 m, partD p q L 1 m, partD p q L 2 m, partD p q L 3 m]), S5) := by
      rw [x_call, x_cons, show eVar 5 (lw ns (some (.d (.list (.int p :: .int q :: r.map PyData.int)))) (some (.d (.int L))) (some (.d (.int m))) (some (.d (talkD p q L m))) none none none none none none none none none none none none none) S4 = some (.d (talkD p q L m), S4) from rfl]
      simp only [x_nil, e6]
    rw [x_set, x_u, x_comp, x_sq, g]
    simp only [x_wipe, x_wipe0]
    rw [cm _ (by rw [List.length_set]; rfl)]
    rfl
  have rm : (m : Int) + 1 + (d : Int) = ((m + 1 + d : Nat) : Int) := by omega
  have t5 : sSet 7 (eBin opAdd (eBin opAdd (eVar 4) (eC (.int 1))) (eCall (callN tbl 39) 3 (aCons (eVar 1) (aCons (eC (.int 3)) (aNil))) [])) (lw ns (some (.d (.list (.int p :: .int q :: r.map PyData.int)))) (some (.d (.int L))) (some (.d (.int m))) (some (.d (talkD p q L m))) (some (.d (msD (lineMs p q L m)))) none none none none none none none none none none none none) S5 =
      some (.nx (lw ns (some (.d (.list (.int p :: .int q :: r.map PyData.int)))) (some (.d (.int L))) (some (.d (.int m))) (some (.d (talkD p q L m))) (some (.d (msD (lineMs p q L m)))) (some (.d (.int ((m + 1 + d : Nat) : Int)))) none none none none none none none none none none none) S6) := by
    rw [← rm]
    unfold lw
    simp [e7]
  generalize hM : msD (lineMs p q L m) = M at *
  generalize hR : ((m + 1 + d : Nat) : Int) = R at *
  have v4 : ∀ S, eVar 4 (lw ns (some (.d (.list (.int p :: .int q :: r.map PyData.int)))) (some (.d (.int L))) (some (.d (.int m))) (some (.d (talkD p q L m))) (some (.d M)) (some (.d (.int R))) none none none none none none none none none none none) S = some (.d (.int m), S) := fun _ => rfl
  have v6 : ∀ S, eVar 6 (lw ns (some (.d (.list (.int p :: .int q :: r.map PyData.int)))) (some (.d (.int L))) (some (.d (.int m))) (some (.d (talkD p q L m))) (some (.d M)) (some (.d (.int R))) none none none none none none none none none none none) S = some (.d M, S) := fun _ => rfl
  have v7 : ∀ S, eVar 7 (lw ns (some (.d (.list (.int p :: .int q :: r.map PyData.int)))) (some (.d (.int L))) (some (.d (.int m))) (some (.d (talkD p q L m))) (some (.d M)) (some (.d (.int R))) none none none none none none none none none none none) S = some (.d (.int R), S) := fun _ => rfl
  have bl : callN tbl 39 27 [.d M, .d (.int R), .d (.str "lost")] S6 = some (.d (.bool (decide (m = 0))), S6) := bl
  have bd : callN tbl 39 27 [.d M, .d (.int R), .d (.str "doubled")] S6 = some (.d (.bool (decide (m = 0))), S6) := bd
  have zl : m = 0 → callN tbl 39 26 [.d M, .d (.int R), .d (.str "lost")] S6 = some (.d .none, S6) := zl
  have zd : m = 0 → callN tbl 39 26 [.d M, .d (.int R), .d (.str "doubled")] S6 = some (.d .none, S6) := zd
  have q0 : opEq (.int (m : Int)) (.int 0) = some (.bool (decide (m = 0))) := by
    rw [eq_int]
    congr 2
    rw [Bool.eq_iff_iff, decide_eq_true_eq, decide_eq_true_eq]
    omega
  have t6 : sIf (eOr (eBin opIsNot (eCall (callN tbl 39) 24 (aCons (eVar 6) (aCons (eVar 7) (aNil))) []) (eC .none)) (eBin opNe (eAnd (eCall (callN tbl 39) 27 (aCons (eVar 6) (aCons (eVar 7) (aCons (eC (.str "lost")) (aNil)))) []) (eCall (callN tbl 39) 27 (aCons (eVar 6) (aCons (eVar 7) (aCons (eC (.str "doubled")) (aNil)))) [])) (eBin opEq (eVar 4) (eC (.int 0))))) (sRet (eC (.bool false))) (sSkip) (lw ns (some (.d (.list (.int p :: .int q :: r.map PyData.int)))) (some (.d (.int L))) (some (.d (.int m))) (some (.d (talkD p q L m))) (some (.d M)) (some (.d (.int R))) none none none none none none none none none none none) S6 =
      some (.nx (lw ns (some (.d (.list (.int p :: .int q :: r.map PyData.int)))) (some (.d (.int L))) (some (.d (.int m))) (some (.d (talkD p q L m))) (some (.d M)) (some (.d (.int R))) none none none none none none none none none none none) S6) := by
    simp only [x_sIf, x_or, x_bin, x_call, x_cons, v6, v7, x_nil, calm, x_c, x_isNotN, x_isN0, Bool.not_true, Option.map_some, x_and, bl]
    cases hd0 : decide (m = 0) with
    | true =>
      rw [hd0] at bd q0
      simp only [bd, v4, q0, Option.map_some, ne_same, x_skip]
    | false =>
      rw [hd0] at q0
      simp only [v4, q0, Option.map_some, ne_same, x_skip]
  by_cases h0 : m = 0
  · have dz : decide (m = 0) = true := decide_eq_true h0
    have t7 : sIf (eBin opEq (eVar 4) (eC (.int 0))) (sRet (eAnd (eBin opIs (eCall (callN tbl 39) 26 (aCons (eVar 6) (aCons (eVar 7) (aCons (eC (.str "lost")) (aNil)))) []) (eC .none)) (eBin opIs (eCall (callN tbl 39) 26 (aCons (eVar 6) (aCons (eVar 7) (aCons (eC (.str "doubled")) (aNil)))) []) (eC .none)))) (sSkip) (lw ns (some (.d (.list (.int p :: .int q :: r.map PyData.int)))) (some (.d (.int L))) (some (.d (.int m))) (some (.d (talkD p q L m))) (some (.d M)) (some (.d (.int R))) none none none none none none none none none none none) S6 =
        some (.ret (.d (.bool true)) S6) := by
      rw [dz] at q0
      simp only [x_sIf, x_bin, v4, x_c, q0, Option.map_some, x_ret, x_and, x_call, x_cons, v6, v7, x_nil, zl h0, zd h0, x_isN, x_isN0]
    refine ⟨S6, ?_⟩
    rw [call_law]
    unfold b_law runFn
    rw [hs0, sSeq_nx t1, sSeq_nx t2, sSeq_nx t3, sSeq_nx t4, sSeq_nx t5, sSeq_nx t6, x_seq, t7]
  · have dz : decide (m = 0) = false := decide_eq_false h0
    have t7 : sIf (eBin opEq (eVar 4) (eC (.int 0))) (sRet (eAnd (eBin opIs (eCall (callN tbl 39) 26 (aCons (eVar 6) (aCons (eVar 7) (aCons (eC (.str "lost")) (aNil)))) []) (eC .none)) (eBin opIs (eCall (callN tbl 39) 26 (aCons (eVar 6) (aCons (eVar 7) (aCons (eC (.str "doubled")) (aNil)))) []) (eC .none)))) (sSkip) (lw ns (some (.d (.list (.int p :: .int q :: r.map PyData.int)))) (some (.d (.int L))) (some (.d (.int m))) (some (.d (talkD p q L m))) (some (.d M)) (some (.d (.int R))) none none none none none none none none none none none) S6 =
        some (.nx (lw ns (some (.d (.list (.int p :: .int q :: r.map PyData.int)))) (some (.d (.int L))) (some (.d (.int m))) (some (.d (talkD p q L m))) (some (.d M)) (some (.d (.int R))) none none none none none none none none none none none) S6) := by
      rw [dz] at q0
      simp only [x_sIf, x_bin, v4, x_c, q0, Option.map_some, x_skip]
    obtain ⟨a11, a12, a13, a14, a15, a16, a17, u1⟩ := turn (L := L) hp hq hpq hm h0 hd true ns r (some (.d (talkD p q L m))) none none none none none none none none S6
    obtain ⟨b11, b12, b13, b14, b15, b16, b17, u2⟩ := turn (L := L) hp hq hpq hm h0 hd false ns r (some (.d (talkD p q L m))) a11 a12 a13 a14 a15 a16 a17 none S6
    rw [hM, hR] at u1 u2
    have t8 : sFor (sSq (eTup (aCons (eTup (aCons (eC (.str "lost")) (aCons (eC (.str "stuck")) (aCons (eC (.int 0)) (aNil))))) (aCons (eTup (aCons (eC (.str "doubled")) (aCons (eC (.str "left")) (aCons (eC (.int 1)) (aNil))))) (aNil))))) (.t [8, 9, 10]) (l1_law (callN tbl 39)) (lw ns (some (.d (.list (.int p :: .int q :: r.map PyData.int)))) (some (.d (.int L))) (some (.d (.int m))) (some (.d (talkD p q L m))) (some (.d M)) (some (.d (.int R))) none none none none none none none none none none none) S6 =
        some (.nx (lt ns r p q L m (some (.d (talkD p q L m))) M R false b11 b12 b13 b14 b15 b16 b17 none) S6) := by
      rw [x_for]
      have src : ∀ ρ : MP.Env, sSq (eTup (aCons (eTup (aCons (eC (.str "lost")) (aCons (eC (.str "stuck")) (aCons (eC (.int 0)) (aNil))))) (aCons (eTup (aCons (eC (.str "doubled")) (aCons (eC (.str "left")) (aCons (eC (.int 1)) (aNil))))) (aNil)))) ρ S6 = some ([.tuple [.str "lost", .str "stuck", .int 0], .tuple [.str "doubled", .str "left", .int 1]], S6) := fun _ => rfl
      rw [src]
      have f1 : (Tg.t [8, 9, 10]).set (.tuple [.str "lost", .str "stuck", .int 0]) (lw ns (some (.d (.list (.int p :: .int q :: r.map PyData.int)))) (some (.d (.int L))) (some (.d (.int m))) (some (.d (talkD p q L m))) (some (.d M)) (some (.d (.int R))) none none none none none none none none none none none) = some (lt ns r p q L m (some (.d (talkD p q L m))) M R true none none none none none none none none) := rfl
      have f2 : (Tg.t [8, 9, 10]).set (.tuple [.str "doubled", .str "left", .int 1]) (lt ns r p q L m (some (.d (talkD p q L m))) M R true a11 a12 a13 a14 a15 a16 a17 none) = some (lt ns r p q L m (some (.d (talkD p q L m))) M R false a11 a12 a13 a14 a15 a16 a17 none) := rfl
      simp only
      rw [forRun, f1]
      simp only [u1]
      rw [forRun, f2]
      simp only [u2]
      rfl
    refine ⟨S6, ?_⟩
    rw [call_law]
    unfold b_law runFn
    rw [hs0, sSeq_nx t1, sSeq_nx t2, sSeq_nx t3, sSeq_nx t4, sSeq_nx t5, sSeq_nx t6, sSeq_nx t7, sSeq_nx t8]
    rfl
end K53
set_option Elab.async false
set_option maxRecDepth 100000
open PySem PySem.W PyProof.Rows in
set_option maxRecDepth 100000 in
set_option maxHeartbeats 0 in
theorem PySem.Challenge.cw_everytalk_k53_whole_lines_with_a_letter_holds : PySem.Challenge.rw_everytalk_k53_whole_lines_with_a_letter.Holds := by
  w_on; o_law; k_head; (case hw => w_witness2)
  k_fill
  refine MP.walkL (l := PySem.Challenge.rw_everytalk_k53_whole_lines_with_a_letter) (k := MP.lv 40) ⟨rfl, by decide, by decide⟩ rfl rfl (fun w h Y => PySem.W.kIn_of Y) ?F
  case F =>
    intro w mg fa h KX G hmg
    refine' K53.all_mk 40 KX G hmg ?aC_Parter ?a__law_same ?l__law_same ?c__law_same ?k__law_same ?a__law_pool ?l__law_pool ?c__law_pool ?k__law_pool ?a__law_spread ?l__law_spread ?c__law_spread ?k__law_spread ?a__law_draw ?l__law_draw ?c__law_draw ?k__law_draw ?a__law_shuffled ?l__law_shuffled ?c__law_shuffled ?k__law_shuffled ?a__law_line_of ?l__law_line_of ?c__law_line_of ?k__law_line_of ?a_law ?l_law ?c_law ?k_law ?a_Parter_init ?i_Parter_init ?l_Parter_init ?c_Parter_init ?k_Parter_init ?a_Parter_part ?i_Parter_part ?l_Parter_part ?c_Parter_part ?k_Parter_part ?a_Parter_of_saying ?i_Parter_of_saying ?l_Parter_of_saying ?c_Parter_of_saying ?k_Parter_of_saying ?a_size_of ?l_size_of ?c_size_of ?k_size_of ?a_parted ?l_parted ?c_parted ?k_parted ?a_parts ?l_parts ?c_parts ?k_parts ?a_opened ?l_opened ?c_opened ?k_opened ?a_steps_from ?l_steps_from ?c_steps_from ?k_steps_from ?a_machine_of ?l_machine_of ?c_machine_of ?k_machine_of ?a_begin ?l_begin ?c_begin ?k_begin ?a_on_way ?l_on_way ?c_on_way ?k_on_way ?a_with_row ?l_with_row ?c_with_row ?k_with_row ?a_moved ?l_moved ?c_moved ?k_moved ?a_deeds ?l_deeds ?c_deeds ?k_deeds ?a_trouble_at ?l_trouble_at ?c_trouble_at ?k_trouble_at ?a_is_unheard ?l_is_unheard ?c_is_unheard ?k_is_unheard ?a_search ?l_search ?c_search ?k_search ?a_trouble ?l_trouble ?c_trouble ?k_trouble ?a_spoiled ?l_spoiled ?c_spoiled ?k_spoiled ?a_search_2 ?l_search_2 ?c_search_2 ?k_search_2 ?a_bears ?l_bears ?c_bears ?k_bears ?c_MOST_letters ?c_MOST_losses ?c_WORDS ?l_WORDS ?pg_Parter ?hd_Parter ?po_Parter ?sa_Parter ?mk_Parter ?kc_Parter ?n_Parter_role ?n_Parter_trouble ?z_len ?z_range ?z_sorted ?z_set ?z_all ?z_any ?z_sum ?z_max ?z_tuple ?z_list ?z_dict ?z_int ?z_bool ?z_str ?z_isinstance K53.law_true
    (case aC_Parter => k_is)
    (case a__law_same => k_is)
    (case l__law_same => k_is)
    (case c__law_same => k_is)
    (case k__law_same => k_is)
    (case a__law_pool => k_is)
    (case l__law_pool => k_is)
    (case c__law_pool => k_is)
    (case k__law_pool => k_is)
    (case a__law_spread => k_is)
    (case l__law_spread => k_is)
    (case c__law_spread => k_is)
    (case k__law_spread => k_is)
    (case a__law_draw => k_is)
    (case l__law_draw => k_is)
    (case c__law_draw => k_is)
    (case k__law_draw => k_is)
    (case a__law_shuffled => k_is)
    (case l__law_shuffled => k_is)
    (case c__law_shuffled => k_is)
    (case k__law_shuffled => k_is)
    (case a__law_line_of => k_is)
    (case l__law_line_of => k_is)
    (case c__law_line_of => k_is)
    (case k__law_line_of => k_is)
    (case a_law => k_is)
    (case l_law => k_is)
    (case c_law => k_is)
    (case k_law => k_is)
    (case a_Parter_init => k_is)
    (case i_Parter_init => k_is)
    (case l_Parter_init => k_is)
    (case c_Parter_init => k_is)
    (case k_Parter_init => k_is)
    (case a_Parter_part => k_is)
    (case i_Parter_part => k_is)
    (case l_Parter_part => k_is)
    (case c_Parter_part => k_is)
    (case k_Parter_part => k_is)
    (case a_Parter_of_saying => k_is)
    (case i_Parter_of_saying => k_is)
    (case l_Parter_of_saying => k_is)
    (case c_Parter_of_saying => k_is)
    (case k_Parter_of_saying => k_is)
    (case a_size_of => k_is)
    (case l_size_of => k_is)
    (case c_size_of => k_is)
    (case k_size_of => k_is)
    (case a_parted => k_is)
    (case l_parted => k_is)
    (case c_parted => k_is)
    (case k_parted => k_is)
    (case a_parts => k_is)
    (case l_parts => k_is)
    (case c_parts => k_is)
    (case k_parts => k_is)
    (case a_opened => k_is)
    (case l_opened => k_is)
    (case c_opened => k_is)
    (case k_opened => k_is)
    (case a_steps_from => k_is)
    (case l_steps_from => k_is)
    (case c_steps_from => k_is)
    (case k_steps_from => k_is)
    (case a_machine_of => k_is)
    (case l_machine_of => k_is)
    (case c_machine_of => k_is)
    (case k_machine_of => k_is)
    (case a_begin => k_is)
    (case l_begin => k_is)
    (case c_begin => k_is)
    (case k_begin => k_is)
    (case a_on_way => k_is)
    (case l_on_way => k_is)
    (case c_on_way => k_is)
    (case k_on_way => k_is)
    (case a_with_row => k_is)
    (case l_with_row => k_is)
    (case c_with_row => k_is)
    (case k_with_row => k_is)
    (case a_moved => k_is)
    (case l_moved => k_is)
    (case c_moved => k_is)
    (case k_moved => k_is)
    (case a_deeds => k_is)
    (case l_deeds => k_is)
    (case c_deeds => k_is)
    (case k_deeds => k_is)
    (case a_trouble_at => k_is)
    (case l_trouble_at => k_is)
    (case c_trouble_at => k_is)
    (case k_trouble_at => k_is)
    (case a_is_unheard => k_is)
    (case l_is_unheard => k_is)
    (case c_is_unheard => k_is)
    (case k_is_unheard => k_is)
    (case a_search => k_is)
    (case l_search => k_is)
    (case c_search => k_is)
    (case k_search => k_is)
    (case a_trouble => k_is)
    (case l_trouble => k_is)
    (case c_trouble => k_is)
    (case k_trouble => k_is)
    (case a_spoiled => k_is)
    (case l_spoiled => k_is)
    (case c_spoiled => k_is)
    (case k_spoiled => k_is)
    (case a_search_2 => k_is)
    (case l_search_2 => k_is)
    (case c_search_2 => k_is)
    (case k_search_2 => k_is)
    (case a_bears => k_is)
    (case l_bears => k_is)
    (case c_bears => k_is)
    (case k_bears => k_is)
    (case c_MOST_letters => k_is)
    (case c_MOST_losses => k_is)
    (case c_WORDS => k_is)
    (case l_WORDS => k_is)
    (case pg_Parter => k_is)
    (case hd_Parter => k_is)
    (case po_Parter => k_is)
    (case sa_Parter => k_is)
    (case mk_Parter => k_is)
    (case kc_Parter => k_is)
    (case n_Parter_role => k_is)
    (case n_Parter_trouble => k_is)
    (case z_len => k_is)
    (case z_range => k_is)
    (case z_sorted => k_is)
    (case z_set => k_is)
    (case z_all => k_is)
    (case z_any => k_is)
    (case z_sum => k_is)
    (case z_max => k_is)
    (case z_tuple => k_is)
    (case z_list => k_is)
    (case z_dict => k_is)
    (case z_int => k_is)
    (case z_bool => k_is)
    (case z_str => k_is)
    (case z_isinstance => k_is)
