import PyProof.Rows.All
import Wide.All
import OpenK.AllK
import Wide.FinOn
import HandS.ForMost
import HandS.Walk
import HandS.Deep
import HandS.TupAny
import HandS.IsInst
import HandS.TupMul
import HandS.Zip
import HandS.Codes
import HandS.Flow
import HandS.Style
import HandS.Wide
import KE.SortData
import HandS.WordsDict
import HandS.SetFor
import KE.GoesEnum
import HandS.SetBool
import HandS.Strs
import PySem.Challenge.RW_treesheld_k70_whole_claims
section
set_option Elab.async false
set_option linter.all false
set_option maxRecDepth 100000
/-! Ev1: a shallow evaluator over the hand layer: values as data, a growing part of the heap that never changes, lists and dicts of the frame's own that change. -/
namespace Ev
open PySem PySem.Spec L2
set_option autoImplicit false

/-! ### values as data -/
/-- a dict's key as a datum -/
def kD : Key → PyData
  | .inl i => .int i
  | .inr x => .str x
mutual
inductive Rp (K : PySem.W.Frag) (G : Hp) : V → PyData → Prop
  | non : Rp K G .non .none
  | bl (b : Bool) : Rp K G (.bl b) (.bool b)
  | int (i : Int) : Rp K G (.int i) (.int i)
  | str (x : Str) : Rp K G (.str x) (.str x)
  | lst {a : Addr} {xs : List V} {ds : List PyData} : G a = some (.lst xs) → RpAll K G xs ds → Rp K G (.ref a) (.list ds)
  | tup {a : Addr} {xs : List V} {ds : List PyData} : SqT K G a xs → RpAll K G xs ds → Rp K G (.ref a) (.tuple ds)
  | dct {a : Addr} {kvs : List (Key × V)} {es : List (PyData × PyData)} : G a = some (.dK kvs) → RpKvs K G kvs es → Rp K G (.ref a) (.dict es)
  /-- a def of the module -/
  | fn {x : Str} {a : Addr} : PySem.W.nsIn K mainGlobals x = some (some (.ref a)) → Rp K G (.ref a) (.dict [(.bool true, .str x)])
inductive RpAll (K : PySem.W.Frag) (G : Hp) : List V → List PyData → Prop
  | nil : RpAll K G [] []
  | cons {v : V} {vs : List V} {d : PyData} {ds : List PyData} : Rp K G v d → RpAll K G vs ds → RpAll K G (v :: vs) (d :: ds)
inductive RpKvs (K : PySem.W.Frag) (G : Hp) : List (Key × V) → List (PyData × PyData) → Prop
  | nil : RpKvs K G [] []
  | cons {k : Key} {v : V} {kvs : List (Key × V)} {d : PyData} {es : List (PyData × PyData)} : Rp K G v d → RpKvs K G kvs es → RpKvs K G ((k, v) :: kvs) ((kD k, d) :: es)
end

theorem tup_mono {K : PySem.W.Frag} {G G' : Hp} (e : Same G G') {a : Addr} {xs : List V} (h : SqT K G a xs) : SqT K G' a xs := by
  rcases h with (h | ⟨o, h⟩) | h
  · exact .inl (.inl (e _ _ h))
  · exact .inl (.inr ⟨o, e _ _ h⟩)
  · exact .inr h

mutual
theorem Rp.mono {K : PySem.W.Frag} {G G' : Hp} (e : Same G G') : ∀ {v : V} {d : PyData}, Rp K G v d → Rp K G' v d
  | _, _, .non => .non
  | _, _, .bl b => .bl b
  | _, _, .int i => .int i
  | _, _, .str x => .str x
  | _, _, .lst h r => .lst (e _ _ h) (RpAll.mono e r)
  | _, _, .tup h r => .tup (tup_mono e h) (RpAll.mono e r)
  | _, _, .dct h r => .dct (e _ _ h) (RpKvs.mono e r)
  | _, _, .fn h => .fn h
theorem RpAll.mono {K : PySem.W.Frag} {G G' : Hp} (e : Same G G') : ∀ {vs : List V} {ds : List PyData}, RpAll K G vs ds → RpAll K G' vs ds
  | _, _, .nil => .nil
  | _, _, .cons r t => .cons (Rp.mono e r) (RpAll.mono e t)
theorem RpKvs.mono {K : PySem.W.Frag} {G G' : Hp} (e : Same G G') : ∀ {kvs : List (Key × V)} {es : List (PyData × PyData)}, RpKvs K G kvs es → RpKvs K G' kvs es
  | _, _, .nil => .nil
  | _, _, .cons r t => .cons (Rp.mono e r) (RpKvs.mono e t)
end

section
variable {K : PySem.W.Frag} {G : Hp}
theorem RpAll.length : ∀ {vs : List V} {ds : List PyData}, RpAll K G vs ds → vs.length = ds.length
  | _, _, .nil => rfl
  | _, _, .cons _ t => congrArg (· + 1) t.length
theorem RpAll.get : ∀ {vs : List V} {ds : List PyData} {i : Nat} {d : PyData}, RpAll K G vs ds → ds[i]? = some d → ∃ v, vs[i]? = some v ∧ Rp K G v d
  | _, _, _, _, .nil, e => by simp at e
  | _, _, 0, _, .cons r _, e => by simp at e; subst e; exact ⟨_, rfl, r⟩
  | _, _, i + 1, d, .cons _ t, e => by
    obtain ⟨v, h1, h2⟩ := RpAll.get (i := i) (d := d) t (by simpa using e)
    exact ⟨v, by simpa using h1, h2⟩
theorem RpAll.getV : ∀ {vs : List V} {ds : List PyData} {i : Nat} {v : V}, RpAll K G vs ds → vs[i]? = some v → ∃ d, ds[i]? = some d ∧ Rp K G v d
  | _, _, _, _, .nil, e => by simp at e
  | _, _, 0, _, .cons r _, e => by simp at e; subst e; exact ⟨_, rfl, r⟩
  | _, _, i + 1, v, .cons _ t, e => by
    obtain ⟨d, h1, h2⟩ := RpAll.getV (i := i) (v := v) t (by simpa using e)
    exact ⟨d, by simpa using h1, h2⟩
theorem RpAll.append : ∀ {xs ys : List V} {ds es : List PyData}, RpAll K G xs ds → RpAll K G ys es → RpAll K G (xs ++ ys) (ds ++ es)
  | _, _, _, _, .nil, s => s
  | _, _, _, _, .cons r t, s => .cons r (RpAll.append t s)
theorem RpAll.drop : ∀ {xs : List V} {ds : List PyData} (n : Nat), RpAll K G xs ds → RpAll K G (xs.drop n) (ds.drop n)
  | _, _, 0, h => h
  | _, _, _ + 1, .nil => .nil
  | _, _, n + 1, .cons _ t => RpAll.drop n t
theorem RpAll.take : ∀ {xs : List V} {ds : List PyData} (n : Nat), RpAll K G xs ds → RpAll K G (xs.take n) (ds.take n)
  | _, _, 0, _ => .nil
  | _, _, _ + 1, .nil => .nil
  | _, _, n + 1, .cons r t => .cons r (RpAll.take n t)
theorem RpAll.snoc {xs : List V} {ds : List PyData} {v : V} {d : PyData} (h : RpAll K G xs ds) (r : Rp K G v d) : RpAll K G (xs ++ [v]) (ds ++ [d]) := h.append (.cons r .nil)
theorem RpAll.reverse : ∀ {xs : List V} {ds : List PyData}, RpAll K G xs ds → RpAll K G xs.reverse ds.reverse
  | _, _, .nil => .nil
  | _, _, .cons r t => by rw [List.reverse_cons, List.reverse_cons]; exact (RpAll.reverse t).snoc r
theorem RpAll.erase : ∀ {xs : List V} {ds : List PyData} (n : Nat), RpAll K G xs ds → RpAll K G (xs.eraseIdx n) (ds.eraseIdx n)
  | _, _, _, .nil => .nil
  | _, _, 0, .cons _ t => t
  | _, _, n + 1, .cons r t => .cons r (RpAll.erase n t)
theorem RpAll.dropLast : ∀ {xs : List V} {ds : List PyData}, RpAll K G xs ds → RpAll K G xs.dropLast ds.dropLast
  | _, _, .nil => .nil
  | _, _, .cons _ .nil => .nil
  | _, _, .cons r (.cons r' t) => .cons r (RpAll.dropLast (.cons r' t))
theorem RpAll.ints : ∀ {vs : List V} {ds : List PyData}, RpAll K G vs ds → ∀ ns : List Int, ds = ns.map PyData.int → vs = ns.map V.int
  | _, _, .nil, [], _ => rfl
  | _, _, .cons r t, n :: ns, e => by
    rw [List.map_cons] at e
    injection e with e1 e2
    subst e1
    cases r
    rw [List.map_cons, RpAll.ints t ns e2]
theorem RpAll.bools : ∀ {vs : List V} {ds : List PyData}, RpAll K G vs ds → ∀ ns : List Bool, ds = ns.map PyData.bool → vs = ns.map V.bl
  | _, _, .nil, [], _ => rfl
  | _, _, .cons r t, n :: ns, e => by
    rw [List.map_cons] at e
    injection e with e1 e2
    subst e1
    cases r
    rw [List.map_cons, RpAll.bools t ns e2]
theorem RpAll.strs : ∀ {vs : List V} {ds : List PyData}, RpAll K G vs ds → ∀ ns : List Str, ds = ns.map PyData.str → vs = ns.map V.str
  | _, _, .nil, [], _ => rfl
  | _, _, .cons r t, n :: ns, e => by
    rw [List.map_cons] at e
    injection e with e1 e2
    subst e1
    cases r
    rw [List.map_cons, RpAll.strs t ns e2]
end

/-! data for the library's deep == -/
mutual
def plain : PyData → Bool
  | .none | .bool _ | .int _ | .str _ => true
  | .list xs | .tuple xs => plainAll xs
  | .dict _ => false
def plainAll : List PyData → Bool
  | [] => true
  | x :: xs => plain x && plainAll xs
end
mutual
theorem plain_of_lay : ∀ d : PyData, d.canLay0 = true → plain d = true
  | .none, _ => by simp [plain]
  | .bool _, _ => by simp [plain]
  | .int _, _ => by simp [plain]
  | .str _, _ => by simp [plain]
  | .list xs, h => by simp only [plain]; exact plainAll_of_lay xs (by simpa [PyData.canLay0] using h)
  | .tuple xs, h => by simp only [plain]; exact plainAll_of_lay xs (by simpa [PyData.canLay0] using h)
  | .dict _, h => by simp [PyData.canLay0] at h
theorem plainAll_of_lay : ∀ ds : List PyData, PyData.canLayAll0 ds = true → plainAll ds = true
  | [], _ => by simp [plainAll]
  | x :: xs, h => by
    have h' : x.canLay0 = true ∧ PyData.canLayAll0 xs = true := by simpa [PyData.canLayAll0] using h
    simp [plainAll, plain_of_lay x h'.1, plainAll_of_lay xs h'.2]
end
theorem plain_of_shaped {d : PyData} (h : SeqAt.shaped d = true) : plain d = true := plain_of_lay d (SeqAt.canLay_of_shaped h)
mutual
theorem Rp.dp {K : PySem.W.Frag} {G H : Hp} (e : Same G H) : ∀ {v : V} {d : PyData}, Rp K G v d → plain d = true → Dp K H v d
  | _, _, .non, _ => .non
  | _, _, .bl b, _ => .bl b
  | _, _, .int i, _ => .int i
  | _, _, .str x, _ => .str x
  | _, _, .lst h r, p => .lst (SqL.of (e _ _ h)) (RpAll.dp e r (by simpa [plain] using p))
  | _, _, .tup h r, p => .tup (tup_mono e h) (RpAll.dp e r (by simpa [plain] using p))
  | _, _, .dct _ _, p => by simp [plain] at p
  | _, _, .fn _, p => by simp [plain] at p
theorem RpAll.dp {K : PySem.W.Frag} {G H : Hp} (e : Same G H) : ∀ {vs : List V} {ds : List PyData}, RpAll K G vs ds → plainAll ds = true → DpAll K H vs ds
  | _, _, .nil, _ => .nil
  | _, _, .cons r t, p => by
    have p' := Bool.and_eq_true_iff.mp (show (plain _ && plainAll _) = true by simpa [plainAll] using p)
    exact .cons (Rp.dp e r p'.1) (RpAll.dp e t p'.2)
end

/-! ### the box, the frame's own lists -/
/-- what the law's box holds: its list, its two numbers -/
structure BoxSt where
  cells : List Int
  b1 : Int
  b2 : Int
def tailA (b : Int) (cs : List Int) : Int × List Int × Int :=
  ((b * 48271 + 17) % 2147483629 * 4611686014132420609 + ((b * 48271 + 17) % 2147483629 * 69621 + 5) % 2147483587 * 2147483647 + ((((b * 48271 + 17) % 2147483629 * 69621 + 5) % 2147483587) * 40692 + 3) % 2147483563, cs,
    ((((b * 48271 + 17) % 2147483629 * 69621 + 5) % 2147483587) * 40692 + 3) % 2147483563)
def sizeA (cell : Int) : Int := if 0 ≤ cell then 2 * cell else -2 * cell - 1
def loadA : List Int → Int → Int × List Int × Int
  | [], b => tailA b []
  | cell :: r, b => if 1000000000000000000 ≤ sizeA cell then (sizeA cell, r, b) else tailA ((b * 69621 + sizeA cell * 48271 + 11) % 2147483647) r
def drawA (t : BoxSt) (m : Int) : Int × BoxSt :=
  if t.b1 < m then ((loadA t.cells t.b2).1 % m, ⟨(loadA t.cells t.b2).2.1, (loadA t.cells t.b2).1 / m, (loadA t.cells t.b2).2.2⟩) else (t.b1 % m, ⟨t.cells, t.b1 / m, t.b2⟩)
/-- the digits that will be drawn: of how many, which one -/
structure Bx where
  fut : List (Int × Int)
def Fut : BoxSt → List (Int × Int) → Prop
  | _, [] => True
  | t, (m, d) :: r => (drawA t m).1 = d ∧ Fut (drawA t m).2 r
structure Cf where
  K : PySem.W.Frag
  bx : Option (Addr × Addr)
def Cf.box (c : Cf) (a : Addr) : Prop := ∃ B C, c.bx = some (B, C) ∧ (a = B ∨ a = C)
def BoxAt (c : Cf) (H : Hp) (s : Bx) : Prop := ∀ B C, c.bx = some (B, C) → ∃ t : BoxSt, Fut t s.fut ∧ H B = some (.lst [.ref C, .int t.b1, .int t.b2]) ∧ H C = some (.lst (t.cells.map V.int)) ∧ B ≠ C
theorem BoxAt.atB {c : Cf} {H : Hp} {s : Bx} (h : BoxAt c H s) {B C : Addr} (e : c.bx = some (B, C)) : ∃ o, H B = some o := let ⟨_, _, h1, _⟩ := h B C e; ⟨_, h1⟩
theorem BoxAt.atC {c : Cf} {H : Hp} {s : Bx} (h : BoxAt c H s) {B C : Addr} (e : c.bx = some (B, C)) : ∃ o, H C = some o := let ⟨_, _, _, h1, _⟩ := h B C e; ⟨_, h1⟩
/-- what stands for the box among data -/
def boxD : PyData := .dict [(.none, .none)]
def RpX (c : Cf) (G : Hp) (v : V) (d : PyData) : Prop := Rp c.K G v d ∨ (d = boxD ∧ ∃ B C, c.bx = some (B, C) ∧ v = .ref B)
inductive RpXs (c : Cf) (G : Hp) : List V → List PyData → Prop
  | nil : RpXs c G [] []
  | cons {v : V} {vs : List V} {d : PyData} {ds : List PyData} : RpX c G v d → RpXs c G vs ds → RpXs c G (v :: vs) (d :: ds)
theorem RpX.mono {c : Cf} {G G' : Hp} (e : Same G G') {v : V} {d : PyData} (h : RpX c G v d) : RpX c G' v d := h.imp (fun h => h.mono e) id
theorem RpXs.mono {c : Cf} {G G' : Hp} (e : Same G G') : ∀ {vs : List V} {ds : List PyData}, RpXs c G vs ds → RpXs c G' vs ds
  | _, _, .nil => .nil
  | _, _, .cons h t => .cons (h.mono e) (t.mono e)
theorem RpXs.length {c : Cf} {G : Hp} : ∀ {vs : List V} {ds : List PyData}, RpXs c G vs ds → vs.length = ds.length
  | _, _, .nil => rfl
  | _, _, .cons _ t => congrArg (· + 1) t.length
/-- a dict, not the box, not a def -/
def okD : List (PyData × PyData) → Bool
  | [(.none, .none)] => false
  | [(.bool true, _)] => false
  | _ => true
/-- a datum that is no dict with a key None: not the box -/
def notBox : PyData → Bool
  | .dict [(.none, .none)] => false
  | _ => true
theorem okD_nb {es : List (PyData × PyData)} (h : okD es = true) : notBox (.dict es) = true := by
  unfold notBox
  split
  · rename_i q
    injection q with q
    subst q
    cases h
  · rfl
theorem RpX.rp {c : Cf} {G : Hp} {v : V} {d : PyData} (h : RpX c G v d) (n : notBox d = true) : Rp c.K G v d := by
  rcases h with h | ⟨rfl, _⟩
  · exact h
  · exact absurd n (by simp [notBox, boxD])
theorem RpXs.rp {c : Cf} {G : Hp} : ∀ {vs : List V} {ds : List PyData}, RpXs c G vs ds → ds.all notBox = true → RpAll c.K G vs ds
  | _, _, .nil, _ => .nil
  | _, _, .cons h t, n => by
    rw [List.all_cons, Bool.and_eq_true] at n
    exact .cons (h.rp n.1) (t.rp n.2)

inductive EV where
  | imm (d : PyData)
  | mut (l : List PyData)
  | dmut (es : List (PyData × PyData))
abbrev En := List (Option EV)
/-- slot i holds a list or dict of the frame's own at a -/
def IsMut (env : En) (σ : St) (i : Nat) (a : Addr) : Prop := ((∃ l, env[i]? = some (some (EV.mut l))) ∨ ∃ es, env[i]? = some (some (EV.dmut es))) ∧ σ[i]? = some (some (V.ref a))
def Tch (c : Cf) (env : En) (σ : St) (a : Addr) : Prop := c.box a ∨ ∃ i, IsMut env σ i a

structure INV (c : Cf) (σ : St) (env : En) (s : Bx) (G H : Hp) : Prop where
  sub : Same G H
  box : BoxAt c H s
  bfree : ∀ a, c.box a → G a = none
  len : env.length = σ.length
  val : ∀ (i : Nat) (d : PyData), env[i]? = some (some (EV.imm d)) → ∃ v, σ[i]? = some (some v) ∧ RpX c G v d
  mt : ∀ (i : Nat) (l : List PyData), env[i]? = some (some (EV.mut l)) → ∃ a xs, σ[i]? = some (some (V.ref a)) ∧ H a = some (.lst xs) ∧ G a = none ∧ RpAll c.K G xs l ∧ ¬ c.box a
  dm : ∀ (i : Nat) (es : List (PyData × PyData)), env[i]? = some (some (EV.dmut es)) → ∃ a kvs, σ[i]? = some (some (V.ref a)) ∧ H a = some (.dK kvs) ∧ G a = none ∧ RpKvs c.K G kvs es ∧ ¬ c.box a
  sep : ∀ (i j : Nat) (a : Addr), IsMut env σ i a → IsMut env σ j a → i = j

structure Mv (c : Cf) (σ : St) (env : En) (G H : Hp) (σ' : St) (env' : En) (G' H' : Hp) : Prop where
  sub : Same G G'
  keep : ∀ b o, H b = some o → ¬ Tch c env σ b → H' b = some o ∧ (G b = none → G' b = none) ∧ ¬ Tch c env' σ' b
  stay : ∀ b o, H b = some o → ∃ o', H' b = some o'
theorem Mv.fresh {c : Cf} {σ σ' : St} {env env' : En} {G G' H H' : Hp} (m : Mv c σ env G H σ' env' G' H') {p : Addr} (h : H' p = none) : H p = none := by
  cases q : H p with
  | none => rfl
  | some o =>
    obtain ⟨o', e⟩ := m.stay p o q
    rw [h] at e; cases e
abbrev INV0 (c : Cf) (s : Bx) (G H : Hp) : Prop := INV c [] [] s G H
abbrev Mv0 (c : Cf) (G H G' H' : Hp) : Prop := Mv c [] [] G H [] [] G' H'

section
variable {c : Cf} {σ σ' σ2 : St} {env env' env2 : En} {s s' : Bx} {G G' G2 H H' H2 : Hp}
theorem Mv.refl : Mv c σ env G H σ env G H := ⟨Same.refl _, fun b o h n => ⟨h, id, n⟩, fun b o h => ⟨o, h⟩⟩
theorem Mv.trans (a : Mv c σ env G H σ' env' G' H') (b : Mv c σ' env' G' H' σ2 env2 G2 H2) : Mv c σ env G H σ2 env2 G2 H2 :=
  ⟨a.sub.trans b.sub, fun d o h n => by
    obtain ⟨h1, g1, n1⟩ := a.keep d o h n
    obtain ⟨h2, g2, n2⟩ := b.keep d o h1 n1
    exact ⟨h2, fun z => g2 (g1 z), n2⟩, fun d o h => let ⟨o1, h1⟩ := a.stay d o h; b.stay d o1 h1⟩
theorem tch0 {a : Addr} : Tch c [] [] a ↔ c.box a := by
  constructor
  · rintro (h | ⟨i, ⟨l, e⟩ | ⟨es, e⟩, _⟩)
    · exact h
    · simp at e
    · simp at e
  · exact fun h => .inl h
theorem INV.base (I : INV c σ env s G H) : INV0 c s G H :=
  ⟨I.sub, I.box, I.bfree, rfl, fun i d e => by simp at e, fun i l e => by simp at e, fun i l e => by simp at e, fun i j a h => by obtain ⟨⟨l, e⟩ | ⟨es, e⟩, _⟩ := h <;> simp at e⟩
theorem INV.free (I : INV c σ env s G H) {p : Addr} (h : H p = none) : G p = none := I.sub.free h
/-- behind a call -/
theorem INV.lift (I : INV c σ env s G H) (J : INV0 c s' G' H') (m : Mv0 c G H G' H') : INV c σ env s' G' H' := by
  refine ⟨J.sub, J.box, J.bfree, I.len, fun i d e => ?_, fun i l e => ?_, fun i es e => ?_, I.sep⟩
  · obtain ⟨v, h1, h2⟩ := I.val i d e
    exact ⟨v, h1, h2.mono m.sub⟩
  · obtain ⟨a, xs, h1, h2, h3, h4, h5⟩ := I.mt i l e
    obtain ⟨k1, k2, _⟩ := m.keep a _ h2 fun z => h5 (tch0.mp z)
    exact ⟨a, xs, h1, k1, k2 h3, h4.mono m.sub, h5⟩
  · obtain ⟨a, xs, h1, h2, h3, h4, h5⟩ := I.dm i es e
    obtain ⟨k1, k2, _⟩ := m.keep a _ h2 fun z => h5 (tch0.mp z)
    exact ⟨a, xs, h1, k1, k2 h3, h4.mono m.sub, h5⟩
theorem Mv.lift (m : Mv0 c G H G' H') : Mv c σ env G H σ env G' H' :=
  ⟨m.sub, fun b o h n => by
    obtain ⟨k1, k2, _⟩ := m.keep b o h fun z => n (.inl (tch0.mp z))
    exact ⟨k1, k2, n⟩, m.stay⟩
/-- a new object that never changes -/
theorem INV.alloc (I : INV0 c s G H) {p : Addr} (h : H p = none) (o : HO) : INV0 c s (upd G p o) (upd H p o) ∧ Mv0 c G H (upd G p o) (upd H p o) := by
  have g := I.free h
  refine ⟨⟨fun a u e => ?_, fun B C e => ?_, fun a ha => ?_, rfl, fun i d e => by simp at e, fun i l e => by simp at e, fun i l e => by simp at e, fun i j a h => by obtain ⟨⟨l, e⟩ | ⟨es, e⟩, _⟩ := h <;> simp at e⟩, fun a u e => ?_, fun b u hb n => ?_, fun b u hb => ?_⟩
  · by_cases ha : a = p
    · subst ha; rw [upd_same] at e ⊢; exact e
    · rw [upd_ne ha] at e ⊢; exact I.sub a u e
  · obtain ⟨st, hf, h1, h2, h3⟩ := I.box B C e
    exact ⟨st, hf, by rw [upd_ne (ne_of_none h1 h)]; exact h1, by rw [upd_ne (ne_of_none h2 h)]; exact h2, h3⟩
  · have : ∃ u, H a = some u := by
      obtain ⟨B, C, e, rfl | rfl⟩ := ha
      · exact I.box.atB e
      · exact I.box.atC e
    obtain ⟨u, hu⟩ := this
    rw [upd_ne (ne_of_none hu h)]
    exact I.bfree a ha
  · rw [upd_ne (fun z => by subst z; rw [g] at e; cases e)]; exact e
  · have nb := ne_of_none hb h
    exact ⟨by rw [upd_ne nb]; exact hb, fun z => by rw [upd_ne nb]; exact z, n⟩
  · exact ⟨u, by rw [upd_ne (ne_of_none hb h)]; exact hb⟩
/-- a new object of the frame's own -/
theorem INV.allocM (I : INV0 c s G H) {p : Addr} (h : H p = none) (o : HO) : INV0 c s G (upd H p o) ∧ Mv0 c G H G (upd H p o) := by
  have g := I.free h
  refine ⟨⟨fun a u e => ?_, fun B C e => ?_, fun a ha => I.bfree a ha, rfl, fun i d e => by simp at e, fun i l e => by simp at e, fun i l e => by simp at e, fun i j a h => by obtain ⟨⟨l, e⟩ | ⟨es, e⟩, _⟩ := h <;> simp at e⟩, Same.refl _, fun b u hb n => ?_, fun b u hb => ?_⟩
  · have hu := I.sub a u e
    rw [upd_ne (ne_of_none hu h)]; exact hu
  · obtain ⟨st, hf, h1, h2, h3⟩ := I.box B C e
    exact ⟨st, hf, by rw [upd_ne (ne_of_none h1 h)]; exact h1, by rw [upd_ne (ne_of_none h2 h)]; exact h2, h3⟩
  · have nb := ne_of_none hb h
    exact ⟨by rw [upd_ne nb]; exact hb, id, n⟩
  · exact ⟨u, by rw [upd_ne (ne_of_none hb h)]; exact hb⟩
end
end Ev
end
section
set_option Elab.async false
set_option linter.all false
set_option maxRecDepth 100000
/-! Ev2: expressions. -/
namespace Ev
open PySem PySem.Spec L2
set_option autoImplicit false

/-- what an expression computes: from the frame's values and the box -/
abbrev M (α : Type) := En → Bx → Option (α × En × Bx)
def bnd {α β : Type} (f : M α) (g : α → M β) : M β := fun e s => match f e s with
  | some (a, e', s') => g a e' s'
  | none => none
def lft {β : Type} (o : Option β) : M β := fun e s => match o with
  | some d => some (d, e, s)
  | none => none
def pur {β : Type} (d : β) : M β := fun e s => some (d, e, s)

/-- the reading of a computation: R says how a result stands in the heap -/
def rdG {α γ : Type} (c : Cf) (R : Hp → γ → α → Prop) (f : M α) (G : Hp) (σ : St) (H : Hp) (Q : γ → Hp → Prop) : Prop :=
  ∃ (env : En) (s : Bx) (a : α) (env' : En) (s' : Bx), INV c σ env s G H ∧ f env s = some (a, env', s') ∧
    ∀ (v : γ) (G' H' : Hp), INV c σ env' s' G' H' → Mv c σ env G H σ env' G' H' → R G' v a → Q v H'
def rd {α γ : Type} (c : Cf) (R : Hp → γ → α → Prop) (f : M α) (σ : St) (H : Hp) (Q : γ → Hp → Prop) : Prop := ∃ G, rdG c R f G σ H Q
abbrev rdE (c : Cf) (f : M PyData) : TE := fun σ H Q => rd c (RpX c) f σ H Q
def REq {α : Type} : Hp → α → α → Prop := fun _ v a => v = a
abbrev rdT (c : Cf) (f : M Bool) : TT := fun σ H Q => rd c REq f σ H Q
abbrev rdA (c : Cf) (f : M (List PyData)) : TA := fun σ H Q => rd c (RpXs c) f σ H Q
abbrev EE (X : Cx) (bx : Option (Addr × Addr)) (e : Expr) (f : M PyData) : Prop := PE X e (rdE ⟨X.K, bx⟩ f)
abbrev ET (X : Cx) (bx : Option (Addr × Addr)) (e : Expr) (f : M Bool) : Prop := PT X e (rdT ⟨X.K, bx⟩ f)
abbrev EW (X : Cx) (bx : Option (Addr × Addr)) (e : Expr) (f : M Bool) : Prop := PW X e (rdT ⟨X.K, bx⟩ f)
abbrev EA (X : Cx) (bx : Option (Addr × Addr)) (es : List Expr) (f : M (List PyData)) : Prop := PA X es (rdA ⟨X.K, bx⟩ f)

section
variable {X : Cx} {bx : Option (Addr × Addr)} {c : Cf} {α β γ δ : Type} {R : Hp → γ → α → Prop} {R' : Hp → δ → β → Prop} {f : M α} {g : α → M β} {G H : Hp} {σ : St}
theorem peI {e : Expr} {t t' : TE} (h : PE X e t) (i : ∀ σ H Q, t' σ H Q → t σ H Q) : PE X e t' := ⟨fun pins s σ H Q I q => h.run pins s σ H Q I (i σ H Q q)⟩
theorem ptI {e : Expr} {t t' : TT} (h : PT X e t) (i : ∀ σ H Q, t' σ H Q → t σ H Q) : PT X e t' := ⟨fun pins s σ H Q I q => h.run pins s σ H Q I (i σ H Q q)⟩
theorem pwI {e : Expr} {t t' : TT} (h : PW X e t) (i : ∀ σ H Q, t' σ H Q → t σ H Q) : PW X e t' := ⟨fun wh pins s σ H Q I q => h.run wh pins s σ H Q I (i σ H Q q)⟩
theorem paI {e : List Expr} {t t' : TA} (h : PA X e t) (i : ∀ σ H Q, t' σ H Q → t σ H Q) : PA X e t' := ⟨fun pos pins s σ H Q I q => h.run pos pins s σ H Q I (i σ H Q q)⟩
theorem rdG.bind {Q : δ → Hp → Prop} (h : rdG c R' (bnd f g) G σ H Q) : rdG c R f G σ H (fun v H1 => ∃ a G1, Same G G1 ∧ R G1 v a ∧ rdG c R' (g a) G1 σ H1 Q) := by
  obtain ⟨env, s, b, env', s', I, e, k⟩ := h
  cases ef : f env s with
  | none => simp [bnd, ef] at e
  | some p =>
    obtain ⟨a, e1, s1⟩ := p
    simp only [bnd, ef] at e
    refine ⟨env, s, a, e1, s1, I, ef, fun v G1 H1 J m r => ⟨a, G1, m.sub, r, e1, s1, b, env', s', J, e, fun w G2 H2 J2 m2 r2 => k w G2 H2 J2 (m.trans m2) r2⟩⟩
theorem rd.bind {Q : δ → Hp → Prop} (h : rd c R' (bnd f g) σ H Q) : rd c R f σ H (fun v H1 => ∃ a G1, R G1 v a ∧ rdG c R' (g a) G1 σ H1 Q) := by
  obtain ⟨G, h⟩ := h
  obtain ⟨env, s, b, env', s', I, e, k⟩ := h.bind (R := R)
  exact ⟨G, env, s, b, env', s', I, e, fun v G' H' J m r => let ⟨a, G1, _, r1, q⟩ := k v G' H' J m r; ⟨a, G1, r1, q⟩⟩
theorem rdG.rd {Q : γ → Hp → Prop} (h : rdG c R f G σ H Q) : rd c R f σ H Q := ⟨G, h⟩
theorem rdG.mono {Q Q' : γ → Hp → Prop} (h : rdG c R f G σ H Q) (i : ∀ v H, Q v H → Q' v H) : rdG c R f G σ H Q' :=
  let ⟨env, s, b, env', s', I, e, k⟩ := h
  ⟨env, s, b, env', s', I, e, fun v G' H' J m r => i v H' (k v G' H' J m r)⟩
theorem rd.mono {Q Q' : γ → Hp → Prop} (h : rd c R f σ H Q) (i : ∀ v H, Q v H → Q' v H) : rd c R f σ H Q' := let ⟨G, h⟩ := h; ⟨G, h.mono i⟩
theorem rdG.lift {Q : γ → Hp → Prop} {o : Option α} (h : rdG c R (lft o) G σ H Q) : ∃ s a, o = some a ∧ INV0 c s G H ∧ ∀ v G' H', INV0 c s G' H' → Mv0 c G H G' H' → R G' v a → Q v H' := by
  obtain ⟨env, s, a, env', s', I, e, k⟩ := h
  cases o with
  | none => simp [lft] at e
  | some d =>
    simp only [lft, Option.some.injEq, Prod.mk.injEq] at e
    obtain ⟨rfl, rfl, rfl⟩ := e
    exact ⟨s, d, rfl, I.base, fun v G' H' J m r => k v G' H' (I.lift J m) m.lift r⟩
/-- nothing is laid -/
theorem rdG.here {Q : γ → Hp → Prop} {o : Option α} (h : rdG c R (lft o) G σ H Q) : ∃ a, o = some a ∧ Same G H ∧ ∀ v, R G v a → Q v H := by
  obtain ⟨s, a, e, I, k⟩ := h.lift
  exact ⟨a, e, I.sub, fun v r => k v G H I Mv.refl r⟩
theorem rdG.pure {Q : γ → Hp → Prop} {a : α} (h : rdG c R (pur a) G σ H Q) : ∃ s, INV0 c s G H ∧ ∀ v G' H', INV0 c s G' H' → Mv0 c G H G' H' → R G' v a → Q v H' := by
  obtain ⟨s, b, e, I, k⟩ := (show rdG c R (lft (some a)) G σ H Q from h).lift
  cases e
  exact ⟨s, I, k⟩
theorem rdG.env {Q : γ → Hp → Prop} (h : rdG c R f G σ H Q) : ∃ env s, INV c σ env s G H := let ⟨env, s, _, _, _, I, _⟩ := h; ⟨env, s, I⟩
theorem rdG.congr {Q : γ → Hp → Prop} {f' : M α} (h : rdG c R f G σ H Q) (e : f = f') : rdG c R f' G σ H Q := by rw [← e]; exact h
end

/-! ### names -/
def fVar (i : Nat) : M PyData := fun env s => match env[i]? with
  | some (some (.imm d)) => some (d, env, s)
  | some (some (.mut l)) => some (.list l, env.set i (some (.imm (.list l))), s)
  | some (some (.dmut es)) => some (.dict es, env.set i (some (.imm (.dict es))), s)
  | _ => none
section
variable {c : Cf} {σ : St} {env : En} {s : Bx} {G H : Hp} {i : Nat}
theorem set_get {env : En} {i j : Nat} {o e : Option EV} (h : (env.set i o)[j]? = some e) : (j = i ∧ e = o) ∨ (j ≠ i ∧ env[j]? = some e) := by
  by_cases hj : i = j
  · subst hj
    by_cases hl : i < env.length
    · rw [List.getElem?_set_self hl] at h; exact .inl ⟨rfl, (Option.some.inj h).symm⟩
    · rw [List.getElem?_eq_none (by simpa using hl)] at h; cases h
  · rw [List.getElem?_set_ne hj] at h
    exact .inr ⟨fun z => hj z.symm, h⟩
/-- the frame's own object at a, as o, changes no more -/
theorem INV.freeze (I : INV c σ env s G H) {a : Addr} {o : HO} {d : PyData} (hm : IsMut env σ i a) (hH : H a = some o) (hG : G a = none) (nb : ¬ c.box a) (r : Rp c.K (upd G a o) (.ref a) d) :
    INV c σ (env.set i (some (.imm d))) s (upd G a o) H ∧ Mv c σ env G H σ (env.set i (some (.imm d))) (upd G a o) H := by
  have sg : Same G (upd G a o) := fun b u e => by rw [upd_ne (ne_of_none e hG)]; exact e
  have mt : ∀ {j b}, IsMut (env.set i (some (.imm d))) σ j b → IsMut env σ j b ∧ j ≠ i := by
    rintro j b ⟨⟨l, e⟩ | ⟨l, e⟩, hs⟩
    · rcases set_get e with ⟨_, e⟩ | ⟨n, e⟩
      · cases e
      · exact ⟨⟨.inl ⟨l, e⟩, hs⟩, n⟩
    · rcases set_get e with ⟨_, e⟩ | ⟨n, e⟩
      · cases e
      · exact ⟨⟨.inr ⟨l, e⟩, hs⟩, n⟩
  have na : ∀ {j b}, IsMut env σ j b → j ≠ i → b ≠ a := fun h n z => by subst z; exact n (I.sep _ _ _ h hm)
  refine ⟨⟨fun b u e => ?_, I.box, fun b hb => ?_, by rw [List.length_set]; exact I.len, fun j d' e => ?_, fun j l e => ?_, fun j l e => ?_, fun j k b h1 h2 => I.sep j k b (mt h1).1 (mt h2).1⟩, sg, fun b u hb n => ⟨hb, fun z => ?_, fun z => n (z.imp id fun ⟨j, h⟩ => ⟨j, (mt h).1⟩)⟩, fun b u hb => ⟨u, hb⟩⟩
  · by_cases hb : b = a
    · subst hb; rw [upd_same] at e; rw [hH]; exact e
    · rw [upd_ne hb] at e; exact I.sub b u e
  · rw [upd_ne (fun z => nb (by rw [← z]; exact hb))]; exact I.bfree b hb
  · rcases set_get e with ⟨hj, e⟩ | ⟨n, e⟩
    · injection e with e
      injection e with e
      rw [hj, e]
      exact ⟨_, hm.2, .inl r⟩
    · obtain ⟨v, h1, h2⟩ := I.val j d' e
      exact ⟨v, h1, h2.mono sg⟩
  · rcases set_get e with ⟨_, e⟩ | ⟨n, e⟩
    · cases e
    · obtain ⟨b, xs, h1, h2, h3, h4, h5⟩ := I.mt j l e
      exact ⟨b, xs, h1, h2, by rw [upd_ne (na ⟨.inl ⟨l, e⟩, h1⟩ n)]; exact h3, h4.mono sg, h5⟩
  · rcases set_get e with ⟨_, e⟩ | ⟨n, e⟩
    · cases e
    · obtain ⟨b, xs, h1, h2, h3, h4, h5⟩ := I.dm j l e
      exact ⟨b, xs, h1, h2, by rw [upd_ne (na ⟨.inr ⟨l, e⟩, h1⟩ n)]; exact h3, h4.mono sg, h5⟩
  · rw [upd_ne (fun q => n (.inr ⟨i, by rw [q]; exact hm⟩))]; exact z
end
section
variable {X : Cx} {bx : Option (Addr × Addr)} {pos : Pos}
theorem eVar (i : Nat) {x : Str} (hN : X.N[i]? = some x := by rfl) (hv : Vis X.env.scope x := by first | exact Or.inl rfl | exact Or.inr (Or.inl rfl) | exact Or.inr (Or.inr rfl)) (hd : (x == ("__debug__" : Str)) = false := by decide)
    (hcd : (x == ("__classdict__" : Str)) = false := by decide) : EE X bx (.Name x pos) (fVar i) := by
  refine peI (pv i hN hv hd hcd) fun σ H Q h => ?_
  obtain ⟨G, env, s, d, env', s', I, e, k⟩ := h
  unfold fVar at e
  split at e
  · rename_i d0 ei
    cases e
    obtain ⟨v, h1, h2⟩ := I.val i _ ei
    exact ⟨v, h1, k v G H I Mv.refl h2⟩
  · rename_i l ei
    cases e
    obtain ⟨a, xs, h1, h2, h3, h4, h5⟩ := I.mt i l ei
    have r : Rp X.K (upd G a (.lst xs)) (.ref a) (.list l) := .lst upd_same (h4.mono fun b u q => by rw [upd_ne (ne_of_none q h3)]; exact q)
    obtain ⟨J, m⟩ := I.freeze (d := .list l) ⟨.inl ⟨l, ei⟩, h1⟩ h2 h3 h5 r
    exact ⟨_, h1, k _ _ _ J m (.inl r)⟩
  · rename_i l ei
    cases e
    obtain ⟨a, xs, h1, h2, h3, h4, h5⟩ := I.dm i l ei
    have r : Rp X.K (upd G a (.dK xs)) (.ref a) (.dict l) := .dct upd_same (h4.mono fun b u q => by rw [upd_ne (ne_of_none q h3)]; exact q)
    obtain ⟨J, m⟩ := I.freeze (d := .dict l) ⟨.inr ⟨l, ei⟩, h1⟩ h2 h3 h5 r
    exact ⟨_, h1, k _ _ _ J m (.inl r)⟩
  · cases e
theorem eC {e : Expr} {v : V} {d : PyData} (h : PE X e (tC v)) (r : ∀ G, Rp X.K G v d) : EE X bx e (pur d) :=
  peI h fun σ H Q ⟨G, q⟩ => let ⟨_, I, k⟩ := q.pure; k v G H I Mv.refl (.inl (r G))
theorem eInt {i : Int} {j : Nat} : EE X bx (.Constant (.int i) j pos) (pur (.int i)) := eC pe_int fun _ => .int i
theorem eBool {b : Bool} {j : Nat} : EE X bx (.Constant (.bool b) j pos) (pur (.bool b)) := eC pe_bl fun _ => .bl b
theorem eNone {j : Nat} : EE X bx (.Constant .none j pos) (pur .none) := eC pe_non fun _ => .non
theorem eStr {x : Str} {j : Nat} : EE X bx (.Constant (.str x) j pos) (pur (.str x)) := eC pe_str fun _ => .str x
/-- a constant of the module -/
structure GC (K : PySem.W.Frag) (mg : Str → Option Value) (x : Str) (d : PyData) : Prop where
  ex : ∃ (u : Value) (v : V), mg x = some u ∧ RelV v u ∧ ∀ G, Rp K G v d
theorem eGl {x : Str} {d : PyData} (g : GC X.K X.mg x d) (hg : Gl X x := by rfl) (hd : (x == ("__debug__" : Str)) = false := by decide) : EE X bx (.Name x pos) (pur d) := by
  obtain ⟨u, v, hm, r, q⟩ := g.ex
  exact eC (pe_glob hg hm r hd) q
end

/-! ### operators -/
/-- r, asked of two values that stand for a and b, hands back what stands for g a b -/
def OpS (c : Cf) (r : R2) (g : PyData → PyData → Option PyData) : Prop :=
  ∀ (a b d : PyData), g a b = some d → ∀ (s : Bx) (G H : Hp) (x y : V) (Q : VK), INV0 c s G H → RpX c G x a → RpX c G y b →
    (∀ v G' H', INV0 c s G' H' → Mv0 c G H G' H' → RpX c G' v d → Q v H') → r x y H Q
def fBin (fa fb : M PyData) (g : PyData → PyData → Option PyData) : M PyData := bnd fa fun a => bnd fb fun b => lft (g a b)
section
variable {X : Cx} {bx : Option (Addr × Addr)} {pos : Pos} {a b : Expr} {fa fb : M PyData} {r : R2} {g : PyData → PyData → Option PyData}
theorem opS_run {c : Cf} (hs : OpS c r g) {σ : St} {H : Hp} {Q : VK} (h : rdE c (fBin fa fb g) σ H Q) : tOp r (rdE c fa) (rdE c fb) σ H Q := by
  refine (rd.bind (R := RpX c) h).mono fun x H1 ⟨a, G1, ra, h1⟩ => ?_
  refine (h1.bind (R := RpX c)).rd.mono fun y H2 ⟨b, G2, s2, rb, h2⟩ => ?_
  obtain ⟨s, d, e, I, k⟩ := h2.lift
  exact hs a b d e s G2 H2 x y Q I (ra.mono s2) rb k
theorem eBin {op : Operator} (ho : OpR X (binaryOp op) r) (hs : OpS ⟨X.K, bx⟩ r g) (ha : EE X bx a fa) (hb : EE X bx b fb) : EE X bx (.BinOp a op b pos) (fBin fa fb g) :=
  peI (pe_op ho ha hb) fun _ _ _ h => opS_run hs h
theorem eCmp {op : CmpOp} (ho : OpR X (compareOp op) r) (hs : OpS ⟨X.K, bx⟩ r g) (ha : EE X bx a fa) (hb : EE X bx b fb) (hm : behindInMarks op b = false := by first | exact nomark _ | rfl) : EE X bx (.Compare a [op] [b] pos) (fBin fa fb g) :=
  peI (pe_cmpR ho ha hb hm) fun _ _ _ h => opS_run hs h
/-- a comparison of three -/
def fChain (fa fb fc : M PyData) (g g' : PyData → PyData → Option PyData) : M PyData := bnd fa fun a => bnd fb fun b => bnd (lft (g a b)) fun z => match z with
  | .bool true => bnd fc fun c => lft (g' b c)
  | .bool false => pur (.bool false)
  | _ => lft none
theorem chain_run {c : Cf} {fc : M PyData} {r' : R2} {g' : PyData → PyData → Option PyData} (hs : OpS c r g) (hs' : OpS c r' g') {σ : St} {H : Hp} {Q : VK} (h : rdE c (fChain fa fb fc g g') σ H Q) : tChain r r' (rdE c fa) (rdE c fb) (rdE c fc) σ H Q := by
  refine (rd.bind (R := RpX c) h).mono fun x H1 ⟨a, G1, ra, h1⟩ => ?_
  refine (h1.bind (R := RpX c)).rd.mono fun y H2 ⟨b, G2, s2, rb, h2⟩ => ?_
  have h3 := h2.bind (R := RpX c)
  obtain ⟨s, d, e, I, k⟩ := h3.lift
  refine hs a b d e s G2 H2 x y _ I (ra.mono s2) rb fun v G' H' J m rv => ?_
  obtain ⟨z, G3, s3, rz, h4⟩ := k v G' H' J m rv
  split at h4
  · have := rz.rp rfl
    cases this
    refine ⟨true, rfl, ?_⟩
    rw [if_pos rfl]
    refine (h4.bind (R := RpX c)).rd.mono fun w H5 ⟨cd, G5, s5, rc, h5⟩ => ?_
    obtain ⟨s6, d6, e6, I6, k6⟩ := h5.lift
    exact hs' b cd d6 e6 s6 G5 H5 y w Q I6 ((rb.mono s3).mono s5) rc k6
  · have := rz.rp rfl
    cases this
    refine ⟨false, rfl, ?_⟩
    rw [if_neg (by decide)]
    obtain ⟨s6, I6, k6⟩ := h4.pure
    exact k6 _ _ _ I6 Mv.refl (.inl (.bl false))
  · obtain ⟨_, _, e, _⟩ := h4.lift
    cases e
theorem eChain {op op' : CmpOp} {cc : Expr} {fc : M PyData} {r' : R2} {g' : PyData → PyData → Option PyData} (ho : OpR X (compareOp op) r) (ho' : OpR X (compareOp op') r') (hs : OpS ⟨X.K, bx⟩ r g) (hs' : OpS ⟨X.K, bx⟩ r' g') (ha : EE X bx a fa) (hb : EE X bx b fb)
    (hc : EE X bx cc fc) (h1 : lastMarks [op, op'] [b, cc] = false := by rfl) :
    EE X bx (.Compare a [op, op'] [b, cc] pos) (fChain fa fb fc g g') :=
  peI (pe_chain ho ho' ha hb hc h1) fun _ _ _ h => chain_run hs hs' h
end
end Ev
end
section
set_option Elab.async false
set_option linter.all false
set_option maxRecDepth 100000
/-! Ev3: truth, tests, displays, places, slices, calls. -/
namespace Ev
open PySem PySem.Spec L2
set_option autoImplicit false

/-- the line of a length -/
abbrev Ln : Nat := 16777216
theorem ln_eq : sizeLine = Ln := sizeLine_eq

/-! ### truth -/
def truthD : PyData → Option Bool
  | .none => some false
  | .bool b => some b
  | .int i => some (i != 0)
  | .str x => if x.length ≤ Ln then some ((x.length : Int) != 0) else none
  | .list xs => some (!xs.isEmpty)
  | .tuple xs => some (!xs.isEmpty)
  | .dict es => if okD es then some (!es.isEmpty) else none
theorem isEmpty_all {K : PySem.W.Frag} {G : Hp} {xs : List V} {ds : List PyData} (r : RpAll K G xs ds) : xs.isEmpty = ds.isEmpty := by cases r <;> rfl
theorem isEmpty_kvs {K : PySem.W.Frag} {G : Hp} {xs : List (Key × V)} {ds : List (PyData × PyData)} (r : RpKvs K G xs ds) : xs.isEmpty = ds.isEmpty := by cases r <;> rfl
theorem truV_of {c : Cf} {G H : Hp} {v : V} {d : PyData} {k : Bool} (e : Same G H) (r : RpX c G v d) (h : truthD d = some k) : TruV c.K v H k := by
  have hz := ln_eq
  rcases r with r | ⟨rfl, _⟩
  · cases r with
    | non => cases h; rfl
    | bl b => cases h; rfl
    | int i => cases h; rfl
    | str x =>
      simp only [truthD] at h
      split at h
      · cases h; exact ⟨by rw [hz]; assumption, rfl⟩
      · cases h
    | lst hg ra => cases h; exact .inl ⟨_, SqL.of (e _ _ hg), by rw [isEmpty_all ra]⟩
    | tup hg ra => cases h; exact .inr (.inl ⟨_, tup_mono e hg, by rw [isEmpty_all ra]⟩)
    | dct hg ra =>
      simp only [truthD] at h
      split at h
      · cases h; exact .inr (.inr ⟨_, e _ _ hg, by rw [isEmpty_kvs ra]⟩)
      · cases h
    | fn _ => simp [truthD, okD] at h
  · simp [truthD, boxD, okD] at h

def fAnd (fa fb : M PyData) : M PyData := bnd fa fun a => match truthD a with
  | some true => fb
  | some false => pur a
  | none => lft none
def fOr (fa fb : M PyData) : M PyData := bnd fa fun a => match truthD a with
  | some true => pur a
  | some false => fb
  | none => lft none
def fNot (fa : M PyData) : M PyData := bnd fa fun a => lft ((truthD a).map fun k => .bool (!k))
/-- the test of a value -/
def tst (fa : M PyData) : M Bool := bnd fa fun a => lft (truthD a)
/-- the test of a comparison: its value is a truth value -/
def tbl (fa : M PyData) : M Bool := bnd fa fun a => match a with
  | .bool k => pur k
  | _ => lft none
def tAndM (fa fb : M Bool) : M Bool := bnd fa fun k => match k with
  | true => fb
  | false => pur false
def tOrM (fa fb : M Bool) : M Bool := bnd fa fun k => match k with
  | true => pur true
  | false => fb
def tNotM (fa : M Bool) : M Bool := bnd fa fun k => pur (!k)
def fIf (t : M Bool) (fa fb : M PyData) : M PyData := bnd t fun k => match k with
  | true => fa
  | false => fb
section
variable {X : Cx} {bx : Option (Addr × Addr)} {pos : Pos} {a b : Expr} {rest : List Expr} {fa fb : M PyData} {ga gb : M Bool}
theorem eOne {op : BoolOp} (ha : EE X bx a fa) : EE X bx (.BoolOp op [a] pos) fa := pe_one ha
theorem eAnd (ha : EE X bx a fa) (hb : EE X bx (.BoolOp .And (b :: rest) pos) fb) : EE X bx (.BoolOp .And (a :: b :: rest) pos) (fAnd fa fb) := by
  refine peI (pe_andT ha hb) fun σ H Q h => ?_
  refine (rd.bind (R := RpX ⟨X.K, bx⟩) h).mono fun x H1 ⟨a, G1, ra, h1⟩ => ?_
  obtain ⟨env, s, I⟩ := h1.env
  split at h1
  · rename_i e; exact ⟨true, truV_of I.sub ra e, by rw [if_pos rfl]; exact h1.rd⟩
  · rename_i e
    obtain ⟨s, I, k⟩ := h1.pure
    exact ⟨false, truV_of I.sub ra e, by rw [if_neg (by decide)]; exact k _ _ _ I Mv.refl ra⟩
  · obtain ⟨_, _, e, _⟩ := h1.lift; cases e
theorem eOr (ha : EE X bx a fa) (hb : EE X bx (.BoolOp .Or (b :: rest) pos) fb) : EE X bx (.BoolOp .Or (a :: b :: rest) pos) (fOr fa fb) := by
  refine peI (pe_orT ha hb) fun σ H Q h => ?_
  refine (rd.bind (R := RpX ⟨X.K, bx⟩) h).mono fun x H1 ⟨a, G1, ra, h1⟩ => ?_
  obtain ⟨env, s, I⟩ := h1.env
  split at h1
  · rename_i e
    obtain ⟨s, I, k⟩ := h1.pure
    exact ⟨true, truV_of I.sub ra e, by rw [if_pos rfl]; exact k _ _ _ I Mv.refl ra⟩
  · rename_i e; exact ⟨false, truV_of I.sub ra e, by rw [if_neg (by decide)]; exact h1.rd⟩
  · obtain ⟨_, _, e, _⟩ := h1.lift; cases e
theorem eNot (ha : EE X bx a fa) : EE X bx (.UnaryOp .Not a pos) (fNot fa) := by
  refine peI (pe_notT ha) fun σ H Q h => ?_
  refine (rd.bind (R := RpX ⟨X.K, bx⟩) h).mono fun x H1 ⟨a, G1, ra, h1⟩ => ?_
  obtain ⟨s, d, e, I, k⟩ := h1.lift
  cases et : truthD a with
  | none => rw [et] at e; cases e
  | some b =>
    rw [et] at e
    cases e
    exact ⟨b, truV_of I.sub ra et, k _ _ _ I Mv.refl (.inl (.bl _))⟩
theorem tTru (ha : EE X bx a fa) (he : ∀ whole, isTrue a X.env whole = (do let v ← whole; standAt a.pos; holding [v] (truthy v)) := by intro _; rfl) : ET X bx a (tst fa) := by
  refine ptI (pt_truth ha he) fun σ H Q h => ?_
  refine (rd.bind (R := RpX ⟨X.K, bx⟩) h).mono fun x H1 ⟨a, G1, ra, h1⟩ => ?_
  obtain ⟨s, d, e, I, k⟩ := h1.lift
  exact ⟨d, truV_of I.sub ra e, k _ _ _ I Mv.refl rfl⟩
theorem tbl_run {c : Cf} {σ : St} {H : Hp} {Q : Bool → Hp → Prop} (h : rdT c (tbl fa) σ H Q) : rdE c fa σ H fun x H' => ∃ k, x = .bl k ∧ Q k H' := by
  refine (rd.bind (R := RpX c) h).mono fun x H1 ⟨a, G1, ra, h1⟩ => ?_
  split at h1
  · obtain ⟨s, I, k⟩ := h1.pure
    have := ra.rp rfl
    cases this
    exact ⟨_, rfl, k _ _ _ I Mv.refl rfl⟩
  · obtain ⟨_, _, e, _⟩ := h1.lift; cases e
theorem tCmp {op : CmpOp} {r : R2} {g : PyData → PyData → Option PyData} (ho : OpR X (compareOp op) r) (hs : OpS ⟨X.K, bx⟩ r g) (ha : EE X bx a fa) (hb : EE X bx b fb) (hm : behindInMarks op b = false := by first | exact nomark _ | rfl) :
    ET X bx (.Compare a [op] [b] pos) (tbl (fBin fa fb g)) :=
  ptI (pt_cmpR ho ha hb hm) fun σ H Q h => opS_run hs ((tbl_run h).mono fun _ _ q => q)
theorem tChn {op op' : CmpOp} {cc : Expr} {fc : M PyData} {r r' : R2} {g g' : PyData → PyData → Option PyData} (ho : OpR X (compareOp op) r) (ho' : OpR X (compareOp op') r') (hs : OpS ⟨X.K, bx⟩ r g) (hs' : OpS ⟨X.K, bx⟩ r' g') (ha : EE X bx a fa) (hb : EE X bx b fb)
    (hc : EE X bx cc fc) (h1 : lastMarks [op, op'] [b, cc] = false := by rfl) : ET X bx (.Compare a [op, op'] [b, cc] pos) (tbl (fChain fa fb fc g g')) :=
  ptI (pt_chain ho ho' ha hb hc h1) fun σ H Q h => chain_run hs hs' (tbl_run h)
theorem tAnd1 (ha : ET X bx a ga) : EW X bx (.BoolOp .And [a] pos) ga := pw_and1 ha
theorem tOr1 (ha : ET X bx a ga) : EW X bx (.BoolOp .Or [a] pos) ga := pw_or1 ha
theorem tAnd2 (ha : ET X bx a ga) (hb : EW X bx (.BoolOp .And (b :: rest) pos) gb) : EW X bx (.BoolOp .And (a :: b :: rest) pos) (tAndM ga gb) := by
  refine pwI (pw_and ha hb) fun σ H Q h => ?_
  refine (rd.bind (R := REq) h).mono fun x H1 ⟨a, G1, ra, h1⟩ => ?_
  cases ra
  split at h1
  · rw [if_pos rfl]; exact h1.rd
  · rw [if_neg (by decide)]
    obtain ⟨s, I, k⟩ := h1.pure
    exact k _ _ _ I Mv.refl rfl
theorem tOr2 (ha : ET X bx a ga) (hb : EW X bx (.BoolOp .Or (b :: rest) pos) gb) : EW X bx (.BoolOp .Or (a :: b :: rest) pos) (tOrM ga gb) := by
  refine pwI (pw_or ha hb) fun σ H Q h => ?_
  refine (rd.bind (R := REq) h).mono fun x H1 ⟨a, G1, ra, h1⟩ => ?_
  cases ra
  split at h1
  · rw [if_pos rfl]
    obtain ⟨s, I, k⟩ := h1.pure
    exact k _ _ _ I Mv.refl rfl
  · rw [if_neg (by decide)]; exact h1.rd
theorem tW (h : EW X bx a ga) : ET X bx a ga := PW.pt h
theorem tNt (ha : ET X bx a ga) : ET X bx (.UnaryOp .Not a pos) (tNotM ga) := by
  refine ptI (pt_not ha) fun σ H Q h => ?_
  refine (rd.bind (R := REq) h).mono fun x H1 ⟨a, G1, ra, h1⟩ => ?_
  cases ra
  obtain ⟨s, I, k⟩ := h1.pure
  exact k _ _ _ I Mv.refl rfl
theorem eIf {t : Expr} (ht : ET X bx t ga) (ha : EE X bx a fa) (hb : EE X bx b fb) : EE X bx (.IfExp t a b pos) (fIf ga fa fb) := by
  refine peI (pe_ifExp ht ha hb) fun σ H Q h => ?_
  refine (rd.bind (R := REq) h).mono fun x H1 ⟨a, G1, ra, h1⟩ => ?_
  cases ra
  split at h1
  · rw [if_pos rfl]; exact h1.rd
  · rw [if_neg (by decide)]; exact h1.rd
end

/-! ### argument lists, displays -/
def aNil : M (List PyData) := pur []
def aCons (fa : M PyData) (fr : M (List PyData)) : M (List PyData) := bnd fa fun a => bnd fr fun r => pur (a :: r)
def fTup (fs : M (List PyData)) : M PyData := bnd fs fun ds => lft (if ds.all notBox && decide (ds.length ≤ Ln) then some (.tuple ds) else none)

/-- a fresh list of the frame's own, not yet at a name -/
def rdF (c : Cf) (f : M (List PyData)) : TE := fun σ H Q => ∃ (G : Hp) (env : En) (s : Bx) (l : List PyData) (env' : En) (s' : Bx), INV c σ env s G H ∧ f env s = some (l, env', s') ∧
  ∀ (p : Addr) (xs : List V) (G' H' : Hp), INV c σ env' s' G' H' → Mv c σ env G H σ env' G' H' → H p = none → H' p = some (.lst xs) → G' p = none → RpAll c.K G' xs l → ¬ Tch c env' σ p → Q (.ref p) H'
abbrev EF (X : Cx) (bx : Option (Addr × Addr)) (e : Expr) (f : M (List PyData)) : Prop := PE X e (rdF ⟨X.K, bx⟩ f)
def fLst (f : M (List PyData)) : M PyData := bnd f fun l => pur (.list l)

section
variable {c : Cf} {σ : St} {env : En} {s : Bx} {G H : Hp}
/-- what stands apart changes no more -/
theorem INV.absorb (I : INV c σ env s G H) {p : Addr} {o : HO} (hH : H p = some o) (hG : G p = none) (n : ¬ Tch c env σ p) : INV c σ env s (upd G p o) H := by
  have sg : Same G (upd G p o) := fun b u e => by rw [upd_ne (ne_of_none e hG)]; exact e
  refine ⟨fun b u e => ?_, I.box, fun b hb => ?_, I.len, fun j d e => ?_, fun j l e => ?_, fun j l e => ?_, I.sep⟩
  · by_cases hb : b = p
    · subst hb; rw [upd_same] at e; rw [hH]; exact e
    · rw [upd_ne hb] at e; exact I.sub b u e
  · rw [upd_ne (fun z => n (.inl (by rw [← z]; exact hb)))]; exact I.bfree b hb
  · obtain ⟨v, h1, h2⟩ := I.val j d e
    exact ⟨v, h1, h2.mono sg⟩
  · obtain ⟨b, xs, h1, h2, h3, h4, h5⟩ := I.mt j l e
    exact ⟨b, xs, h1, h2, by rw [upd_ne (fun z => n (.inr ⟨j, .inl ⟨l, e⟩, by rw [← z]; exact h1⟩))]; exact h3, h4.mono sg, h5⟩
  · obtain ⟨b, xs, h1, h2, h3, h4, h5⟩ := I.dm j l e
    exact ⟨b, xs, h1, h2, by rw [upd_ne (fun z => n (.inr ⟨j, .inr ⟨l, e⟩, by rw [← z]; exact h1⟩))]; exact h3, h4.mono sg, h5⟩
theorem Mv.absorb {σ' : St} {env' : En} {G' H' : Hp} (m : Mv c σ env G H σ' env' G' H') {p : Addr} {o : HO} (h0 : H p = none) (hG : G' p = none) : Mv c σ env G H σ' env' (upd G' p o) H' :=
  ⟨fun b u e => by
    have := m.sub b u e
    rw [upd_ne (ne_of_none this hG)]; exact this, fun b u hb n => by
    obtain ⟨k1, k2, k3⟩ := m.keep b u hb n
    exact ⟨k1, fun z => by rw [upd_ne (ne_of_none hb h0)]; exact k2 z, k3⟩, m.stay⟩
theorem tch_some (I : INV c σ env s G H) {p : Addr} (t : Tch c env σ p) : ∃ o, H p = some o := by
  rcases t with ⟨B, C, e, rfl | rfl⟩ | ⟨i, ⟨l, e⟩ | ⟨l, e⟩, hs⟩
  · exact I.box.atB e
  · exact I.box.atC e
  · obtain ⟨a, xs, h1, h2, _⟩ := I.mt i l e
    rw [h1] at hs; cases hs; exact ⟨_, h2⟩
  · obtain ⟨a, xs, h1, h2, _⟩ := I.dm i l e
    rw [h1] at hs; cases hs; exact ⟨_, h2⟩
theorem tch_not (I : INV c σ env s G H) {p : Addr} (h : H p = none) : ¬ Tch c env σ p := fun t => by
  obtain ⟨o, e⟩ := tch_some I t
  rw [h] at e; cases e
end
section
variable {X : Cx} {bx : Option (Addr × Addr)} {pos : Pos} {e a b : Expr} {es : List Expr} {fa fb : M PyData} {fs : M (List PyData)}
theorem aNl : EA X bx [] aNil := paI pa_nil fun σ H Q ⟨G, q⟩ => let ⟨_, I, k⟩ := q.pure; k _ _ _ I Mv.refl .nil
theorem aCn (ha : EE X bx e fa) (hr : EA X bx es fs) (hs : starEach (e :: es) X.env = (false, eval e X.env) :: starEach es X.env := by rfl) : EA X bx (e :: es) (aCons fa fs) := by
  refine paI (pa_cons ha hr hs) fun σ H Q h => ?_
  refine (rd.bind (R := RpX ⟨X.K, bx⟩) h).mono fun x H1 ⟨a, G1, ra, h1⟩ => ?_
  refine (h1.bind (R := RpXs ⟨X.K, bx⟩)).rd.mono fun xs H2 ⟨ds, G2, s2, rs, h2⟩ => ?_
  obtain ⟨s, I, k⟩ := h2.pure
  exact k _ _ _ I Mv.refl (.cons (ra.mono s2) rs)
theorem eTup {k : Nat} (ha : EA X bx es fs) : EE X bx (.Tuple es k pos) (fTup fs) := by
  refine peI (pe_tup ha) fun σ H Q h => ?_
  refine (rd.bind (R := RpXs ⟨X.K, bx⟩) h).mono fun xs H1 ⟨ds, G1, rs, h1⟩ => ?_
  obtain ⟨s, d, e, I, k⟩ := h1.lift
  split at e
  · rename_i hc
    rw [Bool.and_eq_true, decide_eq_true_eq] at hc
    cases e
    have hl := rs.length
    have hz := ln_eq
    refine ⟨by omega, fun p hp => ?_⟩
    obtain ⟨J, m⟩ := I.alloc hp (.tup xs)
    exact k _ _ _ J m (.inl (.tup (SqT.of upd_same) ((rs.rp hc.1).mono m.sub)))
  · cases e
/-- a list display -/
def fDsp (fs : M (List PyData)) : M (List PyData) := bnd fs fun ds => lft (if ds.all notBox && decide (ds.length ≤ Ln) then some ds else none)
theorem fDspE (ha : EA X bx es fs) : EF X bx (.List es pos) (fDsp fs) := by
  refine peI (pe_lst ha) fun σ H Q h => ?_
  obtain ⟨G, env, s, l, env', s', I, e, k⟩ := h
  cases ef : fs env s with
  | none => simp [fDsp, bnd, ef] at e
  | some q =>
    obtain ⟨ds, e1, s1⟩ := q
    simp only [fDsp, bnd, ef, lft] at e
    refine ⟨G, env, s, ds, e1, s1, I, ef, fun xs G1 H1 J m rs => ?_⟩
    by_cases hc : (ds.all notBox && decide (ds.length ≤ Ln)) = true
    · rw [if_pos hc] at e
      rw [Bool.and_eq_true, decide_eq_true_eq] at hc
      cases e
      have hl := rs.length
      have hz := ln_eq
      refine ⟨by omega, fun p hp => ?_⟩
      have h0 : H p = none := m.fresh hp
      obtain ⟨J2, m2⟩ := J.base.allocM hp (.lst xs)
      exact k p xs G1 _ (J.lift J2 m2) (m.trans m2.lift) h0 upd_same (J.free hp) (rs.rp hc.1) (tch_not J hp)
    · rw [if_neg hc] at e; cases e
end
end Ev
end
section
set_option Elab.async false
set_option linter.all false
set_option maxRecDepth 100000
/-! Ev4: operators by data, places, slices, calls. -/
namespace Ev
open PySem PySem.Spec L2
set_option autoImplicit false

section
variable {c : Cf} {r r' : R2} {g g' : PyData → PyData → Option PyData}
/-- a spec that lays nothing: from the heap's view -/
def OpN (c : Cf) (r : R2) (g : PyData → PyData → Option PyData) : Prop := ∀ (a b d : PyData), g a b = some d → ∀ (G H : Hp) (x y : V) (Q : VK), Same G H → RpX c G x a → RpX c G y b → (∀ v, RpX c G v d → Q v H) → r x y H Q
theorem opS_of (h : ∀ (a b d : PyData), g a b = some d → ∀ (G H : Hp) (x y : V) (Q : VK), Same G H → RpX c G x a → RpX c G y b → (∀ v, RpX c G v d → Q v H) → r x y H Q) : OpS c r g :=
  fun a b d e s G H x y Q I ra rb k => h a b d e G H x y Q I.sub ra rb fun v rv => k v G H I Mv.refl rv
theorem rpInt {G : Hp} {x : V} {i : Int} (h : RpX c G x (.int i)) : x = .int i := by have := h.rp rfl; cases this; rfl
theorem rpStr {G : Hp} {x : V} {i : Str} (h : RpX c G x (.str i)) : x = .str i := by have := h.rp rfl; cases this; rfl
theorem rpBl {G : Hp} {x : V} {i : Bool} (h : RpX c G x (.bool i)) : x = .bl i := by have := h.rp rfl; cases this; rfl
theorem rpTup {G : Hp} {x : V} {ds : List PyData} (h : RpX c G x (.tuple ds)) : ∃ a xs, x = .ref a ∧ SqT c.K G a xs ∧ RpAll c.K G xs ds := by
  have := h.rp rfl
  cases this with
  | tup h1 r1 => exact ⟨_, _, rfl, h1, r1⟩
theorem rpLst {G : Hp} {x : V} {ds : List PyData} (h : RpX c G x (.list ds)) : ∃ a xs, x = .ref a ∧ G a = some (.lst xs) ∧ RpAll c.K G xs ds := by
  have := h.rp rfl
  cases this with
  | lst h1 r1 => exact ⟨_, _, rfl, h1, r1⟩
theorem notBox_plain {d : PyData} (h : plain d = true) : notBox d = true := by
  cases d <;> first | rfl | simp [plain] at h
end

/-! ### + - * // % -/
def gAdd : PyData → PyData → Option PyData
  | .int i, .int j => some (.int (i + j))
  | .str x, .str y => if x.length + y.length ≤ Ln then some (.str (x ++ y)) else none
  | .tuple xs, .tuple ys => if xs.length + ys.length ≤ Ln then some (.tuple (xs ++ ys)) else none
  | _, _ => none
def gSub : PyData → PyData → Option PyData
  | .int i, .int j => some (.int (i - j))
  | _, _ => none
def gMul : PyData → PyData → Option PyData
  | .int i, .int j => if decide (i.natAbs < 2 ^ 64) || decide (j.natAbs < 2 ^ 64) then some (.int (i * j)) else none
  | _, _ => none
def gDiv : PyData → PyData → Option PyData
  | .int i, .int j => if 0 < j ∧ j < 1073741824 then some (.int (i / j)) else none
  | _, _ => none
def gMod : PyData → PyData → Option PyData
  | .int i, .int j => if 0 < j then some (.int (i % j)) else none
  | _, _ => none
section
variable {X : Cx} {bx : Option (Addr × Addr)} {pos : Pos} {a b e : Expr} {fa fb : M PyData}
theorem addR : OpR X (binaryOp .Add) (fun x y H Q => rI0 (fun i j => .int (i + j)) x y H Q ∨ (∃ i j, x = .str i ∧ y = .str j ∧ i.length + j.length ≤ sizeLine ∧ Q (.str (i ++ j)) H) ∨ rCatA X.K x y H Q) := op_add.or (op_add_str.or op_catA)
theorem sAdd : OpS ⟨X.K, bx⟩ (fun x y H Q => rI0 (fun i j => .int (i + j)) x y H Q ∨ (∃ i j, x = .str i ∧ y = .str j ∧ i.length + j.length ≤ sizeLine ∧ Q (.str (i ++ j)) H) ∨ rCatA X.K x y H Q) gAdd := by
  intro a b d e s G H x y Q I ra rb k
  have hz := ln_eq
  unfold gAdd at e
  split at e
  · cases e
    cases rpInt ra; cases rpInt rb
    exact .inl ⟨_, _, rfl, rfl, k _ G H I Mv.refl (.inl (.int _))⟩
  · split at e
    · cases e
      cases rpStr ra; cases rpStr rb
      exact .inr (.inl ⟨_, _, rfl, rfl, by rw [hz]; assumption, k _ G H I Mv.refl (.inl (.str _))⟩)
    · cases e
  · split at e
    · rename_i hl
      cases e
      obtain ⟨p, xs, rfl, hp, rp⟩ := rpTup ra
      obtain ⟨q, ys, rfl, hq, rq⟩ := rpTup rb
      have h1 := rp.length
      have h2 := rq.length
      refine .inr (.inr ⟨p, q, xs, ys, rfl, rfl, tup_mono I.sub hp, tup_mono I.sub hq, by rw [hz]; omega, fun ex => ?_, fun _ ey => ?_, fun _ _ t ht => ?_⟩)
      · subst ex
        cases rp
        exact k _ G H I Mv.refl (.inl (.tup hq (by simpa using rq)))
      · subst ey
        cases rq
        exact k _ G H I Mv.refl (.inl (.tup hp (by simpa using rp)))
      · obtain ⟨J, m⟩ := I.alloc ht (.tup (xs ++ ys))
        exact k _ _ _ J m (.inl (.tup (SqT.of upd_same) ((rp.append rq).mono m.sub)))
    · cases e
  · cases e
theorem eAdd (ha : EE X bx a fa) (hb : EE X bx b fb) : EE X bx (.BinOp a .Add b pos) (fBin fa fb gAdd) := eBin addR sAdd ha hb
theorem eSub (ha : EE X bx a fa) (hb : EE X bx b fb) : EE X bx (.BinOp a .Sub b pos) (fBin fa fb gSub) := eBin op_sub (opS_of fun a b d e G H x y Q sub ra rb k => by
  unfold gSub at e
  split at e
  · cases e
    cases rpInt ra; cases rpInt rb
    exact ⟨_, _, rfl, rfl, k _ (.inl (.int _))⟩
  · cases e) ha hb
theorem eMul (ha : EE X bx a fa) (hb : EE X bx b fb) : EE X bx (.BinOp a .Mult b pos) (fBin fa fb gMul) := eBin op_mul (opS_of fun a b d e G H x y Q sub ra rb k => by
  unfold gMul at e
  split at e
  · split at e
    · rename_i h
      cases e
      cases rpInt ra; cases rpInt rb
      refine ⟨_, _, rfl, rfl, ?_, k _ (.inl (.int _))⟩
      rw [Bool.or_eq_true, decide_eq_true_eq, decide_eq_true_eq] at h
      rcases h with h | h
      · exact .inl (by omega)
      · exact .inr (by omega)
    · cases e
  · cases e) ha hb
theorem eDiv (ha : EE X bx a fa) (hb : EE X bx b fb) : EE X bx (.BinOp a .FloorDiv b pos) (fBin fa fb gDiv) := eBin op_fdiv (opS_of fun a b d e G H x y Q sub ra rb k => by
  unfold gDiv at e
  split at e
  · split at e
    · rename_i h
      cases e
      cases rpInt ra; cases rpInt rb
      exact ⟨_, _, rfl, rfl, h, k _ (.inl (.int _))⟩
    · cases e
  · cases e) ha hb
theorem eMod (ha : EE X bx a fa) (hb : EE X bx b fb) : EE X bx (.BinOp a .Mod b pos) (fBin fa fb gMod) := eBin op_mod (opS_of fun a b d e G H x y Q sub ra rb k => by
  unfold gMod at e
  split at e
  · split at e
    · rename_i h
      cases e
      cases rpInt ra; cases rpInt rb
      exact ⟨_, _, rfl, rfl, h, k _ (.inl (.int _))⟩
    · cases e
  · cases e) ha hb
/-- -e -/
def fNeg (fa : M PyData) : M PyData := bnd fa fun a => lft (match a with | .int i => some (.int (-i)) | _ => none)
theorem eNeg (ha : EE X bx a fa) : EE X bx (.UnaryOp .USub a pos) (fNeg fa) := by
  refine peI (pe_un un_neg ha) fun σ H Q h => ?_
  refine (rd.bind (R := RpX ⟨X.K, bx⟩) h).mono fun x H1 ⟨a, G1, ra, h1⟩ => ?_
  obtain ⟨d, e, _, k⟩ := h1.here
  split at e
  · cases e
    cases rpInt ra
    exact ⟨_, rfl, k _ (.inl (.int _))⟩
  · cases e
end

/-! ### comparisons -/
def gEq (a b : PyData) : Option PyData := if SeqAt.shaped a && SeqAt.shaped b then some (.bool (PyData.eqv a b)) else none
def gNe (a b : PyData) : Option PyData := if SeqAt.shaped a && SeqAt.shaped b then some (.bool (!PyData.eqv a b)) else none
def gLt : PyData → PyData → Option PyData
  | .int i, .int j => some (.bool (decide (i < j)))
  | .tuple xs, .tuple ys => match intsOf xs, intsOf ys with
    | some ns, some ms => some (.bool (HT.lexLt ns ms))
    | _, _ => none
  | _, _ => none
where intsOf : List PyData → Option (List Int)
  | [] => some []
  | .int i :: r => (intsOf r).map (i :: ·)
  | _ => none
def gLe : PyData → PyData → Option PyData
  | .int i, .int j => some (.bool (decide (i ≤ j)))
  | _, _ => none
def gGt : PyData → PyData → Option PyData
  | .int i, .int j => some (.bool (decide (j < i)))
  | _, _ => none
def gGe : PyData → PyData → Option PyData
  | .int i, .int j => some (.bool (decide (j ≤ i)))
  | _, _ => none
def isNone : PyData → Bool
  | .none => true
  | _ => false
def gIs : PyData → PyData → Option PyData
  | a, .none => some (.bool (isNone a))
  | .bool i, .bool j => some (.bool (decide (i = j)))
  | .none, .bool _ => some (.bool false)
  | _, _ => none
def gIsNot : PyData → PyData → Option PyData
  | a, .none => some (.bool (!isNone a))
  | .bool i, .bool j => some (.bool (!decide (i = j)))
  | .none, .bool _ => some (.bool true)
  | _, _ => none
/-- the one sign of a text -/
def sign1 (x : Str) : Option Nat := match x.cps.toList with
  | [c] => some c
  | _ => none
def gIn : PyData → PyData → Option PyData
  | .str x, .str y => (sign1 x).map fun c => .bool (decide (c ∈ y.cps.toList))
  | a, .list ys => if SeqAt.shaped a && SeqAt.shaped (.list ys) then some (.bool (ys.any fun z => PyData.eqv z a)) else none
  | a, .tuple ys => if SeqAt.shaped a && SeqAt.shaped (.tuple ys) then some (.bool (ys.any fun z => PyData.eqv z a)) else none
  | _, _ => none
def gNotIn (a b : PyData) : Option PyData := (gIn a b).bind fun d => match d with
  | .bool k => some (.bool (!k))
  | _ => none
theorem intsOf_eq : ∀ {xs : List PyData} {ns : List Int}, gLt.intsOf xs = some ns → xs = ns.map PyData.int
  | [], ns, h => by simp [gLt.intsOf] at h; subst h; rfl
  | .int i :: r, ns, h => by
    rw [gLt.intsOf] at h
    cases e : gLt.intsOf r with
    | none => rw [e] at h; cases h
    | some ms =>
      rw [e] at h
      cases h
      rw [List.map_cons, intsOf_eq e]
  | .none :: _, _, h => by simp [gLt.intsOf] at h
  | .bool _ :: _, _, h => by simp [gLt.intsOf] at h
  | .str _ :: _, _, h => by simp [gLt.intsOf] at h
  | .list _ :: _, _, h => by simp [gLt.intsOf] at h
  | .tuple _ :: _, _, h => by simp [gLt.intsOf] at h
  | .dict _ :: _, _, h => by simp [gLt.intsOf] at h
theorem sign1_eq {x : Str} {c : Nat} (h : sign1 x = some c) : x = ⟨#[c]⟩ := by
  unfold sign1 at h
  split at h
  · rename_i d e
    cases h
    cases x with
    | mk cps =>
      have : cps = #[c] := by
        have := congrArg List.toArray e
        simpa using this
      rw [this]
  · cases h

section
variable {X : Cx} {bx : Option (Addr × Addr)} {pos : Pos} {a b e : Expr} {fa fb : M PyData}
def rInDT (K : PySem.W.Frag) : R2 := fun x y H Q => ∃ d ds, Dp K H x d ∧ Dp K H y (.tuple ds) ∧ SeqAt.shaped d = true ∧ SeqAt.shaped (.tuple ds) = true ∧ Q (.bl (ds.any fun z => PyData.eqv z d)) H
def rNotInDT (K : PySem.W.Frag) : R2 := fun x y H Q => ∃ d ds, Dp K H x d ∧ Dp K H y (.tuple ds) ∧ SeqAt.shaped d = true ∧ SeqAt.shaped (.tuple ds) = true ∧ Q (.bl (!ds.any fun z => PyData.eqv z d)) H
theorem roomT {A : Around} {d : PyData} {ds : List PyData} (h : SeqAt.shaped d = true) (hu : A.units + 65 < cLine) : A.units + 1 + min (PyData.depthAll ds) d.depth < cLine := by
  have h1 := SeqAt.depth_of_shaped h
  have h2 : min (PyData.depthAll ds) d.depth ≤ d.depth := Nat.min_le_right _ _
  omega
theorem op_inDT (hu : X.A.units + 65 < cLine) : OpR X (compareOp .In) (rInDT X.K) := by
  intro pins s σ H x y v u Q I rx ry h
  obtain ⟨d, ds, hd, he, sd, se, q⟩ := h
  obtain ⟨as, r1⟩ := Dp.reads I d x v hd rx
  obtain ⟨bs, r2⟩ := Dp.reads I (.tuple ds) y u he ry
  exact SeqAt.in_tuple_reads r2 r1 (SeqAt.canLay_of_shaped se) (SeqAt.canLay_of_shaped sd) (roomT sd hu) ⟨.bl _, H, I, rfl, q⟩
theorem op_notInDT (hu : X.A.units + 65 < cLine) : OpR X (compareOp .NotIn) (rNotInDT X.K) := by
  intro pins s σ H x y v u Q I rx ry h
  obtain ⟨d, ds, hd, he, sd, se, q⟩ := h
  obtain ⟨as, r1⟩ := Dp.reads I d x v hd rx
  obtain ⟨bs, r2⟩ := Dp.reads I (.tuple ds) y u he ry
  exact SeqAt.notIn_tuple_reads r2 r1 (SeqAt.canLay_of_shaped se) (SeqAt.canLay_of_shaped sd) (roomT sd hu) ⟨.bl _, H, I, rfl, q⟩
/-- an operation of X and its spec by data -/
structure CmpS (X : Cx) (bx : Option (Addr × Addr)) (op : CmpOp) (g : PyData → PyData → Option PyData) : Prop where
  ex : ∃ r, OpR X (compareOp op) r ∧ OpN ⟨X.K, bx⟩ r g
theorem cEq (hu : X.A.units + 65 < cLine) : CmpS X bx .Eq gEq := ⟨_, op_eqD (by omega), fun a b d e G H x y Q sub ra rb k => by
  unfold gEq at e
  split at e
  · rename_i h
    rw [Bool.and_eq_true] at h
    cases e
    exact ⟨a, b, (ra.rp (notBox_plain (plain_of_shaped h.1))).dp sub (plain_of_shaped h.1), (rb.rp (notBox_plain (plain_of_shaped h.2))).dp sub (plain_of_shaped h.2), h.1, h.2, k _ (.inl (.bl _))⟩
  · cases e⟩
theorem cNe (hu : X.A.units + 65 < cLine) : CmpS X bx .NotEq gNe := ⟨_, op_neD (by omega), fun a b d e G H x y Q sub ra rb k => by
  unfold gNe at e
  split at e
  · rename_i h
    rw [Bool.and_eq_true] at h
    cases e
    exact ⟨a, b, (ra.rp (notBox_plain (plain_of_shaped h.1))).dp sub (plain_of_shaped h.1), (rb.rp (notBox_plain (plain_of_shaped h.2))).dp sub (plain_of_shaped h.2), h.1, h.2, k _ (.inl (.bl _))⟩
  · cases e⟩
theorem cLt (hu : X.A.units + 65 < cLine) : CmpS X bx .Lt gLt := ⟨_, op_lt.or (op_ltT (by omega)), fun a b d e G H x y Q sub ra rb k => by
  unfold gLt at e
  split at e
  · cases e
    cases rpInt ra; cases rpInt rb
    exact .inl ⟨_, _, rfl, rfl, k _ (.inl (.bl _))⟩
  · split at e
    · rename_i ns ms h1 h2
      cases e
      obtain ⟨p, xs, rfl, hp, rp⟩ := rpTup ra
      obtain ⟨q, ys, rfl, hq, rq⟩ := rpTup rb
      have e1 := rp.ints ns (intsOf_eq h1)
      have e2 := rq.ints ms (intsOf_eq h2)
      subst e1 e2
      exact .inr ⟨p, q, ns, ms, rfl, rfl, tup_mono sub hp, tup_mono sub hq, k _ (.inl (.bl _))⟩
    · cases e
  · cases e⟩
theorem cLe : CmpS X bx .LtE gLe := ⟨_, op_le, fun a b d e G H x y Q sub ra rb k => by
  unfold gLe at e
  split at e
  · cases e
    cases rpInt ra; cases rpInt rb
    exact ⟨_, _, rfl, rfl, k _ (.inl (.bl _))⟩
  · cases e⟩
theorem cGt : CmpS X bx .Gt gGt := ⟨_, op_gt, fun a b d e G H x y Q sub ra rb k => by
  unfold gGt at e
  split at e
  · cases e
    cases rpInt ra; cases rpInt rb
    exact ⟨_, _, rfl, rfl, k _ (.inl (.bl _))⟩
  · cases e⟩
theorem cGe : CmpS X bx .GtE gGe := ⟨_, op_ge, fun a b d e G H x y Q sub ra rb k => by
  unfold gGe at e
  split at e
  · cases e
    cases rpInt ra; cases rpInt rb
    exact ⟨_, _, rfl, rfl, k _ (.inl (.bl _))⟩
  · cases e⟩
def rNonBl (neg : Bool) : R2 := fun x y H Q => ∃ b : Bool, x = .non ∧ y = .bl b ∧ Q (.bl neg) H
theorem op_isNB : OpR X (compareOp .Is) (rNonBl false) := by
  intro pins s σ H x y v u Q I rx ry h
  obtain ⟨b, rfl, rfl, q⟩ := h
  cases (show v = Value.none from rx)
  cases (show u = Value.bool b from ry)
  exact wpAny_is_other rfl (fun z => nomatch z) ⟨.bl false, H, I, rfl, q⟩
theorem op_notNB : OpR X (compareOp .IsNot) (rNonBl true) := by
  intro pins s σ H x y v u Q I rx ry h
  obtain ⟨b, rfl, rfl, q⟩ := h
  cases (show v = Value.none from rx)
  cases (show u = Value.bool b from ry)
  exact wpAny_isNot_other rfl (fun z => nomatch z) ⟨.bl true, H, I, rfl, q⟩
theorem isNon {c : Cf} {G : Hp} {x : V} {a : PyData} (h : RpX c G x a) : decide (x = .non) = isNone a := by
  rcases h with h | ⟨rfl, B, C, _, rfl⟩
  · cases h <;> simp [isNone]
  · simp [boxD, isNone]
theorem cIs : CmpS X bx .Is gIs := ⟨_, op_isN.or (op_isBl.or op_isNB), fun a b d e G H x y Q sub ra rb k => by
  unfold gIs at e
  split at e
  · cases e
    have := rb.rp rfl
    cases this
    refine .inl ⟨rfl, ?_⟩
    rw [isNon ra]
    exact k _ (.inl (.bl _))
  · cases e
    cases rpBl ra; cases rpBl rb
    exact .inr (.inl ⟨_, _, rfl, rfl, k _ (.inl (.bl _))⟩)
  · cases e
    have := ra.rp rfl
    cases this
    cases rpBl rb
    exact .inr (.inr ⟨_, rfl, rfl, k _ (.inl (.bl _))⟩)
  · cases e⟩
theorem cIsNot : CmpS X bx .IsNot gIsNot := ⟨_, op_notN.or (op_notBl.or op_notNB), fun a b d e G H x y Q sub ra rb k => by
  unfold gIsNot at e
  split at e
  · cases e
    have := rb.rp rfl
    cases this
    refine .inl ⟨rfl, ?_⟩
    rw [isNon ra]
    exact k _ (.inl (.bl _))
  · cases e
    cases rpBl ra; cases rpBl rb
    exact .inr (.inl ⟨_, _, rfl, rfl, k _ (.inl (.bl _))⟩)
  · cases e
    have := ra.rp rfl
    cases this
    cases rpBl rb
    exact .inr (.inr ⟨_, rfl, rfl, k _ (.inl (.bl _))⟩)
  · cases e⟩
theorem cIn (hu : X.A.units + 65 < cLine) : CmpS X bx .In gIn := ⟨_, op_in_sign.or ((op_inD hu).or (op_inDT hu)), fun a b d e G H x y Q sub ra rb k => by
  unfold gIn at e
  split at e
  · rename_i u w
    cases h : sign1 u with
    | none => rw [h] at e; cases e
    | some c =>
      rw [h] at e
      cases e
      cases rpStr ra; cases rpStr rb
      exact .inl ⟨c, _, by rw [sign1_eq h], rfl, k _ (.inl (.bl _))⟩
  · split at e
    · rename_i h
      rw [Bool.and_eq_true] at h
      cases e
      exact .inr (.inl ⟨_, _, (ra.rp (notBox_plain (plain_of_shaped h.1))).dp sub (plain_of_shaped h.1), (rb.rp rfl).dp sub (plain_of_shaped h.2), h.1, h.2, k _ (.inl (.bl _))⟩)
    · cases e
  · split at e
    · rename_i h
      rw [Bool.and_eq_true] at h
      cases e
      exact .inr (.inr ⟨_, _, (ra.rp (notBox_plain (plain_of_shaped h.1))).dp sub (plain_of_shaped h.1), (rb.rp rfl).dp sub (plain_of_shaped h.2), h.1, h.2, k _ (.inl (.bl _))⟩)
    · cases e
  · cases e⟩
theorem cNotIn (hu : X.A.units + 65 < cLine) : CmpS X bx .NotIn gNotIn := ⟨_, op_notIn_sign.or ((op_notInD hu).or (op_notInDT hu)), fun a b d e G H x y Q sub ra rb k => by
  unfold gNotIn gIn at e
  split at e
  · rename_i u w
    cases h : sign1 u with
    | none => rw [h] at e; cases e
    | some c =>
      rw [h] at e
      cases e
      cases rpStr ra; cases rpStr rb
      exact .inl ⟨c, _, by rw [sign1_eq h], rfl, k _ (.inl (.bl _))⟩
  · split at e
    · rename_i h
      rw [Bool.and_eq_true] at h
      cases e
      exact .inr (.inl ⟨_, _, (ra.rp (notBox_plain (plain_of_shaped h.1))).dp sub (plain_of_shaped h.1), (rb.rp rfl).dp sub (plain_of_shaped h.2), h.1, h.2, k _ (.inl (.bl _))⟩)
    · cases e
  · split at e
    · rename_i h
      rw [Bool.and_eq_true] at h
      cases e
      exact .inr (.inr ⟨_, _, (ra.rp (notBox_plain (plain_of_shaped h.1))).dp sub (plain_of_shaped h.1), (rb.rp rfl).dp sub (plain_of_shaped h.2), h.1, h.2, k _ (.inl (.bl _))⟩)
    · cases e
  · cases e⟩
theorem eCm {op : CmpOp} {g : PyData → PyData → Option PyData} (s : CmpS X bx op g) (ha : EE X bx a fa) (hb : EE X bx b fb) (hm : behindInMarks op b = false := by first | exact nomark _ | rfl) : EE X bx (.Compare a [op] [b] pos) (fBin fa fb g) :=
  let ⟨_, h1, h2⟩ := s.ex; eCmp h1 (opS_of h2) ha hb hm
theorem tCm {op : CmpOp} {g : PyData → PyData → Option PyData} (s : CmpS X bx op g) (ha : EE X bx a fa) (hb : EE X bx b fb) (hm : behindInMarks op b = false := by first | exact nomark _ | rfl) : ET X bx (.Compare a [op] [b] pos) (tbl (fBin fa fb g)) :=
  let ⟨_, h1, h2⟩ := s.ex; tCmp h1 (opS_of h2) ha hb hm
theorem eCh {op op' : CmpOp} {cc : Expr} {fc : M PyData} {g g' : PyData → PyData → Option PyData} (s : CmpS X bx op g) (s' : CmpS X bx op' g') (ha : EE X bx a fa) (hb : EE X bx b fb) (hc : EE X bx cc fc) (h1 : lastMarks [op, op'] [b, cc] = false := by rfl) :
    EE X bx (.Compare a [op, op'] [b, cc] pos) (fChain fa fb fc g g') :=
  let ⟨_, h2, h3⟩ := s.ex; let ⟨_, h4, h5⟩ := s'.ex; eChain h2 h4 (opS_of h3) (opS_of h5) ha hb hc h1
theorem tCh {op op' : CmpOp} {cc : Expr} {fc : M PyData} {g g' : PyData → PyData → Option PyData} (s : CmpS X bx op g) (s' : CmpS X bx op' g') (ha : EE X bx a fa) (hb : EE X bx b fb) (hc : EE X bx cc fc) (h1 : lastMarks [op, op'] [b, cc] = false := by rfl) :
    ET X bx (.Compare a [op, op'] [b, cc] pos) (tbl (fChain fa fb fc g g')) :=
  let ⟨_, h2, h3⟩ := s.ex; let ⟨_, h4, h5⟩ := s'.ex; tChn h2 h4 (opS_of h3) (opS_of h5) ha hb hc h1
/-- code that is never come to -/
theorem eNo : EE X bx e (lft none) := ⟨fun _ _ _ _ _ _ ⟨_, _, _, _, _, _, _, h, _⟩ => by simp [lft] at h⟩
theorem tNo : ET X bx e (lft none) := ⟨fun _ _ _ _ _ _ ⟨_, _, _, _, _, _, _, h, _⟩ => by simp [lft] at h⟩
end
end Ev
end
section
set_option Elab.async false
set_option linter.all false
set_option maxRecDepth 100000
/-! Ev5: places, slices, built-in functions, own defs. -/
namespace Ev
open PySem PySem.Spec L2
set_option autoImplicit false

/-! ### fresh lists as values; operations that hand back a fresh list -/
section
variable {X : Cx} {bx : Option (Addr × Addr)} {pos : Pos} {a b e : Expr} {fa fb : M PyData} {fs : M (List PyData)}
theorem eLst (h : EF X bx e fs) : EE X bx e (fLst fs) := by
  refine peI h fun σ H Q h => ?_
  obtain ⟨G, env, s, d, env', s', I, ee, k⟩ := h
  cases ef : fs env s with
  | none => simp [fLst, bnd, ef] at ee
  | some q =>
    obtain ⟨l, e1, s1⟩ := q
    simp only [fLst, bnd, ef, pur, Option.some.injEq, Prod.mk.injEq] at ee
    obtain ⟨rfl, rfl, rfl⟩ := ee
    refine ⟨G, env, s, l, e1, s1, I, ef, fun p xs G' H' J m h0 hH hG r n => ?_⟩
    refine k (.ref p) _ H' (J.absorb hH hG n) (m.absorb (o := .lst xs) h0 hG) (.inl (.lst upd_same (r.mono fun b u q => ?_)))
    rw [upd_ne (ne_of_none q hG)]; exact q
/-- a value, then what lays a fresh list -/
def fFr (fa : M PyData) (g : PyData → Option (List PyData)) : M (List PyData) := bnd fa fun a => lft (g a)
def fFr2 (fa fb : M PyData) (g : PyData → PyData → Option (List PyData)) : M (List PyData) := bnd fa fun a => bnd fb fun b => lft (g a b)
/-- the end of such an operation -/
theorem rdF_lift {c : Cf} {α : Type} {γ : Type} {R : Hp → γ → α → Prop} {f : M α} {g : α → Option (List PyData)} {σ : St} {H : Hp} {Q : VK} (h : rdF c (bnd f fun a => lft (g a)) σ H Q) :
    rd c R f σ H (fun v H1 => ∃ a G1 l, R G1 v a ∧ Same G1 H1 ∧ g a = some l ∧ ∀ xs p, RpAll c.K G1 xs l → H1 p = none → Q (.ref p) (upd H1 p (.lst xs))) := by
  obtain ⟨G, env, s, l, env', s', I, e, k⟩ := h
  cases ef : f env s with
  | none => simp [bnd, ef] at e
  | some q =>
    obtain ⟨a, e1, s1⟩ := q
    simp only [bnd, ef] at e
    refine ⟨G, env, s, a, e1, s1, I, ef, fun v G1 H1 J m r => ?_⟩
    cases eg : g a with
    | none => simp [lft, eg] at e
    | some l' =>
      simp only [lft, eg, Option.some.injEq, Prod.mk.injEq] at e
      obtain ⟨rfl, rfl, rfl⟩ := e
      refine ⟨a, G1, l', r, J.sub, eg, fun xs p ra hp => ?_⟩
      obtain ⟨J2, m2⟩ := J.base.allocM hp (.lst xs)
      exact k p xs G1 _ (J.lift J2 m2) (m.trans m2.lift) (m.fresh hp) upd_same (J.free hp) ra (tch_not J hp)
def gCat : PyData → PyData → Option (List PyData)
  | .list xs, .list ys => if xs.length + ys.length ≤ Ln then some (xs ++ ys) else none
  | _, _ => none
theorem rdF_bind {c : Cf} {α γ : Type} {R : Hp → γ → α → Prop} {f : M α} {g : α → M (List PyData)} {σ : St} {H : Hp} {Q : VK} (h : rdF c (bnd f g) σ H Q) :
    rd c R f σ H (fun v H1 => ∃ a G1, R G1 v a ∧ ∃ (env : En) (s : Bx) (l : List PyData) (env' : En) (s' : Bx), INV c σ env s G1 H1 ∧ g a env s = some (l, env', s') ∧
      ∀ (p : Addr) (xs : List V) (G' H' : Hp), INV c σ env' s' G' H' → Mv c σ env G1 H1 σ env' G' H' → H1 p = none → H' p = some (.lst xs) → G' p = none → RpAll c.K G' xs l → ¬ Tch c env' σ p → Q (.ref p) H') := by
  obtain ⟨G, env, s, l, env', s', I, e, k⟩ := h
  cases ef : f env s with
  | none => simp [bnd, ef] at e
  | some q =>
    obtain ⟨a, e1, s1⟩ := q
    simp only [bnd, ef] at e
    refine ⟨G, env, s, a, e1, s1, I, ef, fun v G1 H1 J m r => ⟨a, G1, r, e1, s1, l, env', s', J, e, fun p xs G' H' J2 m2 h0 h1 h2 h3 h4 => k p xs G' H' J2 (m.trans m2) (m.fresh h0) h1 h2 h3 h4⟩⟩
theorem fCat (ha : EE X bx a fa) (hb : EE X bx b fb) : EF X bx (.BinOp a .Add b pos) (fFr2 fa fb gCat) := by
  refine peI (pe_op op_cat ha hb) fun σ H Q h => ?_
  refine (rdF_bind (R := RpX ⟨X.K, bx⟩) h).mono fun x H1 ⟨d, G1, ra, env, s, l, env', s', I, e, k⟩ => ?_
  have h1 : rdF ⟨X.K, bx⟩ (bnd fb fun b => lft (gCat d b)) σ H1 Q := ⟨G1, env, s, l, env', s', I, e, k⟩
  -- the first value stays what it is while the second one is reckoned
  cases ef : fb env s with
  | none => simp [bnd, ef] at e
  | some q =>
    obtain ⟨b2, e1, s1⟩ := q
    simp only [bnd, ef] at e
    refine ⟨G1, env, s, b2, e1, s1, I, ef, fun y G2 H2 J m rb => ?_⟩
    have rd2 := ra.mono m.sub
    cases eg : gCat d b2 with
    | none => simp [lft, eg] at e
    | some l' =>
      simp only [lft, eg, Option.some.injEq, Prod.mk.injEq] at e
      obtain ⟨rfl, rfl, rfl⟩ := e
      unfold gCat at eg
      split at eg
      · split at eg
        · rename_i hl
          cases eg
          obtain ⟨p, xs, rfl, hp, rp⟩ := rpLst rd2
          obtain ⟨q, ys, rfl, hq, rq⟩ := rpLst rb
          have h1 := rp.length
          have h2 := rq.length
          refine ⟨p, q, xs, ys, rfl, rfl, J.sub _ _ hp, J.sub _ _ hq, by rw [ln_eq]; omega, fun t ht => ?_⟩
          obtain ⟨J2, m2⟩ := J.base.allocM ht (.lst (xs ++ ys))
          exact k t _ G2 _ (J.lift J2 m2) (m.trans m2.lift) (m.fresh ht) upd_same (J.free ht) (rp.append rq) (tch_not J ht)
        · cases eg
      · cases eg
end

/-! ### places -/
def gIx : PyData → PyData → Option PyData
  | .list xs, .int i => atI xs i
  | .tuple xs, .int i => atI xs i
  | .str z, .int i => if z.length ≤ Ln then (atI z.cps.toList i).map fun c => .str ⟨#[c]⟩ else none
  | _, _ => none
theorem atI_rp {K : PySem.W.Frag} {G : Hp} {xs : List V} {ds : List PyData} (r : RpAll K G xs ds) {i : Int} {d : PyData} (h : atI ds i = some d) : ∃ v, atI xs i = some v ∧ Rp K G v d := by
  unfold atI at h ⊢
  rw [r.length]
  cases e : ixN ds.length i with
  | none => rw [e] at h; cases h
  | some j =>
    rw [e] at h
    exact r.get h
section
variable {X : Cx} {bx : Option (Addr × Addr)} {pos p2 : Pos} {a b e : Expr} {fa fb : M PyData} {fs : M (List PyData)}
theorem eIx (ha : EE X bx a fa) (hb : EE X bx b fb) (hs : PlainIx b := by exact fun _ _ => rfl) : EE X bx (.Subscript a b pos) (fBin fa fb gIx) := by
  refine peI (pe_ix ix_seq ha hb hs) fun σ H Q h => opS_run (g := gIx) (opS_of fun a b d e G H x y Q sub ra rb k => ?_) h
  unfold gIx at e
  split at e
  · obtain ⟨p, xs, rfl, hp, rp⟩ := rpLst ra
    cases rpInt rb
    obtain ⟨v, h1, h2⟩ := atI_rp rp e
    exact .inl ⟨p, xs, _, v, rfl, rfl, SqL.of (sub _ _ hp), h1, k _ (.inl h2)⟩
  · obtain ⟨p, xs, rfl, hp, rp⟩ := rpTup ra
    cases rpInt rb
    obtain ⟨v, h1, h2⟩ := atI_rp rp e
    exact .inr (.inl ⟨p, xs, _, v, rfl, rfl, tup_mono sub hp, h1, k _ (.inl h2)⟩)
  · split at e
    · cases rpStr ra
      cases rpInt rb
      rename_i z i hl
      cases h1 : atI z.cps.toList i with
      | none => rw [h1] at e; cases e
      | some c =>
        rw [h1] at e
        cases e
        exact .inr (.inr ⟨z, i, c, rfl, rfl, by rw [ln_eq]; exact hl, h1, k _ (.inl (.str _))⟩)
    · cases e
  · cases e

/-! ### slices -/
abbrev EO (X : Cx) (bx : Option (Addr × Addr)) (o : Option Expr) (f : M (Option Int)) : Prop := PO X o (fun σ H Q => rd ⟨X.K, bx⟩ REq f σ H Q)
def oSm (fa : M PyData) : M (Option Int) := bnd fa fun a => match a with
  | .int i => pur (some i)
  | _ => lft none
theorem poI {o : Option Expr} {t t' : TO} (h : PO X o t) (i : ∀ σ H Q, t' σ H Q → t σ H Q) : PO X o t' := ⟨fun pins s σ H Q I q => h.run pins s σ H Q I (i σ H Q q)⟩
theorem oNo : EO X bx none (pur none) := poI po_none fun σ H Q ⟨G, q⟩ => let ⟨_, I, k⟩ := q.pure; k _ _ _ I Mv.refl rfl
theorem oSo (h : EE X bx e fa) : EO X bx (some e) (oSm fa) := poI (po_some h) fun σ H Q h => by
  refine (rd.bind (R := RpX ⟨X.K, bx⟩) h).mono fun x H1 ⟨d, G1, ra, h1⟩ => ?_
  split at h1
  · cases rpInt ra
    obtain ⟨s, I, k⟩ := h1.pure
    exact ⟨_, rfl, k _ _ _ I Mv.refl rfl⟩
  · obtain ⟨_, _, e, _⟩ := h1.lift; cases e
def cutD (xs : List PyData) (lo hi : Option Int) : List PyData := (xs.drop (HT.sIx xs.length 0 lo)).take (HT.sIx xs.length xs.length hi - HT.sIx xs.length 0 lo)
def gSl : PyData → Option Int → Option Int → Option PyData
  | .tuple xs, lo, hi => some (.tuple (cutD xs lo hi))
  | .str z, lo, hi => if z.length ≤ Ln then some (.str (cutS z lo hi)) else none
  | _, _, _ => none
def fSl (fa : M PyData) (fl fh : M (Option Int)) : M PyData := bnd fa fun a => bnd fl fun l => bnd fh fun h => lft (gSl a l h)
theorem cut_rp {K : PySem.W.Frag} {G : Hp} {xs : List V} {ds : List PyData} (r : RpAll K G xs ds) (lo hi : Option Int) : RpAll K G (cutV xs lo hi) (cutD ds lo hi) := by
  unfold cutV cutD
  rw [r.length]
  exact (r.drop _).take _
theorem eSl {lo hi : Option Expr} {fl fh : M (Option Int)} (ha : EE X bx a fa) (hl : EO X bx lo fl) (hh : EO X bx hi fh) : EE X bx (.Subscript a (.Slice lo hi none p2) pos) (fSl fa fl fh) := by
  refine peI (pe_slice (sl_tupA.or sl_str) ha hl hh) fun σ H Q h => ?_
  refine (rd.bind (R := RpX ⟨X.K, bx⟩) h).mono fun x H1 ⟨d, G1, ra, h1⟩ => ?_
  refine (h1.bind (R := REq)).rd.mono fun l H2 ⟨l', G2, s2, el, h2⟩ => ?_
  refine (h2.bind (R := REq)).rd.mono fun u H3 ⟨u', G3, s3, eu, h3⟩ => ?_
  cases el; cases eu
  obtain ⟨s, r, e, I, k⟩ := h3.lift
  have ra3 := (ra.mono s2).mono s3
  unfold gSl at e
  split at e
  · cases e
    obtain ⟨p, xs, rfl, hp, rp⟩ := rpTup ra3
    refine .inl ⟨p, xs, rfl, tup_mono I.sub hp, fun hw => ?_, fun hw t ht => ?_⟩
    · refine k _ G3 H3 I Mv.refl (.inl (.tup hp ?_))
      have := cut_rp rp l u
      unfold cutV at this
      rw [hw.1, hw.2] at this
      simpa using this
    · obtain ⟨J, m⟩ := I.alloc ht (.tup (cutV xs l u))
      exact k _ _ _ J m (.inl (.tup (SqT.of upd_same) ((cut_rp rp l u).mono m.sub)))
  · split at e
    · cases e
      cases rpStr ra3
      exact .inr ⟨_, rfl, by rw [ln_eq]; assumption, k _ G3 H3 I Mv.refl (.inl (.str _))⟩
    · cases e
  · cases e
def fSlL (fa : M PyData) (fl fh : M (Option Int)) : M (List PyData) := bnd fa fun a => bnd fl fun l => bnd fh fun h => lft (match a with | .list xs => some (cutD xs l h) | _ => none)
theorem eSlL {lo hi : Option Expr} {fl fh : M (Option Int)} (ha : EE X bx a fa) (hl : EO X bx lo fl) (hh : EO X bx hi fh) : EF X bx (.Subscript a (.Slice lo hi none p2) pos) (fSlL fa fl fh) := by
  refine peI (pe_slice sl_list ha hl hh) fun σ H Q h => ?_
  obtain ⟨G, env, s, l, env', s', I, e, k⟩ := h
  cases ef : fa env s with
  | none => simp [fSlL, bnd, ef] at e
  | some q =>
    obtain ⟨d, e1, s1⟩ := q
    simp only [fSlL, bnd, ef] at e
    refine ⟨G, env, s, d, e1, s1, I, ef, fun x G1 H1 J1 m1 ra => ?_⟩
    cases ef1 : fl e1 s1 with
    | none => simp [ef1] at e
    | some q =>
      obtain ⟨l1, e2, s2⟩ := q
      simp only [ef1] at e
      refine ⟨G1, e1, s1, l1, e2, s2, J1, ef1, fun lv G2 H2 J2 m2 el => ?_⟩
      cases ef2 : fh e2 s2 with
      | none => simp [ef2] at e
      | some q =>
        obtain ⟨u1, e3, s3⟩ := q
        simp only [ef2] at e
        refine ⟨G2, e2, s2, u1, e3, s3, J2, ef2, fun uv G3 H3 J3 m3 eu => ?_⟩
        cases el; cases eu
        cases d with
        | list ds =>
          simp only [lft, Option.some.injEq, Prod.mk.injEq] at e
          obtain ⟨rfl, rfl, rfl⟩ := e
          obtain ⟨p, xs, rfl, hp, rp⟩ := rpLst ((ra.mono m2.sub).mono m3.sub)
          refine ⟨p, xs, rfl, SqL.of (J3.sub _ _ hp), fun t ht => ?_⟩
          obtain ⟨J4, m4⟩ := J3.base.allocM ht (.lst (cutV xs l1 u1))
          exact k t _ G3 _ (J3.lift J4 m4) (((m1.trans m2).trans m3).trans m4.lift) (((m1.trans m2).trans m3).fresh ht) upd_same (J3.free ht) (cut_rp rp l1 u1) (tch_not J3 ht)
        | _ => simp [lft] at e
end

/-! ### built-in functions of one value -/
def Op1S (c : Cf) (r : List V → Hp → VK → Prop) (g : PyData → Option PyData) : Prop :=
  ∀ (a d : PyData), g a = some d → ∀ (s : Bx) (G H : Hp) (x : V) (Q : VK), INV0 c s G H → RpX c G x a → (∀ v G' H', INV0 c s G' H' → Mv0 c G H G' H' → RpX c G' v d → Q v H') → r [x] H Q
def Op1F (c : Cf) (r : List V → Hp → VK → Prop) (g : PyData → Option (List PyData)) : Prop :=
  ∀ (a : PyData) (l : List PyData), g a = some l → ∀ (G H : Hp) (x : V) (Q : VK), Same G H → RpX c G x a → (∀ xs p, RpAll c.K G xs l → H p = none → Q (.ref p) (upd H p (.lst xs))) → r [x] H Q
def f1 (fa : M PyData) (g : PyData → Option PyData) : M PyData := bnd fa fun a => lft (g a)
section
variable {X : Cx} {bx : Option (Addr × Addr)} {c : Cf} {pos p : Pos} {e : Expr} {fa : M PyData} {r : List V → Hp → VK → Prop} {g : PyData → Option PyData} {x : Str}
theorem op1_of (h : ∀ (a d : PyData), g a = some d → ∀ (G H : Hp) (x : V) (Q : VK), Same G H → RpX c G x a → (∀ v, RpX c G v d → Q v H) → r [x] H Q) : Op1S c r g :=
  fun a d e s G H x Q I ra k => h a d e G H x Q I.sub ra fun v rv => k v G H I Mv.refl rv
theorem cb_run (hs : Op1S c r g) {σ : St} {H : Hp} {Q : VK} (h : rdE c (f1 fa g) σ H Q) : tCB r (tCons (rdE c fa) tNil) σ H Q := by
  refine (rd.bind (R := RpX c) h).mono fun x H1 ⟨a, G1, ra, h1⟩ => ?_
  obtain ⟨s, d, e, I, k⟩ := h1.lift
  exact hs a d e s G1 H1 x Q I ra k
theorem cbF_run {gf : PyData → Option (List PyData)} (hs : Op1F c r gf) {σ : St} {H : Hp} {Q : VK} (h : rdF c (fFr fa gf) σ H Q) : tCB r (tCons (rdE c fa) tNil) σ H Q := by
  refine (rdF_lift (R := RpX c) h).mono fun x H1 ⟨a, G1, l, ra, sub, e, k⟩ => ?_
  exact hs a l e G1 H1 x Q sub ra k
theorem eB {id : String} (hc : CallR X (.builtin id) r) (hs : Op1S ⟨X.K, bx⟩ r g) (ha : EE X bx e fa) (hm : X.mg x = none) (hv : bootBuiltins x = some (.builtin id)) (hg : Gl X x := by rfl) (hn : x ≠ "__name__" := by decide) (hdb : (x == ("__debug__" : Str)) = false := by decide)
    (h1 : starEach [e] X.env = (false, eval e X.env) :: starEach [] X.env := by rfl) (h2 : (backTo pos (starEach [] X.env)).any (·.1) = false := by rfl) : EE X bx (.Call (.Name x p) [e] [] pos) (f1 fa g) :=
  peI (pe_callB hc hg hm hv (pa_cons ha pa_nil h1) hn hdb h1 h2) fun _ _ _ h => cb_run hs h
theorem eBT {T : String} (hc : CallR X (.type T) r) (hs : Op1S ⟨X.K, bx⟩ r g) (ha : EE X bx e fa) (hm : X.mg x = none) (hv : bootBuiltins x = some (.type T)) (hg : Gl X x := by rfl) (hn : x ≠ "__name__" := by decide) (hdb : (x == ("__debug__" : Str)) = false := by decide)
    (h1 : starEach [e] X.env = (false, eval e X.env) :: starEach [] X.env := by rfl) (h2 : (backTo pos (starEach [] X.env)).any (·.1) = false := by rfl) : EE X bx (.Call (.Name x p) [e] [] pos) (f1 fa g) :=
  peI (pe_callTy hc hg hm hv (pa_cons ha pa_nil h1) hn hdb h1 h2) fun _ _ _ h => cb_run hs h
theorem eBTF {T : String} {gf : PyData → Option (List PyData)} (hc : CallR X (.type T) r) (hs : Op1F ⟨X.K, bx⟩ r gf) (ha : EE X bx e fa) (hm : X.mg x = none) (hv : bootBuiltins x = some (.type T)) (hg : Gl X x := by rfl) (hn : x ≠ "__name__" := by decide) (hdb : (x == ("__debug__" : Str)) = false := by decide)
    (h1 : starEach [e] X.env = (false, eval e X.env) :: starEach [] X.env := by rfl) (h2 : (backTo pos (starEach [] X.env)).any (·.1) = false := by rfl) : EF X bx (.Call (.Name x p) [e] [] pos) (fFr fa gf) :=
  peI (pe_callTy hc hg hm hv (pa_cons ha pa_nil h1) hn hdb h1 h2) fun _ _ _ h => cbF_run hs h
theorem eBF {id : String} {gf : PyData → Option (List PyData)} (hc : CallR X (.builtin id) r) (hs : Op1F ⟨X.K, bx⟩ r gf) (ha : EE X bx e fa) (hm : X.mg x = none) (hv : bootBuiltins x = some (.builtin id)) (hg : Gl X x := by rfl) (hn : x ≠ "__name__" := by decide) (hdb : (x == ("__debug__" : Str)) = false := by decide)
    (h1 : starEach [e] X.env = (false, eval e X.env) :: starEach [] X.env := by rfl) (h2 : (backTo pos (starEach [] X.env)).any (·.1) = false := by rfl) : EF X bx (.Call (.Name x p) [e] [] pos) (fFr fa gf) :=
  peI (pe_callB hc hg hm hv (pa_cons ha pa_nil h1) hn hdb h1 h2) fun _ _ _ h => cbF_run hs h

def gLen : PyData → Option PyData
  | .str z => if z.length ≤ Ln then some (.int z.length) else none
  | .list xs => some (.int xs.length)
  | .tuple xs => some (.int xs.length)
  | .dict es => if okD es then some (.int es.length) else none
  | _ => none
theorem kvs_len {K : PySem.W.Frag} {G : Hp} : ∀ {kvs : List (Key × V)} {es : List (PyData × PyData)}, RpKvs K G kvs es → kvs.length = es.length
  | _, _, .nil => rfl
  | _, _, .cons _ t => congrArg (· + 1) (kvs_len t)
theorem lenV_of {G H : Hp} {v : V} {d : PyData} {n : PyData} {Q : VK} (sub : Same G H) (r : RpX c G v d) (h : gLen d = some n) (k : ∀ m : Nat, n = .int m → Q (.int m) H) :
    (∃ x m, [v] = [x] ∧ LenV c.K x H m ∧ Q (.int m) H) ∨ (∃ a kvs, [v] = [V.ref a] ∧ H a = some (.dK kvs) ∧ Q (.int kvs.length) H) := by
  unfold gLen at h
  split at h
  · split at h
    · cases h; cases rpStr r; exact .inl ⟨_, _, rfl, ⟨by rw [ln_eq]; assumption, rfl⟩, k _ rfl⟩
    · cases h
  · cases h
    obtain ⟨p, xs, rfl, hp, rp⟩ := rpLst r
    exact .inl ⟨_, _, rfl, .inl ⟨xs, SqL.of (sub _ _ hp), rp.length.symm⟩, k _ rfl⟩
  · cases h
    obtain ⟨p, xs, rfl, hp, rp⟩ := rpTup r
    exact .inl ⟨_, _, rfl, .inr ⟨xs, tup_mono sub hp, rp.length.symm⟩, k _ rfl⟩
  · split at h
    · rename_i es hok
      cases h
      cases r.rp (okD_nb hok) with
      | fn _ => simp [okD] at hok
      | @dct a kvs _ hg rk =>
        refine .inr ⟨a, kvs, rfl, sub _ _ hg, ?_⟩
        rw [kvs_len rk]
        exact k _ rfl
    · cases h
  · cases h
theorem eLen (hm : X.mg "len" = none) (ha : EE X bx e fa) (hg : Gl X "len" := by rfl) (h1 : starEach [e] X.env = (false, eval e X.env) :: starEach [] X.env := by rfl) (h2 : (backTo pos (starEach [] X.env)).any (·.1) = false := by rfl) :
    EE X bx (.Call (.Name "len" p) [e] [] pos) (f1 fa gLen) :=
  eB (CallR.or call_len call_lenD) (op1_of fun a d e G H x Q sub ra k => lenV_of sub ra e fun m z => by
    subst z
    exact k _ (.inl (.int _))) ha hm PySem.boot_len hg (by decide) (by decide) h1 h2
def boolsOf : List PyData → Option (List Bool)
  | [] => some []
  | .bool b :: r => (boolsOf r).map (b :: ·)
  | _ => none
theorem boolsOf_eq : ∀ {xs : List PyData} {ns : List Bool}, boolsOf xs = some ns → xs = ns.map PyData.bool
  | [], ns, h => by simp [boolsOf] at h; subst h; rfl
  | .bool i :: r, ns, h => by
    rw [boolsOf] at h
    cases e : boolsOf r with
    | none => rw [e] at h; cases h
    | some ms =>
      rw [e] at h
      cases h
      rw [List.map_cons, boolsOf_eq e]
  | .none :: _, _, h => by simp [boolsOf] at h
  | .int _ :: _, _, h => by simp [boolsOf] at h
  | .str _ :: _, _, h => by simp [boolsOf] at h
  | .list _ :: _, _, h => by simp [boolsOf] at h
  | .tuple _ :: _, _, h => by simp [boolsOf] at h
  | .dict _ :: _, _, h => by simp [boolsOf] at h
def gAll : PyData → Option PyData
  | .list xs => (boolsOf xs).map fun bs => .bool (bs.all id)
  | _ => none
def gAny : PyData → Option PyData
  | .list xs => (boolsOf xs).map fun bs => .bool (bs.any id)
  | _ => none
theorem eAll (hc : X.calm = true) (hm : X.mg "all" = none) (ha : EE X bx e fa) (hg : Gl X "all" := by rfl) (h1 : starEach [e] X.env = (false, eval e X.env) :: starEach [] X.env := by rfl) (h2 : (backTo pos (starEach [] X.env)).any (·.1) = false := by rfl) :
    EE X bx (.Call (.Name "all" p) [e] [] pos) (f1 fa gAll) :=
  eB (cr_all hc) (op1_of fun a d e G H x Q sub ra k => by
    unfold gAll at e
    split at e
    · rename_i ds
      cases eb : boolsOf ds with
      | none => rw [eb] at e; cases e
      | some bs =>
        rw [eb] at e
        cases e
        obtain ⟨p, xs, rfl, hp, rp⟩ := rpLst ra
        have := rp.bools bs (boolsOf_eq eb)
        subst this
        exact ⟨p, bs, rfl, SqL.of (sub _ _ hp), k _ (.inl (.bl _))⟩
    · cases e) ha hm (by decide +kernel) hg (by decide) (by decide) h1 h2
theorem eAny (hc : X.calm = true) (hm : X.mg "any" = none) (ha : EE X bx e fa) (hg : Gl X "any" := by rfl) (h1 : starEach [e] X.env = (false, eval e X.env) :: starEach [] X.env := by rfl) (h2 : (backTo pos (starEach [] X.env)).any (·.1) = false := by rfl) :
    EE X bx (.Call (.Name "any" p) [e] [] pos) (f1 fa gAny) :=
  eB (cr_any hc) (op1_of fun a d e G H x Q sub ra k => by
    unfold gAny at e
    split at e
    · rename_i ds
      cases eb : boolsOf ds with
      | none => rw [eb] at e; cases e
      | some bs =>
        rw [eb] at e
        cases e
        obtain ⟨p, xs, rfl, hp, rp⟩ := rpLst ra
        have := rp.bools bs (boolsOf_eq eb)
        subst this
        exact ⟨p, bs, rfl, SqL.of (sub _ _ hp), k _ (.inl (.bl _))⟩
    · cases e) ha hm (by decide +kernel) hg (by decide) (by decide) h1 h2
def gSum : PyData → Option PyData
  | .list xs => (gLt.intsOf xs).map fun ns => .int ns.sum
  | _ => none
theorem eSum (hc : X.calm = true) (hm : X.mg "sum" = none) (ha : EE X bx e fa) (hg : Gl X "sum" := by rfl) (h1 : starEach [e] X.env = (false, eval e X.env) :: starEach [] X.env := by rfl) (h2 : (backTo pos (starEach [] X.env)).any (·.1) = false := by rfl) :
    EE X bx (.Call (.Name "sum" p) [e] [] pos) (f1 fa gSum) :=
  eB (cr_sum hc) (op1_of fun a d e G H x Q sub ra k => by
    unfold gSum at e
    split at e
    · rename_i ds
      cases eb : gLt.intsOf ds with
      | none => rw [eb] at e; cases e
      | some bs =>
        rw [eb] at e
        cases e
        obtain ⟨p, xs, rfl, hp, rp⟩ := rpLst ra
        have := rp.ints bs (intsOf_eq eb)
        subst this
        exact ⟨p, bs, rfl, SqL.of (sub _ _ hp), k _ (.inl (.int _))⟩
    · cases e) ha hm (by decide +kernel) hg (by decide) (by decide) h1 h2
/-- tuple(x) -/
def gTupOf : PyData → Option PyData
  | .list xs => some (.tuple xs)
  | .tuple xs => some (.tuple xs)
  | _ => none
theorem eTupOf (hm : X.mg "tuple" = none) (ha : EE X bx e fa) (hg : Gl X "tuple" := by rfl) (h1 : starEach [e] X.env = (false, eval e X.env) :: starEach [] X.env := by rfl) (h2 : (backTo pos (starEach [] X.env)).any (·.1) = false := by rfl) :
    EE X bx (.Call (.Name "tuple" p) [e] [] pos) (f1 fa gTupOf) :=
  eBT call_tuple_of (fun a d e s G H x Q I ra k => by
    unfold gTupOf at e
    split at e
    · cases e
      obtain ⟨p, xs, rfl, hp, rp⟩ := rpLst ra
      refine ⟨p, xs, rfl, .inl ⟨SqL.of (I.sub _ _ hp), fun t ht => ?_⟩⟩
      obtain ⟨J, m⟩ := I.alloc ht (.tup xs)
      exact k _ _ _ J m (.inl (.tup (SqT.of upd_same) (rp.mono m.sub)))
    · cases e
      obtain ⟨p, xs, rfl, hp, rp⟩ := rpTup ra
      exact ⟨p, xs, rfl, .inr ⟨tup_mono I.sub hp, k _ G H I Mv.refl ra⟩⟩
    · cases e) ha hm (by decide +kernel) hg (by decide) (by decide) h1 h2
/-- list(x) -/
def gLstOf : PyData → Option (List PyData)
  | .list xs => some xs
  | .tuple xs => some xs
  | _ => none
theorem fLstOf (hm : X.mg "list" = none) (ha : EE X bx e fa) (hg : Gl X "list" := by rfl) (h1 : starEach [e] X.env = (false, eval e X.env) :: starEach [] X.env := by rfl) (h2 : (backTo pos (starEach [] X.env)).any (·.1) = false := by rfl) :
    EF X bx (.Call (.Name "list" p) [e] [] pos) (fFr fa gLstOf) :=
  eBTF call_list_of (fun a l e G H x Q sub ra k => by
    unfold gLstOf at e
    split at e
    · cases e
      obtain ⟨p, xs, rfl, hp, rp⟩ := rpLst ra
      exact ⟨p, xs, rfl, .inl (SqL.of (sub _ _ hp)), fun t ht => k xs t rp ht⟩
    · cases e
      obtain ⟨p, xs, rfl, hp, rp⟩ := rpTup ra
      exact ⟨p, xs, rfl, .inr (tup_mono sub hp), fun t ht => k xs t rp ht⟩
    · cases e) ha hm (by decide +kernel) hg (by decide) (by decide) h1 h2
end

/-! ### isinstance -/
def tyD : PyData → Option String
  | .none => some "NoneType"
  | .bool _ => some "bool"
  | .int _ => some "int"
  | .str _ => some "str"
  | .list _ => some "list"
  | .tuple _ => some "tuple"
  | .dict es => if okD es then some "dict" else none
def gIsi (T : String) (d : PyData) : Option PyData := (tyD d).bind fun t => (kitB t T).map PyData.bool
theorem tyX_of {c : Cf} {G H : Hp} {v : V} {d : PyData} {t : String} (sub : Same G H) (r : RpX c G v d) (h : tyD d = some t) : TyX c.K H v (.type t) := by
  rcases r with r | ⟨rfl, _⟩
  · cases r with
    | non => cases h; exact .base .non
    | bl b => cases h; exact .base (.bl b)
    | int b => cases h; exact .base (.int b)
    | str b => cases h; exact .base (.str b)
    | lst hg ra => cases h; exact .base (.lst (sub _ _ hg))
    | tup hg ra =>
      cases h
      rcases hg with (hg | ⟨o, hg⟩) | ⟨o, its, n, hl, hc, _⟩
      · exact .base (.tup (sub _ _ hg))
      · exact .fTuple (sub _ _ hg)
      · exact .kTuple hl hc
    | dct hg ra =>
      simp only [tyD] at h
      split at h
      · cases h; exact .base (.dK (sub _ _ hg))
      · cases h
    | fn _ => simp [tyD, okD] at h
  · simp [tyD, boxD, okD] at h
section
variable {X : Cx} {bx : Option (Addr × Addr)} {pos p q : Pos} {e : Expr} {fa : M PyData}
theorem eIsi {T : Str} {TN : String} (hm : X.mg "isinstance" = none) (hT : X.mg T = none) (hv : bootBuiltins T = some (.type TN)) (ha : EE X bx e fa) (hg : Gl X "isinstance" := by rfl) (hgT : Gl X T := by rfl)
    (hs1 : starEach [e, .Name T q] X.env = (false, eval e X.env) :: starEach [.Name T q] X.env := by rfl) (hs2 : starEach [.Name T q] X.env = (false, eval (.Name T q) X.env) :: starEach [] X.env := by rfl) (h2 : (backTo pos (starEach [.Name T q] X.env)).any (·.1) = false := by rfl)
    (hn : T ≠ "__name__" := by decide) (hd : (T == ("__debug__" : Str)) = false := by decide) :
    EE X bx (.Call (.Name "isinstance" p) [e, .Name T q] [] pos) (f1 fa (gIsi TN)) := by
  refine peI (pe_callB call_isi hg hm (by decide +kernel) (pa_cons ha (pa_cons (pe_bltn (v := .ty TN) hgT hT hv rfl hn hd) pa_nil hs2) hs1) (by decide) (by decide) hs1 h2) fun σ H Q h => ?_
  refine (rd.bind (R := RpX ⟨X.K, bx⟩) h).mono fun x H1 ⟨a, G1, ra, h1⟩ => ?_
  obtain ⟨d, e, sub, k⟩ := h1.here
  unfold gIsi at e
  cases et : tyD a with
  | none => rw [et] at e; cases e
  | some t =>
    rw [et] at e
    cases ek : kitB t TN with
    | none => simp [ek] at e
    | some b =>
      simp only [ek, Option.bind_some, Option.map_some, Option.some.injEq] at e
      subst e
      exact ⟨x, .ty TN, .type t, .type TN, b, rfl, .ty TN, tyX_of sub ra et, kit_ty ek, k _ (.inl (.bl _))⟩
end

/-! ### own defs -/
/-- the promise of a def that computes f of its arguments -/
def spOf (K : PySem.W.Frag) (f : List PyData → Bx → Option (PyData × Bx)) : Sp := fun vs H Q _ => ∃ (bx : Option (Addr × Addr)) (G : Hp) (s : Bx) (ds : List PyData) (d : PyData) (s' : Bx), INV0 ⟨K, bx⟩ s G H ∧ RpXs ⟨K, bx⟩ G vs ds ∧ f ds s = some (d, s') ∧
  ∀ v G' H', INV0 ⟨K, bx⟩ s' G' H' → Mv0 ⟨K, bx⟩ G H G' H' → RpX ⟨K, bx⟩ G' v d → Q v H'
def fCall (f : List PyData → Bx → Option (PyData × Bx)) (fs : M (List PyData)) : M PyData := bnd fs fun ds env s => match f ds s with
  | some (d, s') => some (d, env, s')
  | none => none
section
variable {X : Cx} {bx : Option (Addr × Addr)} {pos p : Pos} {e : Expr} {es : List Expr} {fs : M (List PyData)} {f : List PyData → Bx → Option (PyData × Bx)} {x : Str} {k j : Nat}
theorem call_run {σ : St} {H : Hp} {Q : VK} {K : PySem.W.Frag} {E : XK} (h : rdE ⟨K, bx⟩ (fCall f fs) σ H Q) : tCall (spOf K f) [] E (rdA ⟨K, bx⟩ fs) σ H Q := by
  refine (rd.bind (R := RpXs ⟨K, bx⟩) h).mono fun xs H1 ⟨ds, G1, rs, h1⟩ => ?_
  obtain ⟨env, s, d, env', s', I, e, k⟩ := h1
  cases ef : f ds s with
  | none => simp [ef] at e
  | some q =>
    obtain ⟨d1, s1⟩ := q
    simp only [ef, Option.some.injEq, Prod.mk.injEq] at e
    obtain ⟨rfl, rfl, rfl⟩ := e
    rw [List.append_nil]
    exact ⟨bx, G1, s, ds, d1, s1, I.base, rs, ef, fun v G' H' J m r => k v G' H' (I.lift J m) m.lift r⟩
/-- a def of the module that computes f, by its name -/
structure Cal (P : Program) (w : World) (K : PySem.W.Frag) (mg : Str → Option Value) (base : Heap) (k : Nat) (x : Str) (f : List PyData → Bx → Option (PyData × Bx)) : Prop where
  ex : ∃ (fa : Addr) (fd : FuncData) (ps : List Str), FnOk P w K mg base CX0 k fa fd ps (spOf K f) ∧ mg x = some (.ref fa) ∧ PySem.W.keepIn K (.ref fa) = true ∧ Binds K fd ps []
theorem eCall (c : Cal X.prog X.w X.K X.mg X.base k x f) (hr : Room j X.A) (hk : k ≤ j) (ha : EA X bx (e :: es) fs) (hg : Gl X x := by rfl) (hdb : (x == ("__debug__" : Str)) = false := by decide)
    (he : starEach (e :: es) X.env = (false, eval e X.env) :: starEach es X.env := by rfl) (hpl : (backTo pos (starEach es X.env)).any (·.1) = false := by rfl) : EE X bx (.Call (.Name x p) (e :: es) [] pos) (fCall f fs) := by
  obtain ⟨fa, fd, ps, F, hm, kp, b⟩ := c.ex
  exact peI (pe_call F (hr.mono hk) hg hm kp b .nil pass0 ha hdb he hpl) fun _ _ _ h => call_run h
theorem eCall0 (c : Cal X.prog X.w X.K X.mg X.base k x f) (hr : Room j X.A) (hk : k ≤ j) (hg : Gl X x := by rfl) (hdb : (x == ("__debug__" : Str)) = false := by decide) : EE X bx (.Call (.Name x p) [] [] pos) (fCall f aNil) := by
  obtain ⟨fa, fd, ps, F, hm, kp, b⟩ := c.ex
  refine peI (pe_call0 F (hr.mono hk) hg hm kp b .nil pass0 hdb) fun σ H Q h => ?_
  obtain ⟨G, q⟩ := call_run (E := E0) (fs := aNil) h
  obtain ⟨s, I, k⟩ := q.pure
  exact k _ _ _ I Mv.refl .nil
end
end Ev
end
section
set_option Elab.async false
set_option linter.all false
set_option maxRecDepth 100000
/-! Ev6: statements. -/
namespace Ev
open PySem PySem.Spec L2
set_option autoImplicit false

inductive Out where
  | nx
  | bk
  | ct
  | rt (d : PyData)
abbrev SM := En → Bx → Option (Out × En × Bx)
def Out.ends (c : Cf) (D : Ends) (G : Hp) (σ : St) (H : Hp) : Out → Prop
  | .nx => D.nx σ H
  | .bk => D.bk σ H
  | .ct => D.ct σ H
  | .rt d => ∀ v, RpX c G v d → D.rt v H
def rdSG (c : Cf) (f : SM) (G : Hp) : TS := fun D σ H => ∃ (env : En) (s : Bx) (o : Out) (env' : En) (s' : Bx), INV c σ env s G H ∧ f env s = some (o, env', s') ∧
  ∀ (σ' : St) (G' H' : Hp), INV c σ' env' s' G' H' → Mv c σ env G H σ' env' G' H' → o.ends c D G' σ' H'
def rdS (c : Cf) (f : SM) : TS := fun D σ H => ∃ G, rdSG c f G D σ H
abbrev ES (X : Cx) (bx : Option (Addr × Addr)) (st : Stmt) (f : SM) : Prop := PS X st (rdS ⟨X.K, bx⟩ f)
abbrev EB (X : Cx) (bx : Option (Addr × Addr)) (st : List Stmt) (f : SM) : Prop := PSs X st (rdS ⟨X.K, bx⟩ f)
def sOut (o : Out) : SM := fun env s => some (o, env, s)
def sNext : SM := sOut .nx
def sSeq (f g : SM) : SM := fun env s => match f env s with
  | some (.nx, e1, s1) => g e1 s1
  | r => r
def sNone : SM := fun _ _ => none
def sDrop (f : M PyData) : SM := fun env s => match f env s with
  | some (_, e1, s1) => some (.nx, e1, s1)
  | none => none
def sRet (f : M PyData) : SM := fun env s => match f env s with
  | some (d, e1, s1) => some (.rt d, e1, s1)
  | none => none
def sIf (t : M Bool) (f g : SM) : SM := fun env s => match t env s with
  | some (true, e1, s1) => f e1 s1
  | some (false, e1, s1) => g e1 s1
  | none => none
section
variable {X : Cx} {bx : Option (Addr × Addr)} {c : Cf} {pos : Pos} {st : Stmt} {rest xs ys : List Stmt} {f g : SM} {e : Expr} {fa : M PyData} {ft : M Bool}
theorem psI {t t' : TS} (h : PS X st t) (i : ∀ D σ H, t' D σ H → t D σ H) : PS X st t' := ⟨fun pins s σ H D I q => h.run pins s σ H D I (i D σ H q)⟩
theorem pssI {t t' : TS} (h : PSs X rest t) (i : ∀ D σ H, t' D σ H → t D σ H) : PSs X rest t' := ⟨fun pins s σ H D I q => h.run pins s σ H D I (i D σ H q)⟩
theorem seq_run {D : Ends} {σ : St} {H : Hp} (h : rdS c (sSeq f g) D σ H) : tSeq (rdS c f) (rdS c g) D σ H := by
  obtain ⟨G, env, s, o, env', s', I, e, k⟩ := h
  cases ef : f env s with
  | none => simp [sSeq, ef] at e
  | some q =>
    obtain ⟨o1, e1, s1⟩ := q
    refine ⟨G, env, s, o1, e1, s1, I, ef, fun σ1 G1 H1 J m => ?_⟩
    cases o1 with
    | nx =>
      simp only [sSeq, ef] at e
      exact ⟨G1, e1, s1, o, env', s', J, e, fun σ' G' H' J' m' => k σ' G' H' J' (m.trans m')⟩
    | bk => simp only [sSeq, ef, Option.some.injEq, Prod.mk.injEq] at e; obtain ⟨rfl, rfl, rfl⟩ := e; exact k σ1 G1 H1 J m
    | ct => simp only [sSeq, ef, Option.some.injEq, Prod.mk.injEq] at e; obtain ⟨rfl, rfl, rfl⟩ := e; exact k σ1 G1 H1 J m
    | rt d => simp only [sSeq, ef, Option.some.injEq, Prod.mk.injEq] at e; obtain ⟨rfl, rfl, rfl⟩ := e; exact k σ1 G1 H1 J m
theorem bCons (h1 : ES X bx st f) (h2 : EB X bx rest g) : EB X bx (st :: rest) (sSeq f g) := pssI (pss_cons h1 h2) fun _ _ _ h => seq_run h
theorem bOne (h1 : ES X bx st f) : EB X bx [st] f := pss_one h1
theorem next_run {D : Ends} {σ : St} {H : Hp} {o : Out} (h : rdS c (sOut o) D σ H) : ∃ G s env, INV c σ env s G H ∧ o.ends c D G σ H := by
  obtain ⟨G, env, s, o1, env', s', I, e, k⟩ := h
  simp only [sOut, Option.some.injEq, Prod.mk.injEq] at e
  obtain ⟨rfl, rfl, rfl⟩ := e
  exact ⟨G, s, env, I, k σ G H I Mv.refl⟩
theorem bNil : EB X bx [] sNext := pssI pss_nil fun _ _ _ h => let ⟨_, _, _, _, k⟩ := next_run h; k
theorem sPass : ES X bx (.Pass pos) sNext := psI ps_pass fun _ _ _ h => let ⟨_, _, _, _, k⟩ := next_run h; k
theorem sBrk : ES X bx (.Break pos) (sOut .bk) := psI ps_break fun _ _ _ h => let ⟨_, _, _, _, k⟩ := next_run h; k
theorem sCnt : ES X bx (.Continue pos) (sOut .ct) := psI ps_continue fun _ _ _ h => let ⟨_, _, _, _, k⟩ := next_run h; k
theorem sNo : ES X bx st sNone := ⟨fun _ _ _ _ _ _ ⟨_, _, _, _, _, _, _, h, _⟩ => by simp [sNone] at h⟩
theorem bNo : EB X bx rest sNone := ⟨fun _ _ _ _ _ _ ⟨_, _, _, _, _, _, _, h, _⟩ => by simp [sNone] at h⟩
theorem sEx (he : EE X bx e fa) (hs : swapsWith e none pos.line X.env = pure false := by rfl) : ES X bx (.Expr e pos) (sDrop fa) := psI (ps_expr he hs) fun D σ H h => by
  obtain ⟨G, env, s, o, env', s', I, e, k⟩ := h
  cases ef : fa env s with
  | none => simp [sDrop, ef] at e
  | some q =>
    obtain ⟨d, e1, s1⟩ := q
    simp only [sDrop, ef, Option.some.injEq, Prod.mk.injEq] at e
    obtain ⟨rfl, rfl, rfl⟩ := e
    exact ⟨G, env, s, d, e1, s1, I, ef, fun v G' H' J m _ => k σ G' H' J m⟩
theorem sRt (he : EE X bx e fa) : ES X bx (.Return (some e) pos) (sRet fa) := psI (ps_ret he) fun D σ H h => by
  obtain ⟨G, env, s, o, env', s', I, e, k⟩ := h
  cases ef : fa env s with
  | none => simp [sRet, ef] at e
  | some q =>
    obtain ⟨d, e1, s1⟩ := q
    simp only [sRet, ef, Option.some.injEq, Prod.mk.injEq] at e
    obtain ⟨rfl, rfl, rfl⟩ := e
    exact ⟨G, env, s, d, e1, s1, I, ef, fun v G' H' J m r => k σ G' H' J m v r⟩
theorem sIff (ht : ET X bx e ft) (ha : EB X bx xs f) (hb : EB X bx ys g) : ES X bx (.If e xs ys pos) (sIf ft f g) := psI (ps_if ht ha hb) fun D σ H h => by
  obtain ⟨G, env, s, o, env', s', I, e, k⟩ := h
  cases ef : ft env s with
  | none => simp [sIf, ef] at e
  | some q =>
    obtain ⟨d, e1, s1⟩ := q
    refine ⟨G, env, s, d, e1, s1, I, ef, fun v G' H' J m r => ?_⟩
    cases r
    cases d with
    | true =>
      simp only [sIf, ef] at e
      rw [if_pos rfl]
      exact ⟨G', e1, s1, o, env', s', J, e, fun σ2 G2 H2 J2 m2 => k σ2 G2 H2 J2 (m.trans m2)⟩
    | false =>
      simp only [sIf, ef] at e
      rw [if_neg (by decide)]
      exact ⟨G', e1, s1, o, env', s', J, e, fun σ2 G2 H2 J2 m2 => k σ2 G2 H2 J2 (m.trans m2)⟩
end

/-! ### values to be stored -/
def RpV (c : Cf) (σ : St) (env : En) (G H0 H : Hp) (v : V) : EV → Prop
  | .imm d => RpX c G v d
  | .mut l => ∃ p xs, v = .ref p ∧ H0 p = none ∧ H p = some (.lst xs) ∧ G p = none ∧ RpAll c.K G xs l ∧ ¬ Tch c env σ p
  | .dmut es => ∃ p kvs, v = .ref p ∧ H0 p = none ∧ H p = some (.dK kvs) ∧ G p = none ∧ RpKvs c.K G kvs es ∧ ¬ Tch c env σ p
/-- the object that v is alone at -/
def own1 : V → EV → Option Addr
  | _, .imm _ => none
  | .ref p, _ => some p
  | _, _ => none
inductive RpVs (c : Cf) (σ : St) (env : En) (G H0 H : Hp) : List V → List EV → List Addr → Prop
  | nil : RpVs c σ env G H0 H [] [] []
  | cons {v : V} {a : EV} {vs : List V} {as : List EV} {ps : List Addr} : RpV c σ env G H0 H v a → RpVs c σ env G H0 H vs as ps → (∀ p, own1 v a = some p → p ∉ ps) → RpVs c σ env G H0 H (v :: vs) (a :: as) ((own1 v a).toList ++ ps)
def rdH {α γ : Type} (c : Cf) (R : St → En → Hp → Hp → Hp → γ → α → Prop) (f : M α) (σ : St) (H : Hp) (Q : γ → Hp → Prop) : Prop :=
  ∃ (G : Hp) (env : En) (s : Bx) (a : α) (env' : En) (s' : Bx), INV c σ env s G H ∧ f env s = some (a, env', s') ∧
    ∀ (v : γ) (G' H' : Hp), INV c σ env' s' G' H' → Mv c σ env G H σ env' G' H' → R σ env' G' H H' v a → Q v H'
def RVs (c : Cf) : St → En → Hp → Hp → Hp → List V → List EV → Prop := fun σ env G H0 H vs as => ∃ ps, RpVs c σ env G H0 H vs as ps
abbrev EX (X : Cx) (bx : Option (Addr × Addr)) (e : Expr) (f : M EV) : Prop := PE X e (rdH ⟨X.K, bx⟩ (RpV ⟨X.K, bx⟩) f)
abbrev EXs (X : Cx) (bx : Option (Addr × Addr)) (es : List Expr) (f : M (List EV)) : Prop := PA X es (rdH ⟨X.K, bx⟩ (RVs ⟨X.K, bx⟩) f)
def vImm (f : M PyData) : M EV := bnd f fun d => pur (.imm d)
def vMut (f : M (List PyData)) : M EV := bnd f fun l => pur (.mut l)
def vDct : M EV := pur (.dmut [])
def vNil : M (List EV) := pur []
def vCons (f : M EV) (fs : M (List EV)) : M (List EV) := bnd f fun a => bnd fs fun r => pur (a :: r)

section
variable {c : Cf} {σ σ0 : St} {env env0 env2 : En} {s s2 : Bx} {G G0 G2 H0 H H2 : Hp} {v w : V} {a b : EV} {i : Nat} {vs : List V} {as : List EV} {ps : List Addr}
theorem RpV.move (r : RpV c σ env G H0 H v a) (m : Mv c σ env G H σ env2 G2 H2) : RpV c σ env2 G2 H0 H2 v a := by
  cases a with
  | imm d => exact RpX.mono m.sub r
  | «mut» l =>
    obtain ⟨p, xs, h1, h2, h3, h4, h5, h6⟩ := r
    obtain ⟨k1, k2, k3⟩ := m.keep p _ h3 h6
    exact ⟨p, xs, h1, h2, k1, k2 h4, h5.mono m.sub, k3⟩
  | dmut l =>
    obtain ⟨p, xs, h1, h2, h3, h4, h5, h6⟩ := r
    obtain ⟨k1, k2, k3⟩ := m.keep p _ h3 h6
    exact ⟨p, xs, h1, h2, k1, k2 h4, h5.mono m.sub, k3⟩
theorem RpV.past (r : RpV c σ env G H H2 v a) (h : ∀ p, H p = none → H0 p = none) : RpV c σ env G H0 H2 v a := by
  cases a with
  | imm d => exact r
  | «mut» l => obtain ⟨p, xs, h1, h2, h3⟩ := r; exact ⟨p, xs, h1, h p h2, h3⟩
  | dmut l => obtain ⟨p, xs, h1, h2, h3⟩ := r; exact ⟨p, xs, h1, h p h2, h3⟩
theorem RpV.own (r : RpV c σ env G H0 H v a) {p : Addr} (e : own1 v a = some p) : H0 p = none ∧ ∃ o, H p = some o := by
  cases a with
  | imm d => simp [own1] at e
  | «mut» l => obtain ⟨q, xs, rfl, h2, h3, _⟩ := r; simp only [own1, Option.some.injEq] at e; subst e; exact ⟨h2, _, h3⟩
  | dmut l => obtain ⟨q, xs, rfl, h2, h3, _⟩ := r; simp only [own1, Option.some.injEq] at e; subst e; exact ⟨h2, _, h3⟩
theorem RpVs.past (r : RpVs c σ env G H H2 vs as ps) (h : ∀ p, H p = none → H0 p = none) : RpVs c σ env G H0 H2 vs as ps := by
  induction r with
  | nil => exact .nil
  | cons r1 r2 n ih => exact .cons (r1.past h) ih n
theorem RpVs.new (r : RpVs c σ env G H0 H vs as ps) {p : Addr} (hp : p ∈ ps) : H0 p = none := by
  induction r with
  | nil => simp at hp
  | cons r1 r2 n ih =>
    rcases List.mem_append.mp hp with h | h
    · exact (r1.own (by simpa using h)).1
    · exact ih h
theorem isMut_put {j : Nat} {q : Addr} (h : IsMut (env.set i (some a)) (σ.set i (some v)) j q) : (j ≠ i ∧ IsMut env σ j q) ∨ (j = i ∧ own1 v a = some q) := by
  obtain ⟨h1, h2⟩ := h
  have one : ∀ {x : EV}, (env.set i (some a))[j]? = some (some x) → (∀ d, x ≠ .imm d) → (j ≠ i ∧ env[j]? = some (some x)) ∨ (j = i ∧ own1 v a = some q) := fun {x} e nx => by
    rcases set_get e with ⟨e1, e2⟩ | ⟨e1, e2⟩
    · injection e2 with e2
      subst e2 e1
      refine .inr ⟨rfl, ?_⟩
      by_cases hl : j < σ.length
      · rw [List.getElem?_set_self hl] at h2
        cases h2
        cases x with
        | imm d => exact absurd rfl (nx d)
        | «mut» l => rfl
        | dmut l => rfl
      · rw [List.getElem?_eq_none (by simpa using hl)] at h2; cases h2
    · exact .inl ⟨e1, e2⟩
  have h2' : j ≠ i → σ[j]? = some (some (V.ref q)) := fun n => by rw [List.getElem?_set_ne (Ne.symm n)] at h2; exact h2
  rcases h1 with ⟨l, e⟩ | ⟨l, e⟩
  · rcases one e (fun d z => by cases z) with ⟨n, e2⟩ | z
    · exact .inl ⟨n, .inl ⟨l, e2⟩, h2' n⟩
    · exact .inr z
  · rcases one e (fun d z => by cases z) with ⟨n, e2⟩ | z
    · exact .inl ⟨n, .inr ⟨l, e2⟩, h2' n⟩
    · exact .inr z
theorem tch_put {q : Addr} (h : Tch c (env.set i (some a)) (σ.set i (some v)) q) : Tch c env σ q ∨ own1 v a = some q := by
  rcases h with h | ⟨j, h⟩
  · exact .inl (.inl h)
  · rcases isMut_put h with ⟨_, h⟩ | ⟨_, h⟩
    · exact .inl (.inr ⟨j, h⟩)
    · exact .inr h
/-- slot i gets v -/
theorem INV.put (I : INV c σ env s G H) (r : RpV c σ env G H0 H v a) (i : Nat) : INV c (σ.set i (some v)) (env.set i (some a)) s G H := by
  have slot : ∀ {j : Nat} {x : EV}, (env.set i (some a))[j]? = some (some x) → (j = i ∧ x = a ∧ (σ.set i (some v))[j]? = some (some v)) ∨ (j ≠ i ∧ env[j]? = some (some x) ∧ (σ.set i (some v))[j]? = σ[j]?) := fun {j x} e => by
    have hl : j < (env.set i (some a)).length := by
      by_cases z : j < (env.set i (some a)).length
      · exact z
      · rw [List.getElem?_eq_none (by omega)] at e; cases e
    rw [List.length_set, I.len] at hl
    rcases set_get e with ⟨e1, e2⟩ | ⟨e1, e2⟩
    · injection e2 with e2
      exact .inl ⟨e1, e2, by subst e1; rw [List.getElem?_set_self hl]⟩
    · exact .inr ⟨e1, e2, List.getElem?_set_ne (Ne.symm e1)⟩
  have new : ∀ {p : Addr}, own1 v a = some p → ¬ Tch c env σ p := fun {p} e => by
    cases a with
    | imm d => simp [own1] at e
    | «mut» l => obtain ⟨q, xs, rfl, _, _, _, _, h⟩ := r; simp only [own1, Option.some.injEq] at e; subst e; exact h
    | dmut l => obtain ⟨q, xs, rfl, _, _, _, _, h⟩ := r; simp only [own1, Option.some.injEq] at e; subst e; exact h
  refine ⟨I.sub, I.box, I.bfree, by rw [List.length_set, List.length_set]; exact I.len, fun j d e => ?_, fun j l e => ?_, fun j l e => ?_, fun j k q h1 h2 => ?_⟩
  · rcases slot e with ⟨e1, e2, e3⟩ | ⟨e1, e2, e3⟩
    · subst e2; exact ⟨v, e3, r⟩
    · rw [e3]; exact I.val j d e2
  · rcases slot e with ⟨e1, e2, e3⟩ | ⟨e1, e2, e3⟩
    · subst e2
      obtain ⟨p, xs, rfl, _, h3, h4, h5, h6⟩ := r
      exact ⟨p, xs, e3, h3, h4, h5, fun z => h6 (.inl z)⟩
    · rw [e3]; exact I.mt j l e2
  · rcases slot e with ⟨e1, e2, e3⟩ | ⟨e1, e2, e3⟩
    · subst e2
      obtain ⟨p, xs, rfl, _, h3, h4, h5, h6⟩ := r
      exact ⟨p, xs, e3, h3, h4, h5, fun z => h6 (.inl z)⟩
    · rw [e3]; exact I.dm j l e2
  · rcases isMut_put h1 with ⟨n1, k1⟩ | ⟨n1, k1⟩ <;> rcases isMut_put h2 with ⟨n2, k2⟩ | ⟨n2, k2⟩
    · exact I.sep j k q k1 k2
    · exact absurd (.inr ⟨j, k1⟩) (new k2)
    · exact absurd (.inr ⟨k, k2⟩) (new k1)
    · rw [n1, n2]
theorem Mv.put (m : Mv c σ0 env0 G0 H0 σ env G H) (r : RpV c σ env G H0 H v a) (i : Nat) : Mv c σ0 env0 G0 H0 (σ.set i (some v)) (env.set i (some a)) G H :=
  ⟨m.sub, fun b o hb n => by
    obtain ⟨k1, k2, k3⟩ := m.keep b o hb n
    refine ⟨k1, k2, fun t => ?_⟩
    rcases tch_put t with t | t
    · exact k3 t
    · have z := (r.own t).1
      rw [hb] at z
      exact absurd z (by simp), m.stay⟩
theorem RpV.put (r : RpV c σ env G H0 H w b) (n : ∀ p, own1 v a = some p → own1 w b ≠ some p) (i : Nat) : RpV c (σ.set i (some v)) (env.set i (some a)) G H0 H w b := by
  cases b with
  | imm d => exact r
  | «mut» l =>
    obtain ⟨p, xs, rfl, h2, h3, h4, h5, h6⟩ := r
    exact ⟨p, xs, rfl, h2, h3, h4, h5, fun t => (tch_put t).elim h6 fun z => n p z rfl⟩
  | dmut l =>
    obtain ⟨p, xs, rfl, h2, h3, h4, h5, h6⟩ := r
    exact ⟨p, xs, rfl, h2, h3, h4, h5, fun t => (tch_put t).elim h6 fun z => n p z rfl⟩
theorem RpVs.put (r : RpVs c σ env G H0 H vs as ps) (n : ∀ p, own1 v a = some p → p ∉ ps) (i : Nat) : RpVs c (σ.set i (some v)) (env.set i (some a)) G H0 H vs as ps := by
  induction r with
  | nil => exact .nil
  | cons r1 r2 n2 ih =>
    refine .cons (r1.put (fun p e z => n p e ?_) i) (ih fun p e z => n p e (List.mem_append_right _ z)) n2
    rw [z]; simp
end
section
variable {X : Cx} {bx : Option (Addr × Addr)} {pos pos' : Pos} {st : Stmt} {e : Expr} {es : List Expr} {fa : M PyData} {fl : M (List PyData)} {fx : M EV} {fxs : M (List EV)}
theorem xImm (h : EE X bx e fa) : EX X bx e (vImm fa) := peI h fun σ H Q h => by
  obtain ⟨G, env, s, d, env', s', I, ee, k⟩ := h
  cases ef : fa env s with
  | none => simp [vImm, bnd, ef] at ee
  | some q =>
    obtain ⟨l, e1, s1⟩ := q
    simp only [vImm, bnd, ef, pur, Option.some.injEq, Prod.mk.injEq] at ee
    obtain ⟨rfl, rfl, rfl⟩ := ee
    exact ⟨G, env, s, l, e1, s1, I, ef, fun v G' H' J m r => k v G' H' J m r⟩
theorem xMut (h : EF X bx e fl) : EX X bx e (vMut fl) := peI h fun σ H Q h => by
  obtain ⟨G, env, s, d, env', s', I, ee, k⟩ := h
  cases ef : fl env s with
  | none => simp [vMut, bnd, ef] at ee
  | some q =>
    obtain ⟨l, e1, s1⟩ := q
    simp only [vMut, bnd, ef, pur, Option.some.injEq, Prod.mk.injEq] at ee
    obtain ⟨rfl, rfl, rfl⟩ := ee
    exact ⟨G, env, s, l, e1, s1, I, ef, fun p xs G' H' J m h0 h1 h2 h3 h4 => k _ G' H' J m ⟨p, xs, rfl, h0, h1, h2, h3, h4⟩⟩
theorem xDct : EX X bx (.Dict [] [] pos) vDct := peI pe_dnewK fun σ H Q h => by
  obtain ⟨G, env, s, d, env', s', I, ee, k⟩ := h
  simp only [vDct, pur, Option.some.injEq, Prod.mk.injEq] at ee
  obtain ⟨rfl, rfl, rfl⟩ := ee
  refine fun p hp => ?_
  obtain ⟨J, m⟩ := I.base.allocM hp (.dK [])
  exact k _ G _ (I.lift J m) m.lift ⟨p, [], rfl, hp, upd_same, I.free hp, .nil, tch_not I hp⟩
theorem xsNil : EXs X bx [] vNil := paI pa_nil fun σ H Q h => by
  obtain ⟨G, env, s, d, env', s', I, ee, k⟩ := h
  simp only [vNil, pur, Option.some.injEq, Prod.mk.injEq] at ee
  obtain ⟨rfl, rfl, rfl⟩ := ee
  exact k _ _ _ I Mv.refl ⟨_, .nil⟩
theorem xsCons (ha : EX X bx e fx) (hr : EXs X bx es fxs) (hs : starEach (e :: es) X.env = (false, eval e X.env) :: starEach es X.env := by rfl) : EXs X bx (e :: es) (vCons fx fxs) := paI (pa_cons ha hr hs) fun σ H Q h => by
  obtain ⟨G, env, s, d, env', s', I, ee, k⟩ := h
  cases ef : fx env s with
  | none => simp [vCons, bnd, ef] at ee
  | some q =>
    obtain ⟨a, e1, s1⟩ := q
    simp only [vCons, bnd, ef] at ee
    refine ⟨G, env, s, a, e1, s1, I, ef, fun v G1 H1 J m r => ?_⟩
    cases ef2 : fxs e1 s1 with
    | none => simp [ef2] at ee
    | some q =>
      obtain ⟨as, e2, s2⟩ := q
      simp only [ef2, pur, Option.some.injEq, Prod.mk.injEq] at ee
      obtain ⟨rfl, rfl, rfl⟩ := ee
      refine ⟨G1, e1, s1, as, e2, s2, J, ef2, fun vs G2 H2 J2 m2 r2 => ?_⟩
      obtain ⟨ps, r2⟩ := r2
      refine k (v :: vs) G2 H2 J2 (m.trans m2) ⟨_, .cons (r.move m2) (r2.past fun p hp => m.fresh hp) fun p e hp => ?_⟩
      obtain ⟨_, o, ho⟩ := r.own e
      have := r2.new hp
      rw [ho] at this; cases this
end

/-! ### name = value -/
def sSet (i : Nat) (f : M EV) : SM := fun env s => match f env s with
  | some (a, e1, s1) => some (.nx, e1.set i (some a), s1)
  | none => none
def sPar (is : List Nat) (f : M (List EV)) : SM := fun env s => match f env s with
  | some (as, e1, s1) => if as.length = is.length then some (.nx, (is.zip as).foldl (fun e p => e.set p.1 (some p.2)) e1, s1) else none
  | none => none
section
variable {X : Cx} {bx : Option (Addr × Addr)} {pos pos' : Pos} {e a b d : Expr} {fx : M EV} {fxs : M (List EV)} {x y z : Str} {i j l : Nat}
theorem sAsg (hN : X.N.Nodup) (he : EX X bx e fx) (hi : X.N[i]? = some x := by rfl) (hx : Loc X.env.scope x := by first | exact Or.inl rfl | exact Or.inr rfl) (hs : swapsWith e (some (.Name x pos')) pos.line X.env = pure false := by rfl) (hf : X.fn x = true ∨ X.env.scope.names.lookup x = some .local := by first | exact .inl rfl | exact .inr rfl) :
    ES X bx (.Assign [.Name x pos'] e pos) (sSet i fx) := psI (ps_set hN hi hx he hs hf) fun D σ H h => by
  obtain ⟨G, env, s, o, env', s', I, e, k⟩ := h
  cases ef : fx env s with
  | none => simp [sSet, ef] at e
  | some q =>
    obtain ⟨a, e1, s1⟩ := q
    simp only [sSet, ef, Option.some.injEq, Prod.mk.injEq] at e
    obtain ⟨rfl, rfl, rfl⟩ := e
    exact ⟨G, env, s, a, e1, s1, I, ef, fun v G' H' J m r => k _ G' H' (J.put r i) (m.put r i)⟩
theorem sAsg2 {px py pt : Pos} {kt k2 pt2} (hc : X.calm = true) (hN : X.N.Nodup) (ha : EXs X bx [a, b] fxs) (hi : X.N[i]? = some x := by rfl) (hj : X.N[j]? = some y := by rfl) (hij : i ≠ j := by decide) (hx : X.env.scope.names.lookup x = some .local := by rfl) (hy : X.env.scope.names.lookup y = some .local := by rfl)
    (hw : swappedStores [.Tuple [.Name x px, .Name y py] kt pt] (.Tuple [a, b] k2 pt2) X.env = pure (some [x, y]) := by rfl) (hs : swapsWithSole [.Tuple [.Name x px, .Name y py] kt pt] (.Tuple [a, b] k2 pt2) pos.line X.env = pure false := by rfl) :
    ES X bx (.Assign [.Tuple [.Name x px, .Name y py] kt pt] (.Tuple [a, b] k2 pt2) pos) (sPar [i, j] fxs) := psI (ps_par hc hN hi hj hij hx hy ha hw hs) fun D σ H h => by
  obtain ⟨G, env, s, o, env', s', I, e, k⟩ := h
  cases ef : fxs env s with
  | none => simp [sPar, ef] at e
  | some q =>
    obtain ⟨as, e1, s1⟩ := q
    simp only [sPar, ef] at e
    split at e
    · rename_i hl
      simp only [Option.some.injEq, Prod.mk.injEq] at e
      obtain ⟨rfl, rfl, rfl⟩ := e
      refine ⟨G, env, s, as, e1, s1, I, ef, fun vs G' H' J m r => ?_⟩
      obtain ⟨ps, r⟩ := r
      cases r with
      | nil => simp at hl
      | cons r1 t1 n1 =>
        cases t1 with
        | nil => simp at hl
        | cons r2 t2 n2 =>
          cases t2 with
          | cons _ _ _ => simp at hl
          | nil =>
            have r2' := r2.put (v := _) (a := _) (i := i) (n := fun p e z => n1 p e (by rw [z]; simp))
            exact ⟨_, _, rfl, k _ G' H' ((J.put r1 i).put r2' j) ((m.put r1 i).put r2' j)⟩
    · cases e
theorem sAsg3 {px py pz pt : Pos} {kt k2 pt2} (hc : X.calm = true) (hN : X.N.Nodup) (ha : EXs X bx [a, b, d] fxs) (hi : X.N[i]? = some x := by rfl) (hj : X.N[j]? = some y := by rfl) (hl : X.N[l]? = some z := by rfl) (hij : i ≠ j := by decide) (hil : i ≠ l := by decide) (hjl : j ≠ l := by decide)
    (hx : X.env.scope.names.lookup x = some .local := by rfl) (hy : X.env.scope.names.lookup y = some .local := by rfl) (hz : X.env.scope.names.lookup z = some .local := by rfl)
    (hw : swappedStores [.Tuple [.Name x px, .Name y py, .Name z pz] kt pt] (.Tuple [a, b, d] k2 pt2) X.env = pure (some [x, y, z]) := by rfl) (hs : swapsWithSole [.Tuple [.Name x px, .Name y py, .Name z pz] kt pt] (.Tuple [a, b, d] k2 pt2) pos.line X.env = pure false := by rfl) :
    ES X bx (.Assign [.Tuple [.Name x px, .Name y py, .Name z pz] kt pt] (.Tuple [a, b, d] k2 pt2) pos) (sPar [i, j, l] fxs) := psI (ps_par3 hc hN hi hj hl hij hil hjl hx hy hz ha hw hs) fun D σ H h => by
  obtain ⟨G, env, s, o, env', s', I, e, k⟩ := h
  cases ef : fxs env s with
  | none => simp [sPar, ef] at e
  | some q =>
    obtain ⟨as, e1, s1⟩ := q
    simp only [sPar, ef] at e
    split at e
    · rename_i hlen
      simp only [Option.some.injEq, Prod.mk.injEq] at e
      obtain ⟨rfl, rfl, rfl⟩ := e
      refine ⟨G, env, s, as, e1, s1, I, ef, fun vs G' H' J m r => ?_⟩
      obtain ⟨ps, r⟩ := r
      cases r with
      | nil => simp at hlen
      | cons r1 t1 n1 =>
        cases t1 with
        | nil => simp at hlen
        | cons r2 t2 n2 =>
          cases t2 with
          | nil => simp at hlen
          | cons r3 t3 n3 =>
            cases t3 with
            | cons _ _ _ => simp at hlen
            | nil =>
              have r2' := r2.put (i := i) (n := fun p e z => n1 p e (by rw [z]; simp))
              have r3' := r3.put (i := i) (n := fun p e z => n1 p e (by rw [z]; simp))
              have r3'' := r3'.put (i := j) (n := fun p e z => n2 p e (by rw [z]; simp))
              exact ⟨_, _, _, rfl, k _ G' H' (((J.put r1 i).put r2' j).put r3'' l) (((m.put r1 i).put r2' j).put r3'' l)⟩
    · cases e
end
end Ev
end
section
set_option Elab.async false
set_option linter.all false
set_option maxRecDepth 100000
/-! Ev7: targets; looks at a list of the frame's own; its methods; dicts; defs. -/
namespace Ev
open PySem PySem.Spec L2
set_option autoImplicit false

/-! ### targets -/
abbrev TgF := PyData → En → Option En
/-- nothing but the slots is changed -/
def OffTg (is : List Nat) (σ σ' : St) : Prop := (∀ j, j ∉ is → σ'[j]? = σ[j]?) ∧ σ'.length = σ.length
def rdTg (c : Cf) (is : List Nat) (g : TgF) : TG := fun v σ H Q => ∃ (G : Hp) (env : En) (s : Bx) (d : PyData) (env' : En), INV c σ env s G H ∧ RpX c G v d ∧ g d env = some env' ∧
  ∀ σ', INV c σ' env' s G H → Mv c σ env G H σ' env' G H → OffTg is σ σ' → Q σ' H
def rdTgs (c : Cf) (is : List Nat) (g : List PyData → En → Option En) : TGs := fun vs σ H Q => ∃ (G : Hp) (env : En) (s : Bx) (ds : List PyData) (env' : En), INV c σ env s G H ∧ RpAll c.K G vs ds ∧ g ds env = some env' ∧
  ∀ σ', INV c σ' env' s G H → Mv c σ env G H σ' env' G H → OffTg is σ σ' → Q σ' H
abbrev ETg (X : Cx) (bx : Option (Addr × Addr)) (tg : Expr) (is : List Nat) (g : TgF) : Prop := PG X tg (rdTg ⟨X.K, bx⟩ is g)
abbrev ETgs (X : Cx) (bx : Option (Addr × Addr)) (tg : List Expr) (is : List Nat) (g : List PyData → En → Option En) : Prop := PGs X tg (rdTgs ⟨X.K, bx⟩ is g)
def tgName (i : Nat) : TgF := fun d env => some (env.set i (some (.imm d)))
def tgNil : List PyData → En → Option En
  | [], env => some env
  | _, _ => none
def tgCons (g : TgF) (gs : List PyData → En → Option En) : List PyData → En → Option En
  | d :: ds, env => (g d env).bind (gs ds)
  | _, _ => none
def tgTup (n : Nat) (gs : List PyData → En → Option En) : TgF
  | .tuple ds, env => if ds.length = n then gs ds env else none
  | _, _ => none
section
variable {X : Cx} {bx : Option (Addr × Addr)} {pos : Pos} {e : Expr} {es : List Expr} {is js : List Nat} {g : TgF} {gs : List PyData → En → Option En} {x : Str} {i n k : Nat}
theorem pgI {t t' : TG} (h : PG X e t) (i : ∀ v σ H Q, t' v σ H Q → t v σ H Q) : PG X e t' := ⟨fun pins s σ H v u Q I r q => h.run pins s σ H v u Q I r (i v σ H Q q)⟩
theorem pgsI {t t' : TGs} (h : PGs X es t) (i : ∀ v σ H Q, t' v σ H Q → t v σ H Q) : PGs X es t' := ⟨fun pins s σ H v u Q I r q => h.run pins s σ H v u Q I r (i v σ H Q q)⟩
theorem OffTg.trans {σ σ1 σ2 : St} (a : OffTg is σ σ1) (b : OffTg js σ1 σ2) : OffTg (is ++ js) σ σ2 :=
  ⟨fun j h => by rw [List.mem_append, not_or] at h; rw [b.1 j h.2, a.1 j h.1], by rw [b.2, a.2]⟩
theorem gNam (hN : X.N.Nodup) (hi : X.N[i]? = some x := by rfl) (hx : Loc X.env.scope x := by first | exact Or.inl rfl | exact Or.inr rfl) (hf : X.fn x = true ∨ X.env.scope.names.lookup x = some .local := by first | exact .inl rfl | exact .inr rfl) : ETg X bx (.Name x pos) [i] (tgName i) :=
  pgI (pg_name hN hi hx hf) fun v σ H Q ⟨G, env, s, d, env', I, r, e, k⟩ => by
    simp only [tgName, Option.some.injEq] at e
    subst e
    exact k _ (I.put (a := .imm d) (H0 := H) r i) (Mv.refl.put (a := .imm d) r i) ⟨fun j hj => List.getElem?_set_ne (fun z => hj (by simp [z])), List.length_set⟩
theorem gNl : ETgs X bx [] [] tgNil := pgsI pgs_nil fun vs σ H Q ⟨G, env, s, ds, env', I, r, e, k⟩ => by
  cases r with
  | nil =>
    simp only [tgNil, Option.some.injEq] at e
    subst e
    exact ⟨rfl, k _ I Mv.refl ⟨fun _ _ => rfl, rfl⟩⟩
  | cons _ _ => simp [tgNil] at e
theorem gCn (h1 : ETg X bx e is g) (h2 : ETgs X bx es js gs) (hs : (assignEach (e :: es) X.env).map (·.2) = assign e X.env :: (assignEach es X.env).map (·.2) := by rfl) : ETgs X bx (e :: es) (is ++ js) (tgCons g gs) :=
  pgsI (pgs_cons h1 h2 hs) fun vs σ H Q ⟨G, env, s, ds, env', I, r, e, k⟩ => by
    cases r with
    | nil => simp [tgCons] at e
    | @cons v vs' d ds' r1 rr =>
      simp only [tgCons] at e
      cases e1 : g d env with
      | none => rw [e1] at e; cases e
      | some env1 =>
        rw [e1] at e
        exact ⟨v, vs', rfl, G, env, s, d, env1, I, .inl r1, e1, fun σ1 I1 m1 o1 => ⟨G, env1, s, ds', env', I1, rr, e, fun σ2 I2 m2 o2 => k σ2 I2 (m1.trans m2) (o1.trans o2)⟩⟩
theorem gTupl (hc : X.calm = true) (h : ETgs X bx es is gs) (hn : (assignEach es X.env).length = n := by rfl) (hst : (assignEach es X.env).findIdx? (·.1) = none := by rfl) : ETg X bx (.Tuple es k pos) is (tgTup n gs) :=
  pgI (pg_tup hc h hn hst) fun v σ H Q ⟨G, env, s, d, env', I, r, e, k⟩ => by
    cases d with
    | tuple ds =>
      simp only [tgTup] at e
      split at e
      · rename_i hl
        obtain ⟨a, xs, rfl, hq, rx⟩ := rpTup r
        exact ⟨a, xs, rfl, tup_mono I.sub hq, by rw [rx.length]; exact hl, G, env, s, ds, env', I, rx, e, k⟩
      · cases e
    | _ => simp [tgTup] at e
def sTg (f : M PyData) (g : TgF) : SM := fun env s => match f env s with
  | some (d, e1, s1) => match g d e1 with
    | some e2 => some (.nx, e2, s1)
    | none => none
  | none => none
/-- target = value -/
theorem sAsgT {tg : Expr} {f : M PyData} (he : EE X bx e f) (hg : ETg X bx tg is g) (hs : swapsWithSole [tg] e pos.line X.env = pure false := by rfl) (hw : swappedStores [tg] e X.env = pure none := by rfl)
    (h1 : (assignEach [tg] X.env).map (·.2) = [assign tg X.env] := by rfl) : ES X bx (.Assign [tg] e pos) (sTg f g) := psI (ps_asg he hg hs hw h1) fun D σ H h => by
  obtain ⟨G, env, s, o, env', s', I, e, k⟩ := h
  cases ef : f env s with
  | none => simp [sTg, ef] at e
  | some q =>
    obtain ⟨d, e1, s1⟩ := q
    simp only [sTg, ef] at e
    cases eg : g d e1 with
    | none => rw [eg] at e; cases e
    | some e2 =>
      rw [eg] at e
      simp only [Option.some.injEq, Prod.mk.injEq] at e
      obtain ⟨rfl, rfl, rfl⟩ := e
      exact ⟨G, env, s, d, e1, s1, I, ef, fun v G' H' J m r => ⟨G', e1, s1, d, e2, J, r, eg, fun σ' J' m' _ => k σ' G' H' J' (m.trans m')⟩⟩
end

/-! ### op= -/
def gAug (plus : Bool) : PyData → PyData → Option PyData
  | .int i, .int j => some (.int (if plus then i + j else i - j))
  | _, _ => none
def sAug (i : Nat) (f : M PyData) (g : PyData → PyData → Option PyData) : SM := fun env s => match env[i]? with
  | some (some (.imm x)) => match f env s with
    | some (y, e1, s1) => match g x y with
      | some z => some (.nx, e1.set i (some (.imm z)), s1)
      | none => none
    | none => none
  | _ => none
section
variable {X : Cx} {bx : Option (Addr × Addr)} {pos pos' : Pos} {e : Expr} {f : M PyData} {x : Str} {i : Nat}
theorem aug_run {op : Operator} {F : Int → Int → Int} {g : PyData → PyData → Option PyData} (hg : ∀ a b z, g a b = some z → ∃ i j, a = .int i ∧ b = .int j ∧ z = .int (F i j)) (hN : X.N.Nodup) (he : EE X bx e f) (hp : PIp X op (ipI F)) (hi : X.N[i]? = some x) (hx : Loc X.env.scope x) (hf : X.fn x = true ∨ X.env.scope.names.lookup x = some .local) :
    ES X bx (.AugAssign (.Name x pos') op e pos) (sAug i f g) := psI (ps_aug hN hi hx he hp hf) fun D σ H h => by
  obtain ⟨G, env, s, o, env', s', I, e, k⟩ := h
  simp only [sAug] at e
  split at e
  · rename_i a ea
    split at e
    · rename_i y e1 s1 ef
      split at e
      · rename_i z ez
        cases e
        obtain ⟨n, m, rfl, rfl, rfl⟩ := hg _ _ _ ez
        obtain ⟨v, h1, h2⟩ := I.val i _ ea
        cases rpInt h2
        refine ⟨_, h1, G, env, s, _, e1, _, I, ef, fun y' G' H' J mm r => ?_⟩
        cases rpInt r
        have r2 : RpV ⟨X.K, bx⟩ σ e1 G' H H' (.int (F n m)) (.imm (.int (F n m))) := .inl (.int _)
        exact ⟨n, m, rfl, rfl, k _ G' H' (J.put r2 i) (mm.put r2 i)⟩
      · cases e
    · cases e
  · cases e
theorem sAdd1 (hN : X.N.Nodup) (he : EE X bx e f) (hi : X.N[i]? = some x := by rfl) (hx : Loc X.env.scope x := by first | exact Or.inl rfl | exact Or.inr rfl) (hf : X.fn x = true ∨ X.env.scope.names.lookup x = some .local := by first | exact .inl rfl | exact .inr rfl) :
    ES X bx (.AugAssign (.Name x pos') .Add e pos) (sAug i f (gAug true)) := aug_run (fun a b z h => by
  unfold gAug at h
  split at h
  · cases h; exact ⟨_, _, rfl, rfl, rfl⟩
  · cases h) hN he ip_add hi hx hf
theorem sSub1 (hN : X.N.Nodup) (he : EE X bx e f) (hi : X.N[i]? = some x := by rfl) (hx : Loc X.env.scope x := by first | exact Or.inl rfl | exact Or.inr rfl) (hf : X.fn x = true ∨ X.env.scope.names.lookup x = some .local := by first | exact .inl rfl | exact .inr rfl) :
    ES X bx (.AugAssign (.Name x pos') .Sub e pos) (sAug i f (gAug false)) := aug_run (fun a b z h => by
  unfold gAug at h
  split at h
  · cases h; exact ⟨_, _, rfl, rfl, rfl⟩
  · cases h) hN he ip_sub hi hx hf
end

/-! ### looks at what a slot holds, without ending its changes -/
/-- a datum that holds no address -/
def scal : PyData → Bool
  | .none | .bool _ | .int _ | .str _ => true
  | _ => false
theorem rp_scal {c : Cf} {G G' : Hp} {v : V} {d : PyData} (h : RpX c G v d) (s : scal d = true) : RpX c G' v d := by
  rcases h with h | ⟨rfl, _⟩
  · cases h with
    | non => exact .inl .non
    | bl b => exact .inl (.bl b)
    | int b => exact .inl (.int b)
    | str b => exact .inl (.str b)
    | lst _ _ => simp [scal] at s
    | tup _ _ => simp [scal] at s
    | dct _ _ => simp [scal] at s
    | fn _ => simp [scal] at s
  · simp [boxD, scal] at s
def evD : EV → PyData
  | .imm d => d
  | .mut l => .list l
  | .dmut es => .dict es
/-- slot i as a datum, as it stands -/
def fPk (i : Nat) : M PyData := fun env s => match env[i]? with
  | some (some a) => some (evD a, env, s)
  | _ => none
section
variable {c : Cf} {σ : St} {env : En} {s : Bx} {G H : Hp} {i : Nat}
/-- the slot's value stands for its datum in a heap part that goes further -/
theorem INV.peek (I : INV c σ env s G H) {a : EV} (e : env[i]? = some (some a)) : ∃ v, σ[i]? = some (some v) ∧ ∃ G', Same G G' ∧ Same G' H ∧ RpX c G' v (evD a) := by
  cases a with
  | imm d => obtain ⟨v, h1, h2⟩ := I.val i d e; exact ⟨v, h1, G, Same.refl _, I.sub, h2⟩
  | «mut» l =>
    obtain ⟨p, xs, h1, h2, h3, h4, h5⟩ := I.mt i l e
    refine ⟨_, h1, upd G p (.lst xs), fun b u q => by rw [upd_ne (ne_of_none q h3)]; exact q, fun b u q => ?_, .inl (.lst upd_same (h4.mono fun b u q => by rw [upd_ne (ne_of_none q h3)]; exact q))⟩
    by_cases hb : b = p
    · subst hb; rw [upd_same] at q; rw [h2]; exact q
    · rw [upd_ne hb] at q; exact I.sub b u q
  | dmut l =>
    obtain ⟨p, xs, h1, h2, h3, h4, h5⟩ := I.dm i l e
    refine ⟨_, h1, upd G p (.dK xs), fun b u q => by rw [upd_ne (ne_of_none q h3)]; exact q, fun b u q => ?_, .inl (.dct upd_same (h4.mono fun b u q => by rw [upd_ne (ne_of_none q h3)]; exact q))⟩
    by_cases hb : b = p
    · subst hb; rw [upd_same] at q; rw [h2]; exact q
    · rw [upd_ne hb] at q; exact I.sub b u q
end
section
variable {X : Cx} {bx : Option (Addr × Addr)} {c : Cf} {pos p : Pos} {a : Expr} {fa fb : M PyData} {x : Str} {i : Nat}
/-- a value seen in a part of the heap that goes further -/
def rdK (c : Cf) (f : M PyData) : TE := fun σ H Q => ∃ (G : Hp) (env : En) (s : Bx) (a : PyData) (env' : En) (s' : Bx), INV c σ env s G H ∧ f env s = some (a, env', s') ∧
  ∀ (v : V) (G' G2 H' : Hp), INV c σ env' s' G' H' → Mv c σ env G H σ env' G' H' → Same G' G2 → Same G2 H' → RpX c G2 v a → Q v H'
abbrev EK (X : Cx) (bx : Option (Addr × Addr)) (e : Expr) (f : M PyData) : Prop := PE X e (rdK ⟨X.K, bx⟩ f)
theorem kVar (i : Nat) {x : Str} (hN : X.N[i]? = some x := by rfl) (hv : Vis X.env.scope x := by first | exact Or.inl rfl | exact Or.inr (Or.inl rfl) | exact Or.inr (Or.inr rfl)) (hd : (x == ("__debug__" : Str)) = false := by decide)
    (hcd : (x == ("__classdict__" : Str)) = false := by decide) : EK X bx (.Name x pos) (fPk i) := peI (pv i hN hv hd hcd) fun σ H Q h => by
  obtain ⟨G, env, s, d, env', s', I, e, k⟩ := h
  simp only [fPk] at e
  split at e
  · rename_i a ea
    cases e
    obtain ⟨v, h1, G2, s1, s2, r⟩ := I.peek ea
    exact ⟨v, h1, k v G G2 H I Mv.refl s1 s2 r⟩
  · cases e
/-- a value that is none of the frame's own -/
theorem kOf {e : Expr} {f : M PyData} (h : EE X bx e f) : EK X bx e f := peI h fun σ H Q h => by
  obtain ⟨G, env, s, d, env', s', I, e, k⟩ := h
  exact ⟨G, env, s, d, env', s', I, e, fun v G' H' J m r => k v G' G' H' J m (Same.refl _) J.sub r⟩
/-- a value, then a look; the answer holds no address -/
theorem lk_run {r : R2} {g : PyData → PyData → Option PyData} (hs : OpN c r g) (hsc : ∀ a b d, g a b = some d → scal d = true) {σ : St} {H : Hp} {Q : VK} (h : rdE c (fBin fa fb g) σ H Q) : tOp r (rdE c fa) (rdK c fb) σ H Q := by
  refine (rd.bind (R := RpX c) h).mono fun x H1 ⟨a, G1, ra, h1⟩ => ?_
  obtain ⟨env, s, d, env', s', I, e, k⟩ := h1
  cases ef : fb env s with
  | none => simp [bnd, ef] at e
  | some q =>
    obtain ⟨b, e1, s1⟩ := q
    simp only [bnd, ef] at e
    refine ⟨G1, env, s, b, e1, s1, I, ef, fun y G' G2 H' J m w1 w2 rb => ?_⟩
    cases eg : g a b with
    | none => rw [eg] at e; simp [lft] at e
    | some z =>
      rw [eg] at e
      simp only [lft, Option.some.injEq, Prod.mk.injEq] at e
      obtain ⟨rfl, rfl, rfl⟩ := e
      exact hs a b z eg G2 H' x y Q w2 ((ra.mono m.sub).mono w1) rb fun v rv => k v G' H' J m (rp_scal rv (hsc a b z eg))
theorem scal_bool {o : Option Bool} {d : PyData} (h : o.map PyData.bool = some d) : scal d = true := by
  cases o with
  | none => cases h
  | some b => cases h; rfl
theorem sc_in : ∀ a b d, gIn a b = some d → scal d = true := fun a b d h => by
  unfold gIn at h
  split at h
  · rename_i u w
    cases e : sign1 u with
    | none => rw [e] at h; cases h
    | some c => rw [e] at h; cases h; rfl
  · split at h
    · cases h; rfl
    · cases h
  · split at h
    · cases h; rfl
    · cases h
  · cases h
theorem sc_notin : ∀ a b d, gNotIn a b = some d → scal d = true := fun a b d h => by
  unfold gNotIn at h
  cases e : gIn a b with
  | none => rw [e] at h; cases h
  | some z =>
    rw [e] at h
    cases z <;> first | (cases h; rfl) | cases h
/-- e in name -/
theorem tInK {op : CmpOp} {g : PyData → PyData → Option PyData} {b : Expr} (s : CmpS X bx op g) (hsc : ∀ a b d, g a b = some d → scal d = true) (ha : EE X bx a fa) (hb : EK X bx b fb) (hm : behindInMarks op b = false := by first | exact nomark _ | rfl) :
    ET X bx (.Compare a [op] [b] pos) (tbl (fBin fa fb g)) := by
  obtain ⟨r, h1, h2⟩ := s.ex
  exact ptI (pt_cmpR h1 ha hb hm) fun σ H Q h => lk_run h2 hsc ((tbl_run h).mono fun _ _ q => q)
theorem eInK {op : CmpOp} {g : PyData → PyData → Option PyData} {b : Expr} (s : CmpS X bx op g) (hsc : ∀ a b d, g a b = some d → scal d = true) (ha : EE X bx a fa) (hb : EK X bx b fb) (hm : behindInMarks op b = false := by first | exact nomark _ | rfl) :
    EE X bx (.Compare a [op] [b] pos) (fBin fa fb g) := by
  obtain ⟨r, h1, h2⟩ := s.ex
  exact peI (pe_cmpR h1 ha hb hm) fun σ H Q h => lk_run h2 hsc h
/-- if name -/
theorem tTruK {e : Expr} {f : M PyData} (ha : EK X bx e f) (he : ∀ whole, isTrue e X.env whole = (do let v ← whole; standAt e.pos; holding [v] (truthy v)) := by intro _; rfl) : ET X bx e (tst f) := ptI (pt_truth ha he) fun σ H Q h => by
  obtain ⟨G, env, s, d, env', s', I, e, k⟩ := h
  cases ef : f env s with
  | none => simp [tst, bnd, ef] at e
  | some q =>
    obtain ⟨b, e1, s1⟩ := q
    simp only [tst, bnd, ef] at e
    refine ⟨G, env, s, b, e1, s1, I, ef, fun y G' G2 H' J m w1 w2 rb => ?_⟩
    cases eg : truthD b with
    | none => rw [eg] at e; simp [lft] at e
    | some z =>
      rw [eg] at e
      simp only [lft, Option.some.injEq, Prod.mk.injEq] at e
      obtain ⟨rfl, rfl, rfl⟩ := e
      exact ⟨z, truV_of w2 rb eg, k z G' H' J m rfl⟩
theorem eNotK {f : M PyData} (ha : EK X bx a f) : EE X bx (.UnaryOp .Not a pos) (fNot f) := peI (pe_notT ha) fun σ H Q h => by
  obtain ⟨G, env, s, d, env', s', I, e, k⟩ := h
  cases ef : f env s with
  | none => simp [fNot, bnd, ef] at e
  | some q =>
    obtain ⟨b, e1, s1⟩ := q
    simp only [fNot, bnd, ef] at e
    refine ⟨G, env, s, b, e1, s1, I, ef, fun y G' G2 H' J m w1 w2 rb => ?_⟩
    cases eg : truthD b with
    | none => rw [eg] at e; simp [lft] at e
    | some z =>
      rw [eg] at e
      simp only [lft, Option.map_some, Option.some.injEq, Prod.mk.injEq] at e
      obtain ⟨rfl, rfl, rfl⟩ := e
      exact ⟨z, truV_of w2 rb eg, k _ G' H' J m (.inl (.bl _))⟩
/-- len(name) -/
theorem eLenK {e : Expr} {f : M PyData} (hm : X.mg "len" = none) (ha : EK X bx e f) (hg : Gl X "len" := by rfl) (h1 : starEach [e] X.env = (false, eval e X.env) :: starEach [] X.env := by rfl) (h2 : (backTo pos (starEach [] X.env)).any (·.1) = false := by rfl) :
    EE X bx (.Call (.Name "len" p) [e] [] pos) (f1 f gLen) := peI (pe_callB (CallR.or call_len call_lenD) hg hm PySem.boot_len (pa_cons ha pa_nil h1) (by decide) (by decide) h1 h2) fun σ H Q h => by
  obtain ⟨G, env, s, d, env', s', I, e, k⟩ := h
  cases ef : f env s with
  | none => simp [f1, bnd, ef] at e
  | some q =>
    obtain ⟨b, e1, s1⟩ := q
    simp only [f1, bnd, ef] at e
    refine ⟨G, env, s, b, e1, s1, I, ef, fun y G' G2 H' J m w1 w2 rb => ?_⟩
    cases eg : gLen b with
    | none => rw [eg] at e; simp [lft] at e
    | some z =>
      rw [eg] at e
      simp only [lft, Option.some.injEq, Prod.mk.injEq] at e
      obtain ⟨rfl, rfl, rfl⟩ := e
      refine lenV_of w2 rb eg fun n z => ?_
      subst z
      exact k _ G' H' J m (.inl (.int _))
/-- name[e]: the index first is reckoned, then is looked -/
def fIxK (i : Nat) (fb : M PyData) : M PyData := fun env s => match env[i]? with
  | some (some _) => match fb env s with
    | some (b, e1, s1) => match e1[i]? with
      | some (some (.imm d)) => (gIx d b).map fun z => (z, e1, s1)
      | some (some (.mut l)) => (gIx (.list l) b).map fun z => (z, e1, s1)
      | _ => none
    | none => none
  | _ => none
theorem eIxK {b : Expr} {hp : Pos} (hb : EE X bx b fb) (hN : X.N[i]? = some x := by rfl) (hv : Vis X.env.scope x := by first | exact Or.inl rfl | exact Or.inr (Or.inl rfl) | exact Or.inr (Or.inr rfl)) (hd : (x == ("__debug__" : Str)) = false := by decide)
    (hcd : (x == ("__classdict__" : Str)) = false := by decide) (hs : PlainIx b := by exact fun _ _ => rfl) : EE X bx (.Subscript (.Name x hp) b pos) (fIxK i fb) := peI (pe_ix ix_seq (pv i hN hv hd hcd) hb hs) fun σ H Q h => by
  obtain ⟨G, env, s, d, env', s', I, e, k⟩ := h
  simp only [fIxK] at e
  split at e
  · rename_i a ea
    obtain ⟨v, h1, _⟩ := I.peek ea
    split at e
    · rename_i y e1 s1 ef
      refine ⟨v, h1, G, env, s, y, e1, s1, I, ef, fun w G' H' J m rw' => ?_⟩
      split at e
      · rename_i d2 e2
        obtain ⟨v2, h2, r2⟩ := J.val i d2 e2
        rw [h1] at h2
        cases h2
        cases eg : gIx d2 y with
        | none => rw [eg] at e; cases e
        | some z =>
          rw [eg] at e
          cases e
          have hx := eg
          unfold gIx at hx
          split at hx
          · obtain ⟨q, xs, rfl, hq, rp⟩ := rpLst r2
            cases rpInt rw'
            obtain ⟨u, h3, h4⟩ := atI_rp rp hx
            exact .inl ⟨q, xs, _, u, rfl, rfl, SqL.of (J.sub _ _ hq), h3, k _ G' H' J m (.inl h4)⟩
          · obtain ⟨q, xs, rfl, hq, rp⟩ := rpTup r2
            cases rpInt rw'
            obtain ⟨u, h3, h4⟩ := atI_rp rp hx
            exact .inr (.inl ⟨q, xs, _, u, rfl, rfl, tup_mono J.sub hq, h3, k _ G' H' J m (.inl h4)⟩)
          · split at hx
            · rename_i z0 i0 hl
              cases rpStr r2
              cases rpInt rw'
              cases h1 : atI z0.cps.toList i0 with
              | none => rw [h1] at hx; cases hx
              | some c =>
                rw [h1] at hx
                cases hx
                exact .inr (.inr ⟨z0, i0, c, rfl, rfl, by rw [ln_eq]; exact hl, h1, k _ G' H' J m (.inl (.str _))⟩)
            · cases hx
          · cases hx
      · rename_i l e2
        obtain ⟨q, xs, h2, h3, h4, h5, h6⟩ := J.mt i l e2
        rw [h1] at h2
        cases h2
        cases eg : gIx (.list l) y with
        | none => rw [eg] at e; cases e
        | some z =>
          rw [eg] at e
          cases e
          cases y with
          | int n =>
            cases rpInt rw'
            obtain ⟨u, h7, h8⟩ := atI_rp h5 (show atI l n = some _ from eg)
            exact .inl ⟨q, xs, _, u, rfl, rfl, SqL.of h3, h7, k _ G' H' J m (.inl h8)⟩
          | _ => simp [gIx] at eg
      · cases e
    · cases e
  · cases e
end
end Ev
end
section
set_option Elab.async false
set_option linter.all false
set_option maxRecDepth 100000
/-! Ev8: methods of lists, dicts, defs. -/
namespace Ev
open PySem PySem.Spec L2
set_option autoImplicit false

section
variable {c : Cf} {σ : St} {env : En} {s : Bx} {G H : Hp} {i : Nat}
theorem INV.own (I : INV c σ env s G H) {p : Addr} (h : IsMut env σ i p) : G p = none ∧ ¬ c.box p ∧ ∃ o, H p = some o := by
  obtain ⟨⟨l, e⟩ | ⟨l, e⟩, h2⟩ := h
  · obtain ⟨q, xs, h1, h3, h4, h5, h6⟩ := I.mt i l e
    rw [h1] at h2; cases h2; exact ⟨h4, h6, _, h3⟩
  · obtain ⟨q, xs, h1, h3, h4, h5, h6⟩ := I.dm i l e
    rw [h1] at h2; cases h2; exact ⟨h4, h6, _, h3⟩
/-- the frame's own object at p is changed -/
theorem INV.wr (I : INV c σ env s G H) {p : Addr} (hm : IsMut env σ i p) {o' : HO} {a' : EV} (ha : (∃ l xs, a' = .mut l ∧ o' = .lst xs ∧ RpAll c.K G xs l) ∨ (∃ es kvs, a' = .dmut es ∧ o' = .dK kvs ∧ RpKvs c.K G kvs es)) :
    INV c σ (env.set i (some a')) s G (upd H p o') ∧ Mv c σ env G H σ (env.set i (some a')) G (upd H p o') := by
  obtain ⟨hG, nb, o, hH⟩ := I.own hm
  have back : ∀ {j b}, IsMut (env.set i (some a')) σ j b → IsMut env σ j b := by
    rintro j b ⟨h, hs⟩
    by_cases hj : j = i
    · subst hj
      have : b = p := by have := hm.2; rw [this] at hs; cases hs; rfl
      rw [this]; exact hm
    · refine ⟨?_, hs⟩
      rcases h with ⟨l, e⟩ | ⟨l, e⟩
      · rw [List.getElem?_set_ne (Ne.symm hj)] at e; exact .inl ⟨l, e⟩
      · rw [List.getElem?_set_ne (Ne.symm hj)] at e; exact .inr ⟨l, e⟩
  refine ⟨⟨fun b u e => ?_, fun B C e => ?_, I.bfree, by rw [List.length_set]; exact I.len, fun j d e => ?_, fun j l e => ?_, fun j l e => ?_, fun j k b h1 h2 => I.sep j k b (back h1) (back h2)⟩, Same.refl _, fun b u hb n => ?_, fun b u hb => ?_⟩
  · rw [upd_ne (ne_of_none e hG)]; exact I.sub b u e
  · obtain ⟨t, hf, h1, h2, h3⟩ := I.box B C e
    exact ⟨t, hf, by rw [upd_ne (fun z => nb ⟨B, C, e, .inl z.symm⟩)]; exact h1, by rw [upd_ne (fun z => nb ⟨B, C, e, .inr z.symm⟩)]; exact h2, h3⟩
  · rcases set_get e with ⟨e1, e2⟩ | ⟨e1, e2⟩
    · injection e2 with e2
      rcases ha with ⟨l, xs, h, _⟩ | ⟨l, xs, h, _⟩ <;> · rw [h] at e2; cases e2
    · exact I.val j d e2
  · rcases set_get e with ⟨e1, e2⟩ | ⟨e1, e2⟩
    · injection e2 with e2
      rcases ha with ⟨l2, xs, h, ho, hr⟩ | ⟨l2, xs, h, _⟩
      · rw [h] at e2; cases e2
        exact ⟨p, xs, by rw [e1]; exact hm.2, by rw [ho]; exact upd_same, hG, hr, nb⟩
      · rw [h] at e2; cases e2
    · obtain ⟨b, xs, h1, h2, h3⟩ := I.mt j l e2
      refine ⟨b, xs, h1, ?_, h3⟩
      rw [upd_ne (fun z => e1 (I.sep j i b ⟨.inl ⟨l, e2⟩, h1⟩ (by rw [z]; exact hm)))]; exact h2
  · rcases set_get e with ⟨e1, e2⟩ | ⟨e1, e2⟩
    · injection e2 with e2
      rcases ha with ⟨l2, xs, h, _⟩ | ⟨l2, xs, h, ho, hr⟩
      · rw [h] at e2; cases e2
      · rw [h] at e2; cases e2
        exact ⟨p, xs, by rw [e1]; exact hm.2, by rw [ho]; exact upd_same, hG, hr, nb⟩
    · obtain ⟨b, xs, h1, h2, h3⟩ := I.dm j l e2
      refine ⟨b, xs, h1, ?_, h3⟩
      rw [upd_ne (fun z => e1 (I.sep j i b ⟨.inr ⟨l, e2⟩, h1⟩ (by rw [z]; exact hm)))]; exact h2
  · have np : b ≠ p := fun z => n (.inr ⟨i, by rw [z]; exact hm⟩)
    exact ⟨by rw [upd_ne np]; exact hb, id, fun t => n (t.imp id fun ⟨j, h⟩ => ⟨j, back h⟩)⟩
  · by_cases z : b = p
    · exact ⟨o', by rw [z]; exact upd_same⟩
    · exact ⟨u, by rw [upd_ne z]; exact hb⟩
end

/-! ### methods of lists -/
/-- what a method does to the list, by its arguments: the result and the list behind -/
abbrev MtF := List PyData → List PyData → Option (PyData × List PyData)
def fMt (i : Nat) (g : MtF) (fs : M (List PyData)) : M PyData := fun env s => match env[i]? with
  | some (some (.mut _)) => match fs env s with
    | some (ds, e1, s1) => match e1[i]? with
      | some (some (.mut l)) => match g l ds with
        | some (d, l') => some (d, e1.set i (some (.mut l')), s1)
        | none => none
      | _ => none
    | none => none
  | _ => none
def MtS (c : Cf) (r : V → List V → Hp → VK → Prop) (g : MtF) : Prop :=
  ∀ (l ds : List PyData) (d : PyData) (l' : List PyData), g l ds = some (d, l') → ∀ (p : Addr) (xs vs : List V) (G H : Hp) (Q : VK), Same G H → H p = some (.lst xs) → RpAll c.K G xs l → RpXs c G vs ds →
    (∀ v xs', RpX c G v d → RpAll c.K G xs' l' → Q v (upd H p (.lst xs'))) → r (.ref p) vs H Q
def gApp : MtF := fun l ds => match ds with
  | [d] => if notBox d && decide (l.length < Ln) then some (.none, l ++ [d]) else none
  | _ => none
def gPop : MtF := fun l ds => match ds with
  | [] => (l[l.length - 1]?).map fun d => (d, l.dropLast)
  | _ => none
def gPopAt : MtF := fun l ds => match ds with
  | [.int i] => if -(2 ^ 63) ≤ i ∧ i < 2 ^ 63 then (seqIndex? i l.length).bind fun k => (l[k]?).map fun d => (d, l.eraseIdx k) else none
  | _ => none
def gRem : MtF := fun l ds => match ds with
  | [.int k] => (gLt.intsOf l).bind fun ns => (ns.idxOf? k).map fun j => (.none, (ns.eraseIdx j).map PyData.int)
  | _ => none
section
variable {X : Cx} {bx : Option (Addr × Addr)} {c : Cf} {apos cpos hp : Pos} {e : Expr} {es : List Expr} {fs : M (List PyData)} {x : Str} {i : Nat} {r : V → List V → Hp → VK → Prop} {g : MtF}
theorem mt_run (hs : MtS ⟨X.K, bx⟩ r g) {σ : St} {H : Hp} {Q : VK} (h : rdE ⟨X.K, bx⟩ (fMt i g fs) σ H Q) : tBM X.K "list" r (tVar i) (rdA ⟨X.K, bx⟩ fs) σ H Q := by
  obtain ⟨G, env, s, d, env', s', I, e, k⟩ := h
  simp only [fMt] at e
  split at e
  · rename_i l0 el0
    obtain ⟨p, xs0, h1, h2, h3, h4, h5⟩ := I.mt i l0 el0
    refine ⟨.ref p, h1, .inl ⟨rfl, _, SqL.of h2⟩, ?_⟩
    split at e
    · rename_i ds e1 s1 ef
      refine ⟨G, env, s, ds, e1, s1, I, ef, fun vs G1 H1 J m rs => ?_⟩
      split at e
      · rename_i l el
        obtain ⟨q, xs, k1, k2, k3, k4, k5⟩ := J.mt i l el
        rw [h1] at k1
        cases k1
        split at e
        · rename_i d' l' eg
          simp only [Option.some.injEq, Prod.mk.injEq] at e
          obtain ⟨rfl, rfl, rfl⟩ := e
          refine hs l ds d' l' eg p xs vs G1 H1 Q J.sub k2 k4 rs fun v xs' rv ra => ?_
          obtain ⟨J2, m2⟩ := J.wr (i := i) (p := p) ⟨.inl ⟨l, el⟩, h1⟩ (o' := .lst xs') (a' := .mut l') (.inl ⟨l', xs', rfl, rfl, ra⟩)
          exact k v G1 _ J2 (m.trans m2) rv
        · cases e
      · cases e
    · cases e
  · cases e
theorem s_append : MtS c rAppend gApp := fun l ds d l' h p xs vs G H Q sub hH r rs k => by
  unfold gApp at h
  split at h
  · rename_i a
    split at h
    · rename_i hc
      rw [Bool.and_eq_true, decide_eq_true_eq] at hc
      cases h
      cases rs with
      | cons ra t =>
        cases t
        have hl := r.length
        have hz := ln_eq
        exact ⟨p, xs, _, rfl, rfl, hH, by omega, k _ _ (.inl .non) (r.snoc (ra.rp hc.1))⟩
    · cases h
  · cases h
theorem s_pop : MtS c rPop gPop := fun l ds d l' h p xs vs G H Q sub hH r rs k => by
  unfold gPop at h
  split at h
  · cases e : l[l.length - 1]? with
    | none => rw [e] at h; cases h
    | some a =>
      rw [e] at h
      cases h
      cases rs
      obtain ⟨v, h1, h2⟩ := r.get e
      rw [← r.length] at h1
      exact ⟨p, xs, v, rfl, rfl, hH, h1, k _ _ (.inl h2) r.dropLast⟩
  · cases h
theorem s_popAt : MtS c rPopAt gPopAt := fun l ds d l' h p xs vs G H Q sub hH r rs k => by
  unfold gPopAt at h
  split at h
  · rename_i n
    split at h
    · rename_i hb
      cases e : seqIndex? n l.length with
      | none => rw [e] at h; cases h
      | some j =>
        rw [e] at h
        cases e2 : l[j]? with
        | none => simp [e2] at h
        | some a =>
          simp only [Option.bind_some, e2, Option.map_some, Option.some.injEq, Prod.mk.injEq] at h
          obtain ⟨rfl, rfl⟩ := h
          cases rs with
          | cons ra t =>
            cases t
            cases rpInt ra
            obtain ⟨v, h1, h2⟩ := r.get e2
            exact ⟨p, xs, n, j, v, rfl, rfl, hH, hb.1, hb.2, by rw [r.length]; exact e, h1, k _ _ (.inl h2) (r.erase j)⟩
    · cases h
  · cases h
theorem idx_first : ∀ {ns : List Int} {k : Int} {j : Nat}, ns.idxOf? k = some j → ns[j]? = some k ∧ ∀ m : Nat, m < j → ns[m]? ≠ some k
  | [], k, j, h => by simp at h
  | n :: ns, k, j, h => by
    rw [List.idxOf?_cons] at h
    by_cases e : n == k
    · rw [if_pos e] at h
      cases h
      exact ⟨by simpa using e, fun m hm => absurd hm (Nat.not_lt_zero _)⟩
    · rw [if_neg e] at h
      cases e2 : ns.idxOf? k with
      | none => rw [e2] at h; cases h
      | some i =>
        rw [e2] at h
        cases h
        obtain ⟨h1, h2⟩ := idx_first e2
        refine ⟨by simpa using h1, fun m hm => ?_⟩
        cases m with
        | zero => simpa using e
        | succ m =>
          have hm' : m + 1 < i + 1 := hm
          simpa using h2 m (by omega)
theorem rpInts {K : PySem.W.Frag} {G : Hp} : ∀ ns : List Int, RpAll K G (ns.map V.int) (ns.map PyData.int)
  | [] => .nil
  | n :: ns => .cons (.int n) (rpInts ns)
theorem s_remove : MtS c L2.rRemI gRem := fun l ds d l' h p xs vs G H Q sub hH r rs k => by
  unfold gRem at h
  split at h
  · rename_i n
    cases e : gLt.intsOf l with
    | none => rw [e] at h; cases h
    | some ns =>
      rw [e] at h
      cases e2 : ns.idxOf? n with
      | none => simp [e2] at h
      | some j =>
        simp only [Option.bind_some, e2, Option.map_some, Option.some.injEq, Prod.mk.injEq] at h
        obtain ⟨rfl, rfl⟩ := h
        have := r.ints ns (intsOf_eq e)
        subst this
        cases rs with
        | cons ra t =>
          cases t
          cases rpInt ra
          obtain ⟨h1, h2⟩ := idx_first e2
          exact ⟨p, ns, n, j, rfl, rfl, hH, h1, h2, k _ _ (.inl .non) (rpInts _)⟩
  · cases h
theorem mtr_of {id : String} (h : MtM X id r) : MtR X id r := h
/-- name.method(e, ..) -/
theorem eMt {name : Str} {id : String} (slot : Slot "list" name id) (hty : typeOf (.builtin id) = pure (.type "method_descriptor")) (hm : MtR X id r) (hs : MtS ⟨X.K, bx⟩ r g) (ha : EA X bx (e :: es) fs) (hN : X.N[i]? = some x := by rfl) (hv : Vis X.env.scope x := by first | exact Or.inl rfl | exact Or.inr (Or.inl rfl) | exact Or.inr (Or.inr rfl)) (hd : (x == ("__debug__" : Str)) = false := by decide)
    (hcd : (x == ("__classdict__" : Str)) = false := by decide) (hbase : attributeBase (.Name x hp) name X.env (eval (.Name x hp) X.env) = eval (.Name x hp) X.env := by rfl)
    (hfew : ((backTo cpos (starEach (e :: es) X.env)).all (fun x => !x.1) && (backToKw cpos (keywordEach [] X.env)).all (fun x => x.1.isSome)
      && decide ((e :: es).length + ([] : List Keyword).length + (if ([] : List Keyword).isEmpty then 0 else 1) < 30)) = true := by rfl)
    (hline : (apos.endLine == cpos.line) = true := by rfl) (h1 : starEach (e :: es) X.env = (false, eval e X.env) :: starEach es X.env := by rfl) (h2 : (backTo cpos (starEach es X.env)).any (·.1) = false := by rfl) :
    EE X bx (.Call (.Attribute (.Name x hp) name apos) (e :: es) [] cpos) (fMt i g fs) :=
  peI (pe_bm PySem.F.plainAttrs_list slot hty hm (pv i hN hv hd hcd) ha hbase hfew hline h1 h2) fun _ _ _ h => mt_run hs h
theorem eAppend (ha : EA X bx [e] fs) (hN : X.N[i]? = some x := by rfl) (hv : Vis X.env.scope x := by first | exact Or.inl rfl | exact Or.inr (Or.inl rfl) | exact Or.inr (Or.inr rfl)) (hd : (x == ("__debug__" : Str)) = false := by decide)
    (hcd : (x == ("__classdict__" : Str)) = false := by decide) (hbase : attributeBase (.Name x hp) "append" X.env (eval (.Name x hp) X.env) = eval (.Name x hp) X.env := by rfl)
    (hfew : ((backTo cpos (starEach [e] X.env)).all (fun x => !x.1) && (backToKw cpos (keywordEach [] X.env)).all (fun x => x.1.isSome)
      && decide (([e] : List Expr).length + ([] : List Keyword).length + (if ([] : List Keyword).isEmpty then 0 else 1) < 30)) = true := by rfl)
    (hline : (apos.endLine == cpos.line) = true := by rfl) (h1 : starEach [e] X.env = (false, eval e X.env) :: starEach [] X.env := by rfl) (h2 : (backTo cpos (starEach [] X.env)).any (·.1) = false := by rfl) :
    EE X bx (.Call (.Attribute (.Name x hp) "append" apos) [e] [] cpos) (fMt i gApp fs) := eMt PySem.F.slot_list_append PySem.F.type_list_append mt_append s_append ha hN hv hd hcd hbase hfew hline h1 h2
theorem eRemove (ha : EA X bx [e] fs) (hN : X.N[i]? = some x := by rfl) (hv : Vis X.env.scope x := by first | exact Or.inl rfl | exact Or.inr (Or.inl rfl) | exact Or.inr (Or.inr rfl)) (hd : (x == ("__debug__" : Str)) = false := by decide)
    (hcd : (x == ("__classdict__" : Str)) = false := by decide) (hbase : attributeBase (.Name x hp) "remove" X.env (eval (.Name x hp) X.env) = eval (.Name x hp) X.env := by rfl)
    (hfew : ((backTo cpos (starEach [e] X.env)).all (fun x => !x.1) && (backToKw cpos (keywordEach [] X.env)).all (fun x => x.1.isSome)
      && decide (([e] : List Expr).length + ([] : List Keyword).length + (if ([] : List Keyword).isEmpty then 0 else 1) < 30)) = true := by rfl)
    (hline : (apos.endLine == cpos.line) = true := by rfl) (h1 : starEach [e] X.env = (false, eval e X.env) :: starEach [] X.env := by rfl) (h2 : (backTo cpos (starEach [] X.env)).any (·.1) = false := by rfl) :
    EE X bx (.Call (.Attribute (.Name x hp) "remove" apos) [e] [] cpos) (fMt i gRem fs) := eMt PySem.F.slot_list_remove PySem.F.type_list_remove L2.mt_remove s_remove ha hN hv hd hcd hbase hfew hline h1 h2
theorem ePopAt (ha : EA X bx [e] fs) (hN : X.N[i]? = some x := by rfl) (hv : Vis X.env.scope x := by first | exact Or.inl rfl | exact Or.inr (Or.inl rfl) | exact Or.inr (Or.inr rfl)) (hd : (x == ("__debug__" : Str)) = false := by decide)
    (hcd : (x == ("__classdict__" : Str)) = false := by decide) (hbase : attributeBase (.Name x hp) "pop" X.env (eval (.Name x hp) X.env) = eval (.Name x hp) X.env := by rfl)
    (hfew : ((backTo cpos (starEach [e] X.env)).all (fun x => !x.1) && (backToKw cpos (keywordEach [] X.env)).all (fun x => x.1.isSome)
      && decide (([e] : List Expr).length + ([] : List Keyword).length + (if ([] : List Keyword).isEmpty then 0 else 1) < 30)) = true := by rfl)
    (hline : (apos.endLine == cpos.line) = true := by rfl) (h1 : starEach [e] X.env = (false, eval e X.env) :: starEach [] X.env := by rfl) (h2 : (backTo cpos (starEach [] X.env)).any (·.1) = false := by rfl) :
    EE X bx (.Call (.Attribute (.Name x hp) "pop" apos) [e] [] cpos) (fMt i gPopAt fs) := eMt PySem.F.slot_list_pop PySem.F.type_list_pop mt_popAt s_popAt ha hN hv hd hcd hbase hfew hline h1 h2
theorem ePop (hN : X.N[i]? = some x := by rfl) (hv : Vis X.env.scope x := by first | exact Or.inl rfl | exact Or.inr (Or.inl rfl) | exact Or.inr (Or.inr rfl)) (hd : (x == ("__debug__" : Str)) = false := by decide)
    (hcd : (x == ("__classdict__" : Str)) = false := by decide) (hbase : attributeBase (.Name x hp) "pop" X.env (eval (.Name x hp) X.env) = eval (.Name x hp) X.env := by rfl) (hline : (apos.endLine == cpos.line) = true := by rfl) :
    EE X bx (.Call (.Attribute (.Name x hp) "pop" apos) [] [] cpos) (fMt i gPop aNil) :=
  peI (pe_bm0 PySem.F.plainAttrs_list PySem.F.slot_list_pop PySem.F.type_list_pop mt_pop (pv i hN hv hd hcd) hbase hline) fun σ H Q h => by
    obtain ⟨v, h1, h2, h3⟩ := mt_run (fs := aNil) s_pop h
    refine ⟨v, h1, h2, ?_⟩
    obtain ⟨G, q⟩ := h3
    obtain ⟨s, I, k⟩ := q.pure
    exact k [] G H I Mv.refl .nil
end

/-! ### dicts of the frame's own, keys whole numbers or texts -/
def keyOf : PyData → Option Key
  | .int i => some (.inl i)
  | .str x => some (.inr x)
  | _ => none
def kEq (k : Key) (d : PyData) : Bool := match keyOf d with
  | some j => decide (j = k)
  | none => false
def getD (es : List (PyData × PyData)) (k : Key) : Option PyData := (es.find? fun e => kEq k e.1).map (·.2)
def putD (es : List (PyData × PyData)) (k : Key) (d : PyData) : List (PyData × PyData) :=
  if (es.any fun e => kEq k e.1) = true then es.map (fun e => if kEq k e.1 = true then (e.1, d) else e) else es ++ [(kD k, d)]
theorem kEq_kD (j k : Key) : kEq k (kD j) = decide (j = k) := by cases j <;> rfl
section
variable {K : PySem.W.Frag} {G : Hp}
theorem kvs_get : ∀ {kvs : List (Key × V)} {es : List (PyData × PyData)} {k : Key}, RpKvs K G kvs es → (valV kvs k = none ∧ getD es k = none) ∨ ∃ v d, valV kvs k = some v ∧ getD es k = some d ∧ Rp K G v d
  | _, _, _, .nil => .inl ⟨rfl, rfl⟩
  | _, _, k, @RpKvs.cons _ _ j v kvs d es r t => by
    by_cases e : j = k
    · exact .inr ⟨v, d, valV_pos e, by simp [getD, List.find?_cons, kEq_kD, e], r⟩
    · have h1 : valV ((j, v) :: kvs) k = valV kvs k := valV_neg e
      have h2 : getD ((kD j, d) :: es) k = getD es k := by simp [getD, List.find?_cons, kEq_kD, e]
      rw [h1, h2]
      exact kvs_get t
theorem kvs_length : ∀ {kvs : List (Key × V)} {es : List (PyData × PyData)}, RpKvs K G kvs es → kvs.length = es.length
  | _, _, .nil => rfl
  | _, _, .cons _ t => congrArg (· + 1) (kvs_length t)
theorem kvs_any : ∀ {kvs : List (Key × V)} {es : List (PyData × PyData)} {k : Key}, RpKvs K G kvs es → (kvs.any fun kv => decide (kv.1 = k)) = (es.any fun e => kEq k e.1)
  | _, _, _, .nil => rfl
  | _, _, k, .cons r t => by simp only [List.any_cons, kEq_kD, kvs_any t]
theorem kvs_map {u : V} {d : PyData} (h : Rp K G u d) : ∀ {kvs : List (Key × V)} {es : List (PyData × PyData)} {k : Key}, RpKvs K G kvs es → RpKvs K G (kvs.map fun kv => if kv.1 = k then (kv.1, u) else kv) (es.map fun e => if kEq k e.1 = true then (e.1, d) else e)
  | _, _, _, .nil => .nil
  | _, _, k, @RpKvs.cons _ _ j v kvs d' es r t => by
    simp only [List.map_cons, kEq_kD, decide_eq_true_eq]
    by_cases e : j = k
    · rw [if_pos e, if_pos e]; exact .cons h (kvs_map h t)
    · rw [if_neg e, if_neg e]; exact .cons r (kvs_map h t)
theorem kvs_snoc {u : V} {d : PyData} (h : Rp K G u d) {k : Key} : ∀ {kvs : List (Key × V)} {es : List (PyData × PyData)}, RpKvs K G kvs es → RpKvs K G (kvs ++ [(k, u)]) (es ++ [(kD k, d)])
  | _, _, .nil => .cons h .nil
  | _, _, .cons r t => .cons r (kvs_snoc h t)
theorem kvs_put {u : V} {d : PyData} (h : Rp K G u d) {kvs : List (Key × V)} {es : List (PyData × PyData)} {k : Key} (r : RpKvs K G kvs es) : RpKvs K G (putK kvs k u) (putD es k d) := by
  unfold putK putD
  rw [kvs_any r]
  split
  · exact kvs_map h r
  · exact kvs_snoc h r
end
/-- d[k] = v on slot i -/
def sPut (i : Nat) (fk fv : M PyData) : SM := fun env s => match fv env s with
  | some (v, e1, s1) => match e1[i]? with
    | some (some (.dmut _)) => match fk e1 s1 with
      | some (kd, e2, s2) => match e2[i]?, keyOf kd with
        | some (some (.dmut es)), some k => if notBox v && decide (es.length < Ln) then some (.nx, e2.set i (some (.dmut (putD es k v))), s2) else none
        | _, _ => none
      | none => none
    | _ => none
  | none => none
/-- name[k], a dict's -/
def fDg (i : Nat) (fk : M PyData) : M PyData := fun env s => match env[i]? with
  | some (some _) => match fk env s with
    | some (kd, e1, s1) => match e1[i]?, keyOf kd with
      | some (some (.dmut es)), some k => (getD es k).map fun d => (d, e1, s1)
      | some (some (.imm (.dict es))), some k => if okD es then (getD es k).map fun d => (d, e1, s1) else none
      | _, _ => none
    | none => none
  | _ => none
def gDin : PyData → PyData → Option PyData
  | a, .dict es => if okD es then (keyOf a).map fun k => .bool (getD es k).isSome else none
  | _, _ => none
section
variable {X : Cx} {bx : Option (Addr × Addr)} {pos pos' hp : Pos} {a b e : Expr} {fa fb fk fv : M PyData} {x : Str} {i : Nat}
theorem key_of {c : Cf} {G : Hp} {y : V} {d : PyData} {k : Key} (h : keyOf d = some k) (r : RpX c G y d) : y = kV k := by
  cases d with
  | int n => cases h; exact rpInt r
  | str n => cases h; exact rpStr r
  | _ => simp [keyOf] at h
theorem sDp (hu : X.A.units + 1 < cLine) (hk : EE X bx b fk) (hv : EE X bx e fv) (hN : X.N[i]? = some x := by rfl) (hvis : Vis X.env.scope x := by first | exact Or.inl rfl | exact Or.inr (Or.inl rfl) | exact Or.inr (Or.inr rfl)) (hd : (x == ("__debug__" : Str)) = false := by decide)
    (hcd : (x == ("__classdict__" : Str)) = false := by decide) (hs : swapsWith e (some (.Subscript (.Name x hp) b pos')) pos.line X.env = pure false := by rfl) : ES X bx (.Assign [.Subscript (.Name x hp) b pos'] e pos) (sPut i fk fv) := psI (ps_dput hu (pv i hN hvis hd hcd) hk hv hs) fun D σ H h => by
  obtain ⟨G, env, s, o, env', s', I, e, k⟩ := h
  simp only [sPut] at e
  split at e
  · rename_i v e1 s1 ef
    refine ⟨G, env, s, v, e1, s1, I, ef, fun vv G1 H1 J m rv => ?_⟩
    split at e
    · rename_i l0 el0
      obtain ⟨p, kvs0, h1, h2, h3, h4, h5⟩ := J.dm i l0 el0
      refine ⟨.ref p, h1, ?_⟩
      split at e
      · rename_i kd e2 s2 ek
        refine ⟨G1, e1, s1, kd, e2, s2, J, ek, fun y G2 H2 J2 m2 ry => ?_⟩
        split at e
        · rename_i es kk el hkk
          split at e
          · rename_i hc
            rw [Bool.and_eq_true, decide_eq_true_eq] at hc
            cases e
            obtain ⟨q, kvs, k1, k2, k3, k4, k5⟩ := J2.dm i es el
            rw [h1] at k1
            cases k1
            have hl := kvs_length k4
            have hz := ln_eq
            have ey := key_of hkk ry
            subst ey
            obtain ⟨J3, m3⟩ := J2.wr (i := i) (p := p) ⟨.inr ⟨es, el⟩, h1⟩ (o' := .dK (putK kvs kk vv)) (a' := .dmut (putD es kk v)) (.inr ⟨_, _, rfl, rfl, kvs_put ((rv.mono m2.sub).rp hc.1) k4⟩)
            exact ⟨p, _, rfl, DPut.k k2 (by omega), k σ G2 _ J3 ((m.trans m2).trans m3)⟩
          · cases e
        · cases e
      · cases e
    · cases e
  · cases e
theorem eDg (hu : X.A.units + 1 < cLine) (hk : EE X bx b fk) (hN : X.N[i]? = some x := by rfl) (hvis : Vis X.env.scope x := by first | exact Or.inl rfl | exact Or.inr (Or.inl rfl) | exact Or.inr (Or.inr rfl)) (hd : (x == ("__debug__" : Str)) = false := by decide)
    (hcd : (x == ("__classdict__" : Str)) = false := by decide) (hs : NoSl b := by exact fun _ _ => rfl) : EE X bx (.Subscript (.Name x hp) b pos) (fDg i fk) := peI (pe_dget hu (pv i hN hvis hd hcd) hk hs) fun σ H Q h => by
  obtain ⟨G, env, s, d, env', s', I, e, k⟩ := h
  simp only [fDg] at e
  split at e
  · rename_i a0 ea0
    obtain ⟨v0, h0, _⟩ := I.peek ea0
    split at e
    · rename_i kd e1 s1 ek
      refine ⟨v0, h0, G, env, s, kd, e1, s1, I, ek, fun y G1 H1 J m ry => ?_⟩
      split at e
      · rename_i es kk el hkk
        obtain ⟨p, kvs, k1, k2, k3, k4, k5⟩ := J.dm i es el
        rw [h0] at k1
        cases k1
        have ey := key_of hkk ry
        subst ey
        rcases kvs_get (k := kk) k4 with ⟨g1, g2⟩ | ⟨v, dd, g1, g2, g3⟩
        · rw [g2] at e; cases e
        · rw [g2] at e
          cases e
          exact ⟨p, v, rfl, by rw [← g1]; exact DGet.k k2, k v G1 H1 J m (.inl g3)⟩
      · rename_i es kk el hkk
        split at e
        · rename_i nb
          obtain ⟨v1, k1, k2⟩ := J.val i _ el
          rw [h0] at k1
          cases k1
          have ey := key_of hkk ry
          subst ey
          cases k2.rp (okD_nb nb) with
          | fn _ => simp [okD] at nb
          | dct hg r4 =>
            rcases kvs_get (k := kk) r4 with ⟨g1, g2⟩ | ⟨v, dd, g1, g2, g3⟩
            · rw [g2] at e; cases e
            · rw [g2] at e
              cases e
              exact ⟨_, v, rfl, by rw [← g1]; exact DGet.k (J.sub _ _ hg), k v G1 H1 J m (.inl g3)⟩
        · cases e
      · cases e
    · cases e
  · cases e
/-- e in a dict: a value, then a look -/
theorem din_run {c : Cf} {neg : Bool} {g : PyData → PyData → Option PyData} (hg : ∀ a b d, g a b = some d → ∃ es k, b = .dict es ∧ okD es = true ∧ keyOf a = some k ∧ d = .bool (if neg then !(getD es k).isSome else (getD es k).isSome)) {σ : St} {H : Hp} {Q : VK} (h : rdE c (fBin fa fb g) σ H Q) :
    rdE c fa σ H fun y H1 => rdK c fb σ H1 fun x H2 => ∃ a o, x = .ref a ∧ DGet H2 a y o ∧ Q (.bl (if neg then !o.isSome else o.isSome)) H2 := by
  refine (rd.bind (R := RpX c) h).mono fun x H1 ⟨a, G1, ra, h1⟩ => ?_
  obtain ⟨env, s, d, env', s', I, e, k⟩ := h1
  cases ef : fb env s with
  | none => simp [bnd, ef] at e
  | some q =>
    obtain ⟨b, e1, s1⟩ := q
    simp only [bnd, ef] at e
    refine ⟨G1, env, s, b, e1, s1, I, ef, fun y G' G2 H' J m w1 w2 rb => ?_⟩
    cases eg : g a b with
    | none => rw [eg] at e; simp [lft] at e
    | some z =>
      rw [eg] at e
      simp only [lft, Option.some.injEq, Prod.mk.injEq] at e
      obtain ⟨rfl, rfl, rfl⟩ := e
      obtain ⟨es, kk, rfl, nb, hk, rfl⟩ := hg a b z eg
      have ey := key_of hk ra
      subst ey
      cases rb.rp (okD_nb nb) with
      | fn _ => simp [okD] at nb
      | @dct _ kvs _ hg' r4 =>
        refine ⟨_, _, rfl, DGet.k (w2 _ _ hg'), ?_⟩
        have : (valV kvs kk).isSome = (getD es kk).isSome := by
          rcases kvs_get (k := kk) r4 with ⟨g1, g2⟩ | ⟨v, dd, g1, g2, g3⟩
          · rw [g1, g2] <;> rfl
          · rw [g1, g2] <;> rfl
        rw [this]
        exact k _ G' H' J m (.inl (.bl _))
def gDnin : PyData → PyData → Option PyData
  | a, .dict es => if okD es then (keyOf a).map fun k => .bool (!(getD es k).isSome) else none
  | _, _ => none
theorem tDin (hu : X.A.units + 1 < cLine) (ha : EE X bx a fa) (hb : EK X bx b fb) (hm : behindInMarks .In b = false := by rfl) : ET X bx (.Compare a [.In] [b] pos) (tbl (fBin fa fb gDin)) :=
  ptI (pt_cmp (pc_din hu ha hb) hm) fun σ H Q h => (din_run (neg := false) (fun a b d h => by
    unfold gDin at h
    split at h
    · split at h
      · rename_i es nb
        cases e : keyOf a with
        | none => rw [e] at h; cases h
        | some k => rw [e] at h; cases h; exact ⟨es, k, rfl, nb, rfl, rfl⟩
      · cases h
    · cases h) ((tbl_run h).mono fun _ _ q => q))
theorem eDin (hu : X.A.units + 1 < cLine) (ha : EE X bx a fa) (hb : EK X bx b fb) (hm : behindInMarks .In b = false := by rfl) : EE X bx (.Compare a [.In] [b] pos) (fBin fa fb gDin) :=
  peI (pe_cmp (pc_din hu ha hb) hm) fun σ H Q h => (din_run (neg := false) (fun a b d h => by
    unfold gDin at h
    split at h
    · split at h
      · rename_i es nb
        cases e : keyOf a with
        | none => rw [e] at h; cases h
        | some k => rw [e] at h; cases h; exact ⟨es, k, rfl, nb, rfl, rfl⟩
      · cases h
    · cases h) h)
theorem tDnin (hu : X.A.units + 1 < cLine) (ha : EE X bx a fa) (hb : EK X bx b fb) (hm : behindInMarks .NotIn b = false := by rfl) : ET X bx (.Compare a [.NotIn] [b] pos) (tbl (fBin fa fb gDnin)) :=
  ptI (pt_cmp (pc_dnotin hu ha hb) hm) fun σ H Q h => (din_run (neg := true) (fun a b d h => by
    unfold gDnin at h
    split at h
    · split at h
      · rename_i es nb
        cases e : keyOf a with
        | none => rw [e] at h; cases h
        | some k => rw [e] at h; cases h; exact ⟨es, k, rfl, nb, rfl, rfl⟩
      · cases h
    · cases h) ((tbl_run h).mono fun _ _ q => q))
end

/-! ### defs -/
def fnOf (n m : Nat) (fs : SM) : List PyData → Bx → Option (PyData × Bx) := fun ds s =>
  if ds.length = m then match fs (ds.map (fun d => some (.imm d)) ++ List.replicate (n - m) none) s with
    | some (.rt d, _, s') => some (d, s')
    | some (.nx, _, s') => some (.none, s')
    | _ => none
  else none
section
variable {P : Program} {w : World} {K : PySem.W.Frag} {mg : Str → Option Value} {base : Heap}
theorem inv_start {c : Cf} {G H : Hp} {s : Bx} (I : INV0 c s G H) {vs : List V} {ds : List PyData} (r : RpXs c G vs ds) (n : Nat) (m : Nat) (hm : ds.length = m) :
    INV c (vs.map some ++ List.replicate (n - vs.length) none) (ds.map (fun d => some (.imm d)) ++ List.replicate (n - m) none) s G H := by
  have hl := r.length
  have im : ∀ {i : Nat} {a : EV}, (ds.map (fun d => some (EV.imm d)) ++ List.replicate (n - m) none)[i]? = some (some a) → ∃ d, a = .imm d ∧ ds[i]? = some d := fun {i a} e => by
    by_cases hi : i < ds.length
    · rw [List.getElem?_append_left (by simpa using hi), List.getElem?_map, List.getElem?_eq_getElem hi] at e
      simp only [Option.map_some, Option.some.injEq] at e
      exact ⟨_, e.symm, List.getElem?_eq_getElem hi⟩
    · rw [List.getElem?_append_right (by simpa using hi)] at e
      rw [List.getElem?_replicate] at e
      split at e <;> cases e
  have look : ∀ {i : Nat} {d : PyData} {vs : List V} {ds : List PyData}, RpXs c G vs ds → ds[i]? = some d → ∃ v, vs[i]? = some v ∧ RpX c G v d := by
    intro i d vs ds r
    induction r generalizing i with
    | nil => intro e; simp at e
    | cons r1 r2 ih =>
      intro e
      cases i with
      | zero => simp at e; subst e; exact ⟨_, rfl, r1⟩
      | succ i => exact ih (by simpa using e)
  refine ⟨I.sub, I.box, I.bfree, by simp [hl, hm], fun i d e => ?_, fun i l e => ?_, fun i l e => ?_, fun i j a h => ?_⟩
  · obtain ⟨d', e1, e2⟩ := im e
    cases e1
    obtain ⟨v, h1, h2⟩ := look r e2
    have hi : i < vs.length := by
      by_cases z : i < vs.length
      · exact z
      · rw [List.getElem?_eq_none (by omega)] at h1; cases h1
    refine ⟨v, ?_, h2⟩
    rw [List.getElem?_append_left (by simpa using hi), List.getElem?_map, h1]
    rfl
  · obtain ⟨d', e1, e2⟩ := im e; cases e1
  · obtain ⟨d', e1, e2⟩ := im e; cases e1
  · obtain ⟨⟨l, e⟩ | ⟨l, e⟩, _⟩ := h <;> · obtain ⟨d', e1, e2⟩ := im e; cases e1
theorem mv_start {c : Cf} {G H G' H' : Hp} {σ σ' : St} {env env' : En} (m : Mv c σ env G H σ' env' G' H') (h : ∀ (i : Nat) (a : EV), env[i]? = some (some a) → ∃ d, a = .imm d) : Mv0 c G H G' H' :=
  ⟨m.sub, fun b o hb n => by
    obtain ⟨k1, k2, k3⟩ := m.keep b o hb fun t => n (tch0.mpr (by
      rcases t with t | ⟨i, ⟨l, e⟩ | ⟨l, e⟩, _⟩
      · exact t
      · obtain ⟨d, z⟩ := h i _ e; cases z
      · obtain ⟨d, z⟩ := h i _ e; cases z))
    exact ⟨k1, k2, fun t => k3 (.inl (tch0.mp t))⟩, m.stay⟩
theorem imm_start {ds : List PyData} {k : Nat} (i : Nat) (a : EV) (e : (ds.map (fun d => some (EV.imm d)) ++ List.replicate k none)[i]? = some (some a)) : ∃ d, a = .imm d := by
  by_cases hi : i < ds.length
  · rw [List.getElem?_append_left (by simpa using hi), List.getElem?_map, List.getElem?_eq_getElem hi] at e
    simp only [Option.map_some, Option.some.injEq] at e
    exact ⟨_, e.symm⟩
  · rw [List.getElem?_append_right (by simpa using hi), List.getElem?_replicate] at e
    split at e <;> cases e
theorem fn_ok {x qual : Str} {st : Stmt} {f : Addr} {fd : FuncData} {N ps : List Str} {k : Nat} {fs : SM} (F : Fun K x qual st f fd) (S : FnScope N ps (defScope st))
    (hb : ∀ (cdv : Value) (A : Around) (outer : List Env) (s : Shared) (H : Hp) (E : XK) (bx : Option (Addr × Addr)), Room k (A.deeper (PyProof.Rows.envOfC qual (defScope st) s.heap.objs.size f cdv)) → EB (cxOf CX0 P w K mg base N qual (defScope st) f cdv A outer s H E).nox bx (defBody st) fs) :
    FnOk P w K mg base CX0 (k + 1) f fd ps (spOf K (fnOf N.length ps.length fs)) := by
  refine F.ok S (fun vs H Q E h => ?_) (fun cdv A outer s H vs Q E hr h => ?_)
  · obtain ⟨bx, G, s, ds, d, s', I, r, e, _⟩ := h
    unfold fnOf at e
    split at e
    · rename_i hl; rw [r.length]; exact hl
    · cases e
  · obtain ⟨bx, G, b, ds, d, s', I, r, e, q⟩ := h
    refine ⟨_, hb cdv A outer s H E bx hr, ?_⟩
    unfold fnOf at e
    split at e
    · rename_i hl
      have J := inv_start I r N.length ps.length hl
      split at e
      · rename_i d' env' s1 ef
        cases e
        refine ⟨G, _, b, _, env', s', J, ef, fun σ' G' H' J' m v rv => q v G' H' J'.base (mv_start m imm_start) rv⟩
      · rename_i env' s1 ef
        cases e
        refine ⟨G, _, b, _, env', s', J, ef, fun σ' G' H' J' m => q _ G' H' J'.base (mv_start m imm_start) (.inl .non)⟩
      · cases e
    · cases e
/-- what nobody can ask for -/
theorem fn_no {f : Addr} {fd : FuncData} {ps : List Str} {k : Nat} : FnOk P w K mg base CX0 k f fd ps (spOf K fun _ _ => none) :=
  ⟨fun vs H Q E h => by
    obtain ⟨bx, G, s, ds, d, s', I, r, e, _⟩ := h
    exact absurd e (by simp), fun A outer s H args us vs Q E hr he hb hv h => by
    obtain ⟨bx, G, s, ds, d, s', I, r, e, _⟩ := h
    exact absurd e (by simp)⟩
theorem cal_of {x : Str} {fa : Addr} {fd : FuncData} {ps : List Str} {k : Nat} {f : List PyData → Bx → Option (PyData × Bx)} (F : FnOk P w K mg base CX0 k fa fd ps (spOf K f)) (hm : mg x = some (.ref fa)) (hk : PySem.W.keepIn K (.ref fa) = true) (hb : Binds K fd ps []) : Cal P w K mg base k x f :=
  ⟨⟨fa, fd, ps, F, hm, hk, hb⟩⟩
end
end Ev
end
section
set_option Elab.async false
set_option linter.all false
set_option maxRecDepth 100000
/-! Ev9: loops, list comprehensions. -/
namespace Ev
open PySem PySem.Spec L2
set_option autoImplicit false

/-! ### what is walked -/
def WkOk (c : Cf) (J : It) (G : Hp) (ds : List PyData) : Prop := ∃ (Gd : Hp → Prop) (Y : Nat → Hp → V → Hp → Prop), Walk J ds.length Gd Y ∧ (∀ H2, Same G H2 → Gd H2) ∧
  ∀ (i : Nat) (x : V) (s2 : Bx) (G2 H2 H3 : Hp) (d : PyData), ds[i]? = some d → Same G G2 → INV0 c s2 G2 H2 → Y i H2 x H3 → ∃ G3, INV0 c s2 G3 H3 ∧ Mv0 c G2 H2 G3 H3 ∧ RpX c G3 x d
def rdI (c : Cf) (f : M (List PyData)) : TI := fun σ H R => ∃ (G : Hp) (env : En) (s : Bx) (ds : List PyData) (env' : En) (s' : Bx), INV c σ env s G H ∧ f env s = some (ds, env', s') ∧
  ∀ J G' H', INV c σ env' s' G' H' → Mv c σ env G H σ env' G' H' → WkOk c J G' ds → R J H'
abbrev EI (X : Cx) (bx : Option (Addr × Addr)) (tg e : Expr) (f : M (List PyData)) : Prop := PI X tg e (rdI ⟨X.K, bx⟩ f)
def itemsD : PyData → Option (List PyData)
  | .list xs => some xs
  | .tuple xs => some xs
  | .str z => some (z.cps.toList.map fun c => .str ⟨#[c]⟩)
  | _ => none
def fItems (fa : M PyData) : M (List PyData) := bnd fa fun a => lft (itemsD a)
section
variable {X : Cx} {bx : Option (Addr × Addr)} {c : Cf} {pos p tpos : Pos} {tg e e2 : Expr} {es elts : List Expr} {kk : Nat} {fa : M PyData} {fs : M (List PyData)}
theorem piI {t t' : TI} (h : PI X tg e t) (i : ∀ σ H R, t' σ H R → t σ H R) : PI X tg e t' := ⟨fun pins s σ H R I q => h.run pins s σ H R I (i σ H R q)⟩
theorem PI.or {t t' : TI} (h : PI X tg e t) (h' : PI X tg e t') : PI X tg e (fun σ H R => t σ H R ∨ t' σ H R) := ⟨fun pins s σ H R I q => q.elim (h.run pins s σ H R I) (h'.run pins s σ H R I)⟩
theorem wk_list {J : It} {a : Addr} {xs : List V} {ds : List PyData} {G : Hp} (w : Walk (Itl c.K a) xs.length (fun H => SqL c.K H a xs) (YAt xs)) (hg : G a = some (.lst xs)) (r : RpAll c.K G xs ds) : WkOk c (Itl c.K a) G ds :=
  ⟨_, _, by rw [← r.length]; exact w, fun H2 s => SqL.of (s _ _ hg), fun i x s2 G2 H2 H3 d hd sub I y => by
    obtain ⟨rfl, hx⟩ := y
    obtain ⟨v, h1, h2⟩ := r.get hd
    rw [hx] at h1
    cases h1
    exact ⟨G2, I, Mv.refl, .inl (h2.mono sub)⟩⟩
theorem wk_tup {a : Addr} {xs : List V} {ds : List PyData} {G : Hp} (hg : SqT c.K G a xs) (r : RpAll c.K G xs ds) : WkOk c (Itt c.K a) G ds :=
  ⟨_, _, by rw [← r.length]; exact walk_tup, fun H2 s => tup_mono s hg, fun i x s2 G2 H2 H3 d hd sub I y => by
    obtain ⟨rfl, hx⟩ := y
    obtain ⟨v, h1, h2⟩ := r.get hd
    rw [hx] at h1
    cases h1
    exact ⟨G2, I, Mv.refl, .inl (h2.mono sub)⟩⟩
theorem wk_str {z : Str} {G : Hp} : WkOk c (Its z) G (z.cps.toList.map fun c => .str ⟨#[c]⟩) :=
  ⟨_, _, by rw [List.length_map, Array.length_toList]; exact walk_str, fun H2 s => trivial, fun i x s2 G2 H2 H3 d hd sub I y => by
    obtain ⟨rfl, k, hk, rfl⟩ := y
    rw [List.getElem?_map, Array.getElem?_toList, hk] at hd
    cases hd
    exact ⟨G2, I, Mv.refl, .inl (.str _)⟩⟩
theorem iAny (ha : EE X bx e fa) : EI X bx tg e (fItems fa) := piI (PI.or (pi_list ha) (PI.or (pi_tup ha) (pi_str ha))) fun σ H R h => by
  obtain ⟨G, env, s, ds, env', s', I, e, k⟩ := h
  cases ef : fa env s with
  | none => simp [fItems, bnd, ef] at e
  | some q =>
    obtain ⟨d, e1, s1⟩ := q
    simp only [fItems, bnd, ef] at e
    cases ed : itemsD d with
    | none => simp [ed, lft] at e
    | some l =>
      simp only [ed, lft, Option.some.injEq, Prod.mk.injEq] at e
      obtain ⟨rfl, rfl, rfl⟩ := e
      cases d with
      | list xs =>
        cases ed
        refine .inl ⟨G, env, s, _, e1, s1, I, ef, fun v G' H' J m r => ?_⟩
        obtain ⟨a, ys, rfl, hg, r2⟩ := rpLst r
        exact ⟨a, rfl, ⟨ys, SqL.of (J.sub _ _ hg)⟩, k _ G' H' J m (wk_list (J := Itl X.K a) walk_list hg r2)⟩
      | tuple xs =>
        cases ed
        refine .inr (.inl ⟨G, env, s, _, e1, s1, I, ef, fun v G' H' J m r => ?_⟩)
        obtain ⟨a, ys, rfl, hg, r2⟩ := rpTup r
        exact ⟨a, rfl, ⟨ys, tup_mono J.sub hg⟩, k _ G' H' J m (wk_tup hg r2)⟩
      | str z =>
        cases ed
        refine .inr (.inr ⟨G, env, s, _, e1, s1, I, ef, fun v G' H' J m r => ?_⟩)
        cases rpStr r
        exact ⟨z, rfl, k _ G' H' J m wk_str⟩
      | _ => simp [itemsD] at ed
/-- range -/
def rngD (lo : Int) (n : Nat) : List PyData := (List.range n).map fun i => .int (lo + (i : Nat))
def rngArg1 : List PyData → Option (List PyData)
  | [.int j] => if -(2 ^ 62) ≤ j ∧ j < 2 ^ 62 then some (rngD 0 j.toNat) else none
  | _ => none
def rngArg2 : List PyData → Option (List PyData)
  | [.int i, .int j] => if (-(2 ^ 62) ≤ i ∧ i < 2 ^ 62) ∧ -(2 ^ 62) ≤ j ∧ j < 2 ^ 62 then some (rngD i (j - i).toNat) else none
  | _ => none
def fRng (rngArg : List PyData → Option (List PyData)) (fs : M (List PyData)) : M (List PyData) := bnd fs fun ds => lft (rngArg ds)
theorem wk_rng {lo : Int} {n : Nat} {G : Hp} : WkOk c (Itr lo n) G (rngD lo n) :=
  ⟨_, _, by rw [rngD, List.length_map, List.length_range]; exact walk_range, fun H2 s => trivial, fun i x s2 G2 H2 H3 d hd sub I y => by
    obtain ⟨rfl, rfl⟩ := y
    unfold rngD at hd
    rw [List.getElem?_map] at hd
    cases e : (List.range n)[i]? with
    | none => rw [e] at hd; cases hd
    | some j =>
      have hj := (List.getElem?_eq_some_iff.mp e).2
      rw [List.getElem_range] at hj
      rw [e] at hd
      cases hd
      subst hj
      exact ⟨G2, I, Mv.refl, .inl (.int _)⟩⟩
theorem rng_run {rngArg : List PyData → Option (List PyData)} {σ : St} {H : Hp} {R : It → Hp → Prop} (h : rdI c (fRng rngArg fs) σ H R) : (∃ G env s d e1 s1 l, INV c σ env s G H ∧ fs env s = some (d, e1, s1) ∧ rngArg d = some l ∧ ∀ J G' H', INV c σ e1 s1 G' H' → Mv c σ env G H σ e1 G' H' → WkOk c J G' l → R J H') := by
  obtain ⟨G, env, s, ds, env', s', I, e, k⟩ := h
  cases ef : fs env s with
  | none => simp [fRng, bnd, ef] at e
  | some q =>
    obtain ⟨d, e1, s1⟩ := q
    simp only [fRng, bnd, ef] at e
    cases ed : rngArg d with
    | none => simp [ed, lft] at e
    | some l =>
      simp only [ed, lft, Option.some.injEq, Prod.mk.injEq] at e
      obtain ⟨rfl, rfl, rfl⟩ := e
      exact ⟨G, env, s, d, e1, s1, l, I, ef, ed, k⟩
theorem iRng1e {a : Expr} (hm : X.mg "range" = none) (ha : EA X bx [a] fs) (hg : Gl X "range" := by rfl) (hs : starEach [a] X.env = [(false, eval a X.env)] := by rfl) : EI X bx tg (.Call (.Name "range" p) [a] [] pos) (fRng rngArg1 fs) := piI (pi_range1 hg hm ha hs) fun σ H R h => by
  obtain ⟨G, env, s, d, e1, s1, l, I, ef, ed, k⟩ := rng_run h
  refine ⟨G, env, s, d, e1, s1, I, ef, fun vs G' H' J m r => ?_⟩
  unfold rngArg1 at ed
  split at ed
  · split at ed
    · rename_i j hb
      cases ed
      cases r with
      | cons r1 t =>
        cases t
        cases rpInt r1
        exact ⟨j, rfl, hb.1, hb.2, k _ G' H' J m wk_rng⟩
    · cases ed
  · cases ed
theorem iRng2e {a b : Expr} (hm : X.mg "range" = none) (ha : EA X bx [a, b] fs) (hg : Gl X "range" := by rfl) (hs : starEach [a, b] X.env = [(false, eval a X.env), (false, eval b X.env)] := by rfl) (hs2 : starEach [b] X.env = [(false, eval b X.env)] := by rfl) : EI X bx tg (.Call (.Name "range" p) [a, b] [] pos) (fRng rngArg2 fs) := piI (pi_range2 hg hm ha hs hs2) fun σ H R h => by
  obtain ⟨G, env, s, d, e1, s1, l, I, ef, ed, k⟩ := rng_run h
  refine ⟨G, env, s, d, e1, s1, I, ef, fun vs G' H' J m r => ?_⟩
  unfold rngArg2 at ed
  split at ed
  · split at ed
    · rename_i i j hb
      cases ed
      cases r with
      | cons r1 t =>
        cases t with
        | cons r2 t =>
          cases t
          cases rpInt r1
          cases rpInt r2
          exact ⟨i, j, rfl, ⟨hb.1.1, hb.1.2, hb.2.1, hb.2.2⟩, k _ G' H' J m wk_rng⟩
    · cases ed
  · cases ed
/-- zip of two lists or two tuples, enumerate: new pairs -/
theorem wk_pair {J : It} {n : Nat} {Gd : Hp → Prop} {xs ys : Nat → Option V} {G : Hp} {ds : List PyData} (w : Walk J n Gd (YPair xs ys)) (hn : ds.length = n) (hG : ∀ H2, Same G H2 → Gd H2) (hd : ∀ i d, ds[i]? = some d → ∃ a b, d = .tuple [a, b] ∧ ∀ x y, xs i = some x → ys i = some y → Rp c.K G x a ∧ Rp c.K G y b) : WkOk c J G ds := by
  subst hn
  refine ⟨_, _, w, hG, fun i v s2 G2 H2 H3 d he sub I y => ?_⟩
  obtain ⟨T, x, y, rfl, hT, rfl, h1, h2⟩ := y
  obtain ⟨a, b, rfl, hab⟩ := hd i d he
  obtain ⟨ra, rb⟩ := hab x y h1 h2
  obtain ⟨J, m⟩ := I.alloc hT (.tup [x, y])
  exact ⟨_, J, m, .inl (.tup (SqT.of upd_same) (.cons ((ra.mono sub).mono m.sub) (.cons ((rb.mono sub).mono m.sub) .nil)))⟩
def pairD (p : PyData × PyData) : PyData := .tuple [p.1, p.2]
def zipD : List PyData → Option (List PyData)
  | [.list xs, .list ys] => some ((xs.zip ys).map pairD)
  | [.tuple xs, .tuple ys] => some ((xs.zip ys).map pairD)
  | _ => none
theorem zip_at {G : Hp} {xs ys : List V} {ds es : List PyData} (rx : RpAll c.K G xs ds) (ry : RpAll c.K G ys es) (i : Nat) (d : PyData) (h : ((ds.zip es).map pairD)[i]? = some d) : ∃ a b, d = .tuple [a, b] ∧ ∀ x y, xs[i]? = some x → ys[i]? = some y → Rp c.K G x a ∧ Rp c.K G y b := by
  rw [List.getElem?_map] at h
  cases e : (ds.zip es)[i]? with
  | none => rw [e] at h; cases h
  | some p =>
    obtain ⟨a, b⟩ := p
    rw [e] at h
    cases h
    rw [List.getElem?_zip_eq_some] at e
    refine ⟨a, b, rfl, fun x y hx hy => ?_⟩
    obtain ⟨x', h1, h2⟩ := rx.get e.1
    obtain ⟨y', h3, h4⟩ := ry.get e.2
    rw [hx] at h1; rw [hy] at h3
    cases h1; cases h3
    exact ⟨h2, h4⟩
theorem walk_zipT {K : PySem.W.Frag} {a b : Addr} {xs ys : List V} {n : Nat} (hn : n = min xs.length ys.length) : Walk (RZ.ItzT K a b) n (fun H => SqT K H a xs ∧ SqT K H b ys) (YPair (fun i => xs[i]?) (fun i => ys[i]?)) := by
  subst hn
  refine ⟨fun i _ hi q => ?_, fun _ q => ⟨xs, ys, q.1, q.2, by omega⟩, fun i H v H' _ q y => ?_⟩
  · have h1 : i < xs.length := by omega
    have h2 : i < ys.length := by omega
    exact ⟨xs, ys, xs[i], ys[i], q.1, q.2, by simp [h1], by simp [h2]⟩
  · obtain ⟨T, x, z, h1, h2, h3, h4, h5⟩ := y
    exact ⟨T, x, z, h1, h2, h3, h4 xs q.1, h5 ys q.2⟩
theorem iZp (hm : X.mg "zip" = none) (ha : EA X bx [e, e2] fs) (hg : Gl X "zip" := by rfl) (hs : starEach [e, e2] X.env = (false, eval e X.env) :: starEach [e2] X.env := by rfl) (hpl : (backTo pos (starEach [e2] X.env)).any (·.1) = false := by rfl) :
    EI X bx (.Tuple elts kk tpos) (.Call (.Name "zip" p) [e, e2] [] pos) (fRng zipD fs) := piI (RZ.pi_zipA hg hm ha hs hpl) fun σ H R h => by
  obtain ⟨G, env, s, d, e1, s1, l, I, ef, ed, k⟩ := rng_run h
  refine ⟨G, env, s, d, e1, s1, I, ef, fun vs G' H' J m r => ?_⟩
  unfold zipD at ed
  split at ed
  · rename_i xs ys
    cases ed
    cases r with
    | cons r1 t =>
      cases t with
      | cons r2 t =>
        cases t
        obtain ⟨a, us, rfl, ha, ra⟩ := rpLst r1
        obtain ⟨b, ws, rfl, hb, rb⟩ := rpLst r2
        refine ⟨a, b, us, ws, rfl, .inl ⟨SqL.of (J.sub _ _ ha), SqL.of (J.sub _ _ hb), k _ G' H' J m ?_⟩⟩
        exact wk_pair (walk_zip (xs := us) (ys := ws) rfl) (by rw [List.length_map, List.length_zip, ra.length, rb.length]) (fun H2 q => ⟨SqL.of (q _ _ ha), SqL.of (q _ _ hb)⟩) (zip_at ra rb)
  · rename_i xs ys
    cases ed
    cases r with
    | cons r1 t =>
      cases t with
      | cons r2 t =>
        cases t
        obtain ⟨a, us, rfl, ha, ra⟩ := rpTup r1
        obtain ⟨b, ws, rfl, hb, rb⟩ := rpTup r2
        refine ⟨a, b, us, ws, rfl, .inr ⟨tup_mono J.sub ha, tup_mono J.sub hb, k _ G' H' J m ?_⟩⟩
        exact wk_pair (walk_zipT (xs := us) (ys := ws) rfl) (by rw [List.length_map, List.length_zip, ra.length, rb.length]) (fun H2 q => ⟨tup_mono q ha, tup_mono q hb⟩) (zip_at ra rb)
  · cases ed
end

/-! ### for -/
def forGo (g : TgF) (b : SM) : List PyData → SM
  | [] => sNext
  | d :: ds => fun env s => match g d env with
    | none => none
    | some e1 => match b e1 s with
      | some (.nx, e2, s2) => forGo g b ds e2 s2
      | some (.ct, e2, s2) => forGo g b ds e2 s2
      | some (.bk, e2, s2) => some (.nx, e2, s2)
      | some (.rt d, e2, s2) => some (.rt d, e2, s2)
      | none => none
def sFor (f : M (List PyData)) (g : TgF) (b : SM) : SM := fun env s => match f env s with
  | some (ds, e1, s1) => forGo g b ds e1 s1
  | none => none
section
variable {X : Cx} {bx : Option (Addr × Addr)} {pos : Pos} {tg iter : Expr} {body : List Stmt} {f : M (List PyData)} {is : List Nat} {g : TgF} {b : SM}
theorem sForr (hp : PassesOwn (model X.prog X.w) X.A X.env X.xe) (hc : X.calm = true) (hi : EI X bx tg iter f) (hg : ETg X bx tg is g) (hb : EB X bx body b) (hs : ∀ x, foldedSetIterable iter X.env x = pure x := by intro _; rfl) :
    ES X bx (.For tg iter body [] pos) (sFor f g b) := psI (ps_for hp hc hi hg hb hs) fun D σ H h => by
  obtain ⟨G, env, s, o, env', s', I, e, k⟩ := h
  cases ef : f env s with
  | none => simp [sFor, ef] at e
  | some q =>
    obtain ⟨ds, e1, s1⟩ := q
    simp only [sFor, ef] at e
    refine ⟨G, env, s, ds, e1, s1, I, ef, fun J G1 H1 I1 m1 wk => ?_⟩
    obtain ⟨Gd, Y, w, hGd, hY⟩ := wk
    refine for_it w (fun i σ' H' => ∃ G' env2 s2, INV ⟨X.K, bx⟩ σ' env2 s2 G' H' ∧ Mv ⟨X.K, bx⟩ σ e1 G1 H1 σ' env2 G' H' ∧ forGo g b (ds.drop i) env2 s2 = some (o, env', s')) ⟨G1, e1, s1, I1, Mv.refl, by simpa using e⟩ (fun i σ' H' hi ⟨G', env2, s2, I2, m2, e2⟩ => hGd H' (m2.sub.trans I2.sub)) ?_ ?_
    · rintro i x σ2 H2 H3 hi ⟨G2, env2, s2, I2, m2, e2⟩ y
      have hd : ds[i]? = some ds[i] := List.getElem?_eq_getElem hi
      rw [List.drop_eq_getElem_cons hi] at e2
      simp only [forGo] at e2
      obtain ⟨G3, J3, m3, r3⟩ := hY i x s2 G2 H2 H3 _ hd m2.sub I2.base y
      cases eg : g ds[i] env2 with
      | none => rw [eg] at e2; cases e2
      | some e3 =>
        simp only [eg] at e2
        cases eb : b e3 s2 with
        | none => rw [eb] at e2; cases e2
        | some q =>
          obtain ⟨o1, e4, s4⟩ := q
          simp only [eb] at e2
          refine ⟨G3, env2, s2, _, e3, I2.lift J3 m3, r3, eg, fun σ3 I3 mm _ => ⟨G3, e3, s2, o1, e4, s4, I3, eb, fun σ' G' H' J' m' => ?_⟩⟩
          have mv := ((m2.trans m3.lift).trans mm).trans m'
          cases o1 with
          | nx => exact ⟨G', e4, s4, J', mv, e2⟩
          | ct => exact ⟨G', e4, s4, J', mv, e2⟩
          | bk => cases e2; exact k σ' G' H' J' (m1.trans mv)
          | rt d => cases e2; exact k σ' G' H' J' (m1.trans mv)
    · rintro σ2 H2 ⟨G2, env2, s2, I2, m2, e2⟩
      rw [List.drop_length] at e2
      simp only [forGo, sNext, sOut, Option.some.injEq, Prod.mk.injEq] at e2
      obtain ⟨rfl, rfl, rfl⟩ := e2
      exact k σ2 G2 H2 I2 (m1.trans m2)
/-- while, by fuel -/
def whGo (t : M Bool) (b : SM) : Nat → SM
  | 0 => fun _ _ => none
  | n + 1 => fun env s => match t env s with
    | some (true, e1, s1) => match b e1 s1 with
      | some (.nx, e2, s2) => whGo t b n e2 s2
      | some (.ct, e2, s2) => whGo t b n e2 s2
      | some (.bk, e2, s2) => some (.nx, e2, s2)
      | some (.rt d, e2, s2) => some (.rt d, e2, s2)
      | none => none
    | some (false, e1, s1) => some (.nx, e1, s1)
    | none => none
theorem sWhl {t : M Bool} (n : Nat) (hp : PassesOwn (model X.prog X.w) X.A X.env X.xe) (hc : ET X bx iter t) (hb : EB X bx body b) : ES X bx (.While iter body [] pos) (whGo t b n) := psI (ps_while hp hc hb) fun D σ H h => by
  obtain ⟨G, env, s, o, env', s', I, e, k⟩ := h
  refine ⟨fun m σ' H' => ∃ G' env2 s2, INV ⟨X.K, bx⟩ σ' env2 s2 G' H' ∧ Mv ⟨X.K, bx⟩ σ env G H σ' env2 G' H' ∧ whGo t b m env2 s2 = some (o, env', s'), ⟨n, G, env, s, I, Mv.refl, e⟩, ?_⟩
  rintro m σ2 H2 ⟨G2, env2, s2, I2, m2, e2⟩
  cases m with
  | zero => simp [whGo] at e2
  | succ m =>
    simp only [whGo] at e2
    cases et : t env2 s2 with
    | none => rw [et] at e2; cases e2
    | some q =>
      obtain ⟨z, e3, s3⟩ := q
      refine ⟨G2, env2, s2, z, e3, s3, I2, et, fun v G3 H3 I3 m3 r => ?_⟩
      cases r
      cases z with
      | false =>
        simp only [et, Option.some.injEq, Prod.mk.injEq] at e2
        obtain ⟨rfl, rfl, rfl⟩ := e2
        rw [if_neg (by decide)]
        exact k σ2 G3 H3 I3 (m2.trans m3)
      | true =>
        simp only [et] at e2
        rw [if_pos rfl]
        refine ⟨fun σ' H' => ∃ G' env2 s2, INV ⟨X.K, bx⟩ σ' env2 s2 G' H' ∧ Mv ⟨X.K, bx⟩ σ env G H σ' env2 G' H' ∧ whGo t b m env2 s2 = some (o, env', s'), fun σ' H' q => ⟨m, Nat.lt_succ_self m, q⟩, ?_⟩
        cases eb : b e3 s3 with
        | none => rw [eb] at e2; cases e2
        | some q =>
          obtain ⟨o1, e4, s4⟩ := q
          simp only [eb] at e2
          refine ⟨G3, e3, s3, o1, e4, s4, I3, eb, fun σ' G' H' J' m' => ?_⟩
          have mv := (m2.trans m3).trans m'
          cases o1 with
          | nx => exact ⟨G', e4, s4, J', mv, e2⟩
          | ct => exact ⟨G', e4, s4, J', mv, e2⟩
          | bk => cases e2; exact k σ' G' H' J' mv
          | rt d => cases e2; exact k σ' G' H' J' mv
end
end Ev
end
section
set_option Elab.async false
set_option linter.all false
set_option maxRecDepth 100000
/-! Ev10: list comprehensions. -/
namespace Ev
open PySem PySem.Spec L2
set_option autoImplicit false

def wipeE (env : En) : List Nat → En
  | [] => env
  | v :: vs => (wipeE env vs).set v none
def backE (e1 e2 : En) : List Nat → En
  | [] => e2
  | v :: vs => (backE e1 e2 vs).set v ((e1[v]?).getD none)
def noMut (env : En) (vs : List Nat) : Bool := vs.all fun v => match env[v]? with
  | some (some (.imm _)) => true
  | some none => true
  | none => true
  | _ => false
theorem wipeE_length (env : En) : ∀ vs : List Nat, (wipeE env vs).length = env.length
  | [] => rfl
  | v :: vs => by unfold wipeE; rw [List.length_set, wipeE_length env vs]
theorem backE_length (e1 e2 : En) : ∀ vs : List Nat, (backE e1 e2 vs).length = e2.length
  | [] => rfl
  | v :: vs => by unfold backE; rw [List.length_set, backE_length e1 e2 vs]
theorem wipeE_some {env : En} {i : Nat} {x : EV} : ∀ {vs : List Nat}, (wipeE env vs)[i]? = some (some x) → env[i]? = some (some x) ∧ i ∉ vs
  | [], h => ⟨h, by simp⟩
  | v :: vs, h => by
    unfold wipeE at h
    rcases set_get h with ⟨_, e⟩ | ⟨n, e⟩
    · cases e
    · obtain ⟨h1, h2⟩ := wipeE_some e
      exact ⟨h1, by simp [n, h2]⟩
theorem wipeE_out {env : En} {i : Nat} : ∀ {vs : List Nat}, i ∉ vs → (wipeE env vs)[i]? = env[i]?
  | [], _ => rfl
  | v :: vs, h => by
    rw [List.mem_cons, not_or] at h
    unfold wipeE
    rw [List.getElem?_set_ne (Ne.symm h.1), wipeE_out h.2]
theorem backE_in {e1 e2 : En} {i : Nat} {x : EV} : ∀ {vs : List Nat}, i ∈ vs → (backE e1 e2 vs)[i]? = some (some x) → e1[i]? = some (some x)
  | [], h, _ => by simp at h
  | v :: vs, h, e => by
    unfold backE at e
    rcases set_get e with ⟨h1, h2⟩ | ⟨n, h2⟩
    · subst h1
      cases q : e1[i]? with
      | none => rw [q] at h2; cases h2
      | some o => rw [q] at h2; exact congrArg some h2.symm
    · rcases List.mem_cons.mp h with z | z
      · exact absurd z n
      · exact backE_in z h2
theorem backE_out {e1 e2 : En} {i : Nat} : ∀ {vs : List Nat}, i ∉ vs → (backE e1 e2 vs)[i]? = e2[i]?
  | [], _ => rfl
  | v :: vs, h => by
    rw [List.mem_cons, not_or] at h
    unfold backE
    rw [List.getElem?_set_ne (Ne.symm h.1), backE_out h.2]
theorem wipe_at {σ : St} {i : Nat} : ∀ {vs : List Nat}, i ∈ vs → i < σ.length → (wipe σ vs)[i]? = some none
  | [], h, _ => by simp at h
  | v :: vs, h, hl => by
    unfold wipe
    by_cases e : v = i
    · subst e
      exact List.getElem?_set_self (by rw [wipe_length]; exact hl)
    · rw [List.getElem?_set_ne e]
      exact wipe_at ((List.mem_cons.mp h).resolve_left (Ne.symm e)) hl
theorem wipe_congr {σ τ : St} {vs : List Nat} (hl : τ.length = σ.length) (h : ∀ j, j ∉ vs → τ[j]? = σ[j]?) : wipe τ vs = wipe σ vs := by
  refine List.ext_getElem? fun i => ?_
  by_cases hi : i ∈ vs
  · by_cases z : i < σ.length
    · rw [wipe_at hi z, wipe_at hi (by rw [hl]; exact z)]
    · rw [List.getElem?_eq_none (by rw [wipe_length]; omega), List.getElem?_eq_none (by rw [wipe_length]; omega)]
  · rw [wipe_out hi, wipe_out hi, h i hi]
theorem wipe_wipe (σ : St) {vs ws : List Nat} (h : ∀ j ∈ ws, j ∈ vs) : wipe (wipe σ ws) vs = wipe σ vs := wipe_congr (wipe_length _ _) fun j hj => wipe_out fun z => hj (h j z)
theorem wipeE_at {σ : En} {i : Nat} : ∀ {vs : List Nat}, i ∈ vs → i < σ.length → (wipeE σ vs)[i]? = some none
  | [], h, _ => by simp at h
  | v :: vs, h, hl => by
    unfold wipeE
    by_cases e : v = i
    · subst e
      exact List.getElem?_set_self (by rw [wipeE_length]; exact hl)
    · rw [List.getElem?_set_ne e]
      exact wipeE_at ((List.mem_cons.mp h).resolve_left (Ne.symm e)) hl
theorem wipeE_wipe (σ : En) {vs ws : List Nat} (h : ∀ j ∈ ws, j ∈ vs) : wipeE (wipeE σ ws) vs = wipeE σ vs := by
  refine List.ext_getElem? fun i => ?_
  by_cases hi : i ∈ vs
  · by_cases z : i < σ.length
    · rw [wipeE_at hi z, wipeE_at hi (by rw [wipeE_length]; exact z)]
    · rw [List.getElem?_eq_none (by rw [wipeE_length, wipeE_length]; omega), List.getElem?_eq_none (by rw [wipeE_length]; omega)]
  · rw [wipeE_out hi, wipeE_out hi, wipeE_out fun z => hi (h i z)]
theorem wipe_tg {σ σ2 : St} {is vs : List Nat} (o : OffTg is (wipe σ vs) σ2) (h : ∀ j ∈ is, j ∈ vs) : wipe σ2 vs = wipe σ vs := by
  rw [← wipe_wipe σ (vs := vs) (ws := vs) fun j hj => hj]
  exact wipe_congr o.2 fun j hj => o.1 j fun z => hj (h j z)

section
variable {c : Cf} {σ σ' σb : St} {env env' envb e1 : En} {s s' : Bx} {G G' G1 H H' H1 : Hp} {vs : List Nat}
theorem isMut_wipe {j : Nat} {a : Addr} (h : IsMut (wipeE env vs) (wipe σ vs) j a) : IsMut env σ j a ∧ j ∉ vs := by
  obtain ⟨⟨l, e⟩ | ⟨l, e⟩, h2⟩ := h
  · obtain ⟨e1, n⟩ := wipeE_some e; exact ⟨⟨.inl ⟨l, e1⟩, (wipe_some h2).1⟩, n⟩
  · obtain ⟨e1, n⟩ := wipeE_some e; exact ⟨⟨.inr ⟨l, e1⟩, (wipe_some h2).1⟩, n⟩
theorem INV.wipe (I : INV c σ env s G H) (vs : List Nat) : INV c (wipe σ vs) (wipeE env vs) s G H := by
  refine ⟨I.sub, I.box, I.bfree, by rw [wipeE_length, wipe_length]; exact I.len, fun i d e => ?_, fun i l e => ?_, fun i l e => ?_, fun i j a h1 h2 => I.sep i j a (isMut_wipe h1).1 (isMut_wipe h2).1⟩
  · obtain ⟨e1, n⟩ := wipeE_some e; rw [wipe_out n]; exact I.val i d e1
  · obtain ⟨e1, n⟩ := wipeE_some e; rw [wipe_out n]; exact I.mt i l e1
  · obtain ⟨e1, n⟩ := wipeE_some e; rw [wipe_out n]; exact I.dm i l e1
theorem Mv.wipe (m : Mv c σb envb G1 H1 σ env G H) (vs : List Nat) : Mv c σb envb G1 H1 (wipe σ vs) (wipeE env vs) G H :=
  ⟨m.sub, fun b o hb n => by
    obtain ⟨k1, k2, k3⟩ := m.keep b o hb n
    exact ⟨k1, k2, fun t => k3 (t.imp id fun ⟨j, h⟩ => ⟨j, (isMut_wipe h).1⟩)⟩, m.stay⟩
theorem isMut_back {j : Nat} {a : Addr} (nm : noMut e1 vs = true) (h : IsMut (backE e1 env vs) σ j a) : IsMut (wipeE env vs) (wipe σ vs) j a := by
  have out : ∀ {x : EV}, (backE e1 env vs)[j]? = some (some x) → (∀ d, x ≠ .imm d) → j ∉ vs := fun {x} e nx hj => by
    have h1 := backE_in hj e
    have h2 := List.all_eq_true.mp nm j hj
    rw [h1] at h2
    cases x with
    | imm d => exact nx d rfl
    | «mut» l => simp at h2
    | dmut l => simp at h2
  obtain ⟨⟨l, e⟩ | ⟨l, e⟩, h2⟩ := h
  · have hj := out e (fun d z => by cases z)
    rw [backE_out hj, ← wipeE_out hj] at e
    exact ⟨.inl ⟨l, e⟩, by rw [wipe_out hj]; exact h2⟩
  · have hj := out e (fun d z => by cases z)
    rw [backE_out hj, ← wipeE_out hj] at e
    exact ⟨.inr ⟨l, e⟩, by rw [wipe_out hj]; exact h2⟩
theorem INV.back (I1 : INV c σ e1 s G1 H1) (nm : noMut e1 vs = true) (I : INV c (L2.wipe σ vs) (wipeE env vs) s' G H) (sub : Same G1 G) : INV c σ (backE e1 env vs) s' G H := by
  have hl := I.len
  rw [wipeE_length, wipe_length] at hl
  refine ⟨I.sub, I.box, I.bfree, by rw [backE_length]; exact hl, fun i d e => ?_, fun i l e => ?_, fun i l e => ?_, fun i j a h1 h2 => I.sep i j a (isMut_back nm h1) (isMut_back nm h2)⟩
  · by_cases hi : i ∈ vs
    · obtain ⟨v, h1, h2⟩ := I1.val i d (backE_in hi e)
      exact ⟨v, h1, h2.mono sub⟩
    · rw [backE_out hi, ← wipeE_out hi] at e
      obtain ⟨v, h1, h2⟩ := I.val i d e
      rw [wipe_out hi] at h1
      exact ⟨v, h1, h2⟩
  · have hi : i ∉ vs := fun hi => by
      have h1 := backE_in hi e
      have h2 := List.all_eq_true.mp nm i hi
      rw [h1] at h2
      simp at h2
    rw [backE_out hi, ← wipeE_out hi] at e
    obtain ⟨a, xs, h1, h2⟩ := I.mt i l e
    rw [wipe_out hi] at h1
    exact ⟨a, xs, h1, h2⟩
  · have hi : i ∉ vs := fun hi => by
      have h1 := backE_in hi e
      have h2 := List.all_eq_true.mp nm i hi
      rw [h1] at h2
      simp at h2
    rw [backE_out hi, ← wipeE_out hi] at e
    obtain ⟨a, xs, h1, h2⟩ := I.dm i l e
    rw [wipe_out hi] at h1
    exact ⟨a, xs, h1, h2⟩
theorem Mv.back (nm : noMut e1 vs = true) (m : Mv c (L2.wipe σ vs) (wipeE e1 vs) G1 H1 (L2.wipe σ vs) (wipeE env vs) G H) : Mv c σ e1 G1 H1 σ (backE e1 env vs) G H :=
  ⟨m.sub, fun b o hb n => by
    obtain ⟨k1, k2, k3⟩ := m.keep b o hb fun t => n (t.imp id fun ⟨j, h⟩ => ⟨j, (isMut_wipe h).1⟩)
    exact ⟨k1, k2, fun t => k3 (t.imp id fun ⟨j, h⟩ => ⟨j, isMut_back nm h⟩)⟩, m.stay⟩

/-- the new list at D holds what stands for done -/
structure LcS (c : Cf) (D : Addr) (σb : St) (envb : En) (G1 H1 : Hp) (σ : St) (env : En) (s : Bx) (G H : Hp) (done : List PyData) : Prop where
  inv : INV c σ env s G H
  mv : Mv c σb envb G1 H1 σ env G H
  new : H1 D = none
  lst : ∃ acc, H D = some (.lst acc) ∧ RpAll c.K G acc done
  free : G D = none
  off : ¬ Tch c env σ D
variable {D : Addr} {done : List PyData}
theorem LcS.move (L : LcS c D σb envb G1 H1 σ env s G H done) (I : INV c σ' env' s' G' H') (m : Mv c σ env G H σ' env' G' H') : LcS c D σb envb G1 H1 σ' env' s' G' H' done := by
  obtain ⟨acc, h1, h2⟩ := L.lst
  obtain ⟨k1, k2, k3⟩ := m.keep D _ h1 L.off
  exact ⟨I, L.mv.trans m, L.new, ⟨acc, k1, h2.mono m.sub⟩, k2 L.free, k3⟩
theorem LcS.wipe (L : LcS c D σb envb G1 H1 σ env s G H done) (vs : List Nat) : LcS c D σb envb G1 H1 (wipe σ vs) (wipeE env vs) s G H done := L.move (L.inv.wipe vs) (Mv.refl.wipe vs)
theorem LcS.app (L : LcS c D σb envb G1 H1 σ env s G H done) {y : V} {d : PyData} (r : Rp c.K G y d) : ∃ acc, H D = some (.lst acc) ∧ acc.length = done.length ∧ LcS c D σb envb G1 H1 σ env s G (upd H D (.lst (acc ++ [y]))) (done ++ [d]) := by
  obtain ⟨acc, h1, h2⟩ := L.lst
  have I := L.inv
  have no : ∀ {i a}, IsMut env σ i a → a ≠ D := fun h z => L.off (.inr ⟨_, by rw [← z]; exact h⟩)
  refine ⟨acc, h1, h2.length, ⟨fun b u e => ?_, fun B C e => ?_, I.bfree, I.len, I.val, fun i l e => ?_, fun i l e => ?_, I.sep⟩, ⟨L.mv.sub, fun b o hb n => ?_, fun b o hb => ?_⟩, L.new, ⟨_, upd_same, h2.snoc r⟩, L.free, L.off⟩
  · rw [upd_ne (ne_of_none e L.free)]; exact I.sub b u e
  · obtain ⟨t, hf, k1, k2, k3⟩ := I.box B C e
    exact ⟨t, hf, by rw [upd_ne (fun z => L.off (.inl ⟨B, C, e, .inl z.symm⟩))]; exact k1, by rw [upd_ne (fun z => L.off (.inl ⟨B, C, e, .inr z.symm⟩))]; exact k2, k3⟩
  · obtain ⟨a, xs, k1, k2, k3⟩ := I.mt i l e
    exact ⟨a, xs, k1, by rw [upd_ne (no ⟨.inl ⟨l, e⟩, k1⟩)]; exact k2, k3⟩
  · obtain ⟨a, xs, k1, k2, k3⟩ := I.dm i l e
    exact ⟨a, xs, k1, by rw [upd_ne (no ⟨.inr ⟨l, e⟩, k1⟩)]; exact k2, k3⟩
  · obtain ⟨k1, k2, k3⟩ := L.mv.keep b o hb n
    exact ⟨by rw [upd_ne (ne_of_none hb L.new)]; exact k1, k2, k3⟩
  · obtain ⟨o', k⟩ := L.mv.stay b o hb
    exact ⟨o', by rw [upd_ne (ne_of_none hb L.new)]; exact k⟩
end

def lcGo (g : TgF) (tt : M Bool) (te : M PyData) (vs : List Nat) : List PyData → M (List PyData)
  | [] => pur []
  | d :: ds => fun env s => match g d (wipeE env vs) with
    | none => none
    | some e1 => match tt e1 s with
      | some (true, e2, s2) => match te e2 s2 with
        | some (y, e3, s3) => if notBox y then match lcGo g tt te vs ds e3 s3 with
            | some (r, e4, s4) => some (y :: r, e4, s4)
            | none => none
          else none
        | none => none
      | some (false, e2, s2) => lcGo g tt te vs ds e2 s2
      | none => none
def fLc (f : M (List PyData)) (g : TgF) (tt : M Bool) (te : M PyData) (vs : List Nat) : M (List PyData) := fun env s => match f env s with
  | some (ds, e1, s1) => if noMut e1 vs then match lcGo g tt te vs ds e1 s1 with
      | some (r, e2, s2) => if r.length ≤ Ln then some (r, backE e1 e2 vs, s2) else none
      | none => none
    else none
  | none => none
abbrev TsOk (X : Cx) (bx : Option (Addr × Addr)) (ifs : List Expr) (tt : M Bool) : Prop := PTs X ifs (rdT ⟨X.K, bx⟩ tt)
section
variable {X : Cx} {bx : Option (Addr × Addr)} {pos : Pos} {c' e : Expr} {tt : M Bool}
theorem tsNo : TsOk X bx [] (pur true) := ⟨fun pins s σ H Q I ⟨G, q⟩ => (pts_nil (X := X)).run pins s σ H Q I (let ⟨_, J, k⟩ := q.pure; k _ _ _ J Mv.refl rfl)⟩
theorem tsOne (h : ET X bx e tt) : TsOk X bx [e] tt := pts_one h
end
/-- one turn: the target, the tests, the item -/
theorem lc_turn {c : Cf} {D : Addr} {σb σ : St} {envb env : En} {G1 H1 G H : Hp} {s : Bx} {done : List PyData} {vs is : List Nat} {g : TgF} {tt : M Bool} {te : M PyData} {x : V} {d : PyData} {ds r' : List PyData} {eE : En} {sE : Bx} {J : Hp → Prop}
    (L : LcS c D σb envb G1 H1 (wipe σ vs) (wipeE env vs) s G H done) (hv : ∀ j ∈ is, j ∈ vs) (rx : RpX c G x d) (e : lcGo g tt te vs (d :: ds) env s = some (r', eE, sE)) (hn : done.length + r'.length ≤ Ln)
    (hJ : ∀ (env2 : En) (s2 : Bx) (G2 H2 : Hp) (done2 r2 : List PyData), LcS c D σb envb G1 H1 (wipe σ vs) (wipeE env2 vs) s2 G2 H2 done2 → Same G G2 → lcGo g tt te vs ds env2 s2 = some (r2, eE, sE) → done2 ++ r2 = done ++ r' → J H2) :
    rdTg c is g x (wipe σ vs) H fun σ2 H2 => wipe σ2 vs = wipe σ vs ∧ rdT c tt σ2 H2 fun b H3 =>
      if b = true then rdE c te σ2 H3 fun y H4 => ∃ acc, H4 D = some (.lst acc) ∧ acc.length < sizeLine ∧ J (upd H4 D (.lst (acc ++ [y]))) else J H3 := by
  have hz := ln_eq
  simp only [lcGo] at e
  cases eg : g d (wipeE env vs) with
  | none => rw [eg] at e; cases e
  | some e1 =>
    simp only [eg] at e
    refine ⟨G, _, s, d, e1, L.inv, rx, eg, fun σ2 I2 m2 o2 => ?_⟩
    have w2 := wipe_tg o2 hv
    refine ⟨w2, ?_⟩
    cases et : tt e1 s with
    | none => rw [et] at e; cases e
    | some q =>
      obtain ⟨b, e2, s2⟩ := q
      refine ⟨G, e1, s, b, e2, s2, I2, et, fun v G3 H3 I3 m3 r => ?_⟩
      cases r
      have L3 := (L.move I2 m2).move I3 m3
      cases b with
      | false =>
        simp only [et] at e
        rw [if_neg (by decide)]
        have L4 := L3.wipe vs
        rw [w2] at L4
        exact hJ e2 s2 G3 H3 done r' L4 m3.sub e rfl
      | true =>
        simp only [et] at e
        rw [if_pos rfl]
        cases ee : te e2 s2 with
        | none => rw [ee] at e; cases e
        | some q =>
          obtain ⟨y, e3, s3⟩ := q
          simp only [ee] at e
          split at e
          · rename_i nb
            cases er : lcGo g tt te vs ds e3 s3 with
            | none => rw [er] at e; cases e
            | some q =>
              obtain ⟨r, e4, s4⟩ := q
              rw [er] at e
              simp only [Option.some.injEq, Prod.mk.injEq] at e
              obtain ⟨rfl, rfl, rfl⟩ := e
              refine ⟨G3, e2, s2, y, e3, s3, I3, ee, fun yv G4 H4 I4 m4 ry => ?_⟩
              obtain ⟨acc, h1, h2, L5⟩ := (L3.move I4 m4).app (ry.rp nb)
              have hl : (y :: r).length = r.length + 1 := rfl
              refine ⟨acc, h1, by omega, ?_⟩
              have L6 := L5.wipe vs
              rw [w2] at L6
              exact hJ e3 s3 G4 _ (done ++ [y]) r L6 (m3.sub.trans m4.sub) er (by simp)
          · cases e
/-- the end of the block -/
theorem lc_end {c : Cf} {D : Addr} {σ : St} {env e1 env2 : En} {G H G1 H1 G2 H2 : Hp} {s1 s2 : Bx} {r : List PyData} {vs : List Nat} {Q : VK} (I1 : INV c σ e1 s1 G1 H1) (m1 : Mv c σ env G H σ e1 G1 H1) (nm : noMut e1 vs = true)
    (L : LcS c D (wipe σ vs) (wipeE e1 vs) G1 H1 (wipe σ vs) (wipeE env2 vs) s2 G2 H2 r)
    (k : ∀ (p : Addr) (xs : List V) (G' H' : Hp), INV c σ (backE e1 env2 vs) s2 G' H' → Mv c σ env G H σ (backE e1 env2 vs) G' H' → H p = none → H' p = some (.lst xs) → G' p = none → RpAll c.K G' xs r → ¬ Tch c (backE e1 env2 vs) σ p → Q (.ref p) H') : Q (.ref D) H2 := by
  obtain ⟨acc, h1, h2⟩ := L.lst
  refine k D acc G2 H2 (I1.back nm L.inv L.mv.sub) (m1.trans (Mv.back nm L.mv)) (m1.fresh L.new) h1 L.free h2 fun t => L.off (t.imp id fun ⟨j, h⟩ => ⟨j, isMut_back nm h⟩)
/-- the start of the block -/
theorem lc_start {c : Cf} {D : Addr} {σ : St} {e1 : En} {G1 H1 : Hp} {s1 : Bx} {vs : List Nat} (I1 : INV c σ e1 s1 G1 H1) (hD : H1 D = none) : LcS c D (wipe σ vs) (wipeE e1 vs) G1 H1 (wipe σ vs) (wipeE e1 vs) s1 G1 (upd H1 D (.lst [])) [] := by
  obtain ⟨J, m⟩ := (I1.wipe vs).base.allocM hD (.lst [])
  exact ⟨(I1.wipe vs).lift J m, m.lift, hD, ⟨[], upd_same, .nil⟩, I1.free hD, tch_not (I1.wipe vs) hD⟩
section
variable {X : Cx} {bx : Option (Addr × Addr)} {pos : Pos} {elt tg iter : Expr} {ifs : List Expr} {scope : Scope} {own : List (Str × Nat)} {f : M (List PyData)} {is : List Nat} {g : TgF} {tt : M Bool} {te : M PyData}
theorem lc_run {c : Cf} {vs : List Nat} (hv : ∀ j ∈ is, j ∈ vs) {σ : St} {H : Hp} {Q : VK} (h : rdF c (fLc f g tt te vs) σ H Q) : tLc (rdI c f) (rdTg c is g) (rdT c tt) (rdE c te) vs σ H Q := by
  obtain ⟨G, env, s, r, env', s', I, e, k⟩ := h
  simp only [fLc] at e
  split at e
  · rename_i ds e1 s1 ef
    split at e
    · rename_i nm
      split at e
      · rename_i r1 eE sE er
        split at e
        · rename_i hlen
          simp only [Option.some.injEq, Prod.mk.injEq] at e
          obtain ⟨rfl, rfl, rfl⟩ := e
          refine ⟨G, env, s, ds, e1, s1, I, ef, fun J G1 H1 I1 m1 wk D hD => ?_⟩
          obtain ⟨Gd, Y, w, hGd, hY⟩ := wk
          refine lc_it w (fun i H2 => ∃ G2 env2 s2 done r2, LcS c D (wipe σ vs) (wipeE e1 vs) G1 H1 (wipe σ vs) (wipeE env2 vs) s2 G2 H2 done ∧ lcGo g tt te vs (ds.drop i) env2 s2 = some (r2, eE, sE) ∧ done ++ r2 = r1)
            ⟨G1, e1, s1, [], r1, lc_start I1 hD, by simpa using er, rfl⟩ (fun i H2 hi ⟨G2, env2, s2, done, r2, L, _⟩ => hGd H2 (L.mv.sub.trans L.inv.sub)) ?_ ?_
          · rintro i x H2 H3 hi ⟨G2, env2, s2, done, r2, L, e2, hr⟩ y
            have hd : ds[i]? = some ds[i] := List.getElem?_eq_getElem hi
            rw [List.drop_eq_getElem_cons hi] at e2
            obtain ⟨G3, J3, m3, r3⟩ := hY i x s2 G2 H2 H3 _ hd L.mv.sub L.inv.base y
            refine lc_turn (L.move (L.inv.lift J3 m3) m3.lift) hv r3 e2 ?_ fun env4 s4 G4 H4 done4 r4 L4 _ e4 h4 => ⟨G4, env4, s4, done4, r4, L4, e4, by rw [h4, hr]⟩
            rw [← List.length_append, hr]
            exact hlen
          · rintro H2 ⟨G2, env2, s2, done, r2, L, e2, hr⟩
            rw [List.drop_length] at e2
            simp only [lcGo, pur, Option.some.injEq, Prod.mk.injEq] at e2
            obtain ⟨rfl, rfl, rfl⟩ := e2
            rw [List.append_nil] at hr
            subst hr
            exact lc_end I1 m1 nm L k
        · cases e
      · cases e
    · cases e
  · cases e
/-- [elt for target in iter if ..] -/
theorem eLc (hc : X.calm = true) (hN : X.N.Nodup) (hi : EI X bx tg iter f) (ok : BlkOk X.N X.env.scope scope own)
    (hg : ∀ (s : Shared) (H : Hp) (C : Addr) (cl : List (Str × Addr)) (fp : List Addr), ETg (X.blk s H scope (compEnvC scope cl C X.env) fp) bx tg is g) (ht : ∀ (s : Shared) (H : Hp) (C : Addr) (cl : List (Str × Addr)) (fp : List Addr), TsOk (X.blk s H scope (compEnvC scope cl C X.env) fp) bx ifs tt)
    (he : ∀ (s : Shared) (H : Hp) (C : Addr) (cl : List (Str × Addr)) (fp : List Addr), EE (X.blk s H scope (compEnvC scope cl C X.env) fp) bx elt te) (hv : ∀ j ∈ is, j ∈ own.map (·.2) := by decide) (hs : ∀ x, foldedSetIterable iter X.env x = pure x := by intro _; rfl) :
    EF X bx (.ListComp elt [⟨tg, iter, ifs, 0⟩] scope pos) (fLc f g tt te (own.map (·.2))) :=
  peI (pe_lc hc hN hi ok hg ht he hs) fun _ _ _ h => lc_run hv h
/-- name = [elt for target in iter if ..] on one line -/
theorem sAsgLc {i : Nat} {y : Str} {py spos : Pos} (hc : X.calm = true) (hN : X.N.Nodup) (hi : EI X bx tg iter f) (ok : BlkOk X.N X.env.scope scope own)
    (hg : ∀ (s : Shared) (H : Hp) (C : Addr) (cl : List (Str × Addr)) (fp : List Addr), ETg (X.blk s H scope (compEnvC scope cl C X.env) fp) bx tg is g) (ht : ∀ (s : Shared) (H : Hp) (C : Addr) (cl : List (Str × Addr)) (fp : List Addr), TsOk (X.blk s H scope (compEnvC scope cl C X.env) fp) bx ifs tt)
    (he : ∀ (s : Shared) (H : Hp) (C : Addr) (cl : List (Str × Addr)) (fp : List Addr), EE (X.blk s H scope (compEnvC scope cl C X.env) fp) bx elt te) (hy : X.N[i]? = some y := by rfl) (hyl : X.env.scope.names.lookup y = some .local := by rfl)
    (hsw : swapsWith (.ListComp elt [⟨tg, iter, ifs, 0⟩] scope pos) (some (.Name y py)) spos.line X.env = pure true := by rfl) (hv : ∀ j ∈ is, j ∈ own.map (·.2) := by decide) (hs : ∀ x, foldedSetIterable iter X.env x = pure x := by intro _; rfl) :
    ES X bx (.Assign [.Name y py] (.ListComp elt [⟨tg, iter, ifs, 0⟩] scope pos) spos) (sSet i (vMut (fLc f g tt te (own.map (·.2))))) :=
  psI (ps_setLc hc hN hy hyl hsw hi ok hg ht he hs) fun D σ H h => by
    obtain ⟨G, env, s, o, env', s', I, e, k⟩ := h
    simp only [sSet, vMut, bnd] at e
    split at e
    · rename_i a e1 s1 ef
      split at ef
      · rename_i r e2 s2 ef2
        cases ef
        simp only [Option.some.injEq, Prod.mk.injEq] at e
        obtain ⟨rfl, rfl, rfl⟩ := e
        exact lc_run hv ⟨G, env, s, r, _, _, I, ef2, fun p xs G' H' J m h0 h1 h2 h3 h4 => by
          have r2 : RpV ⟨X.K, bx⟩ σ _ G' H H' (.ref p) (.mut r) := ⟨p, xs, rfl, h0, h1, h2, h3, h4⟩
          exact k _ G' H' (J.put r2 i) (m.put r2 i)⟩
      · cases ef
    · cases e
end

/-! ### two fors in one comprehension -/
def lc2Go (g : TgF) (tt : M Bool) (f1 : M (List PyData)) (g1 : TgF) (tt1 : M Bool) (te : M PyData) (vs vs1 : List Nat) : List PyData → M (List PyData)
  | [] => pur []
  | d :: ds => fun env s => match g d (wipeE env vs) with
    | none => none
    | some e1 => match tt e1 s with
      | some (true, e2, s2) => match f1 e2 s2 with
        | some (ds1, e3, s3) => match lcGo g1 tt1 te vs1 ds1 e3 s3 with
          | some (r1, e4, s4) => match lc2Go g tt f1 g1 tt1 te vs vs1 ds e4 s4 with
            | some (r, e5, s5) => some (r1 ++ r, e5, s5)
            | none => none
          | none => none
        | none => none
      | some (false, e2, s2) => lc2Go g tt f1 g1 tt1 te vs vs1 ds e2 s2
      | none => none
def fLc2 (f : M (List PyData)) (g : TgF) (tt : M Bool) (f1 : M (List PyData)) (g1 : TgF) (tt1 : M Bool) (te : M PyData) (vs vs1 : List Nat) : M (List PyData) := fun env s => match f env s with
  | some (ds, e1, s1) => if noMut e1 vs then match lc2Go g tt f1 g1 tt1 te vs vs1 ds e1 s1 with
      | some (r, e2, s2) => if r.length ≤ Ln then some (r, backE e1 e2 vs, s2) else none
      | none => none
    else none
  | none => none
section
variable {X : Cx} {bx : Option (Addr × Addr)} {pos : Pos} {elt tg iter tg1 iter1 : Expr} {ifs ifs1 : List Expr} {scope : Scope} {own : List (Str × Nat)} {f f1 : M (List PyData)} {is is1 : List Nat} {g g1 : TgF} {tt tt1 : M Bool} {te : M PyData}
theorem lc2_run {c : Cf} {vs vs1 : List Nat} (hv : ∀ j ∈ is, j ∈ vs) (hv1 : ∀ j ∈ is1, j ∈ vs1) (hvv : ∀ j ∈ vs1, j ∈ vs) {σ : St} {H : Hp} {Q : VK} (h : rdF c (fLc2 f g tt f1 g1 tt1 te vs vs1) σ H Q) :
    tLc2 (rdI c f) (rdTg c is g) (rdT c tt) (rdI c f1) (rdTg c is1 g1) (rdT c tt1) (rdE c te) vs vs1 σ H Q := by
  obtain ⟨G, env, s, r, env', s', I, e, k⟩ := h
  simp only [fLc2] at e
  split at e
  · rename_i ds e1 s1 ef
    split at e
    · rename_i nm
      split at e
      · rename_i rr eE sE er
        split at e
        · rename_i hlen
          simp only [Option.some.injEq, Prod.mk.injEq] at e
          obtain ⟨rfl, rfl, rfl⟩ := e
          refine ⟨G, env, s, ds, e1, s1, I, ef, fun J G1 H1 I1 m1 wk D hD => ?_⟩
          obtain ⟨Gd, Y, w, hGd, hY⟩ := wk
          let Pv : Nat → Hp → Prop := fun i H2 => ∃ G2 env2 s2 done r2, LcS c D (wipe σ vs) (wipeE e1 vs) G1 H1 (wipe σ vs) (wipeE env2 vs) s2 G2 H2 done ∧ lc2Go g tt f1 g1 tt1 te vs vs1 (ds.drop i) env2 s2 = some (r2, eE, sE) ∧ done ++ r2 = rr
          refine ⟨fun i m H => m = ds.length - i ∧ i ≤ ds.length ∧ Pv i H, ⟨ds.length, by simp, Nat.zero_le _, G1, e1, s1, [], rr, lc_start I1 hD, by simpa using er, rfl⟩, ?_⟩
          rintro i m H2 ⟨rfl, hi, G2, env2, s2, done, r2, L, e2, hr⟩
          have hGi := hGd H2 (L.mv.sub.trans L.inv.sub)
          by_cases hlt : i < ds.length
          · refine .inr ⟨w.goes i H2 hlt hGi, Pv (i + 1), fun H' p' => ⟨ds.length - (i + 1), by omega, rfl, hlt, p'⟩, fun x H3 y0 => ?_⟩
            have y := w.yields i H2 x H3 hlt hGi y0
            have hd : ds[i]? = some ds[i] := List.getElem?_eq_getElem hlt
            rw [List.drop_eq_getElem_cons hlt] at e2
            obtain ⟨G3, J3, m3, rx⟩ := hY i x s2 G2 H2 H3 _ hd L.mv.sub L.inv.base y
            have L3 := L.move (L.inv.lift J3 m3) m3.lift
            simp only [lc2Go] at e2
            cases eg : g ds[i] (wipeE env2 vs) with
            | none => rw [eg] at e2; cases e2
            | some e3 =>
              simp only [eg] at e2
              refine ⟨G3, _, s2, _, e3, L3.inv, rx, eg, fun σ2 I2 m2 o2 => ?_⟩
              have w2 := wipe_tg o2 hv
              refine ⟨w2, ?_⟩
              cases et : tt e3 s2 with
              | none => rw [et] at e2; cases e2
              | some q =>
                obtain ⟨b, e4, s4⟩ := q
                refine ⟨G3, e3, s2, b, e4, s4, I2, et, fun v G4 H4 I4 m4 rb => ?_⟩
                cases rb
                have L4 := (L3.move I2 m2).move I4 m4
                cases b with
                | false =>
                  simp only [et] at e2
                  rw [if_neg (by decide)]
                  have L5 := L4.wipe vs
                  rw [w2] at L5
                  exact ⟨G4, e4, s4, done, r2, L5, e2, hr⟩
                | true =>
                  simp only [et] at e2
                  rw [if_pos rfl]
                  cases ei : f1 e4 s4 with
                  | none => rw [ei] at e2; cases e2
                  | some q =>
                    obtain ⟨ds1, e5, s5⟩ := q
                    simp only [ei] at e2
                    cases el : lcGo g1 tt1 te vs1 ds1 e5 s5 with
                    | none => rw [el] at e2; cases e2
                    | some q =>
                      obtain ⟨r1, e6, s6⟩ := q
                      simp only [el] at e2
                      cases e7 : lc2Go g tt f1 g1 tt1 te vs vs1 (ds.drop (i + 1)) e6 s6 with
                      | none => rw [e7] at e2; cases e2
                      | some q =>
                        obtain ⟨r3, e8, s8⟩ := q
                        rw [e7] at e2
                        simp only [Option.some.injEq, Prod.mk.injEq] at e2
                        obtain ⟨rfl, rfl, rfl⟩ := e2
                        refine ⟨G4, e4, s4, ds1, e5, s5, I4, ei, fun J1 G5 H5 I5 m5 wk1 => ?_⟩
                        obtain ⟨Gd1, Y1, w1, hGd1, hY1⟩ := wk1
                        have L5 := L4.move I5 m5
                        refine ⟨fun j n H => n = ds1.length - j ∧ j ≤ ds1.length ∧ ∃ G6 env6 s7 done6 r6, LcS c D (wipe σ vs) (wipeE e1 vs) G1 H1 (wipe σ2 vs1) (wipeE env6 vs1) s7 G6 H done6 ∧ Same G5 G6 ∧ lcGo g1 tt1 te vs1 (ds1.drop j) env6 s7 = some (r6, e6, s6) ∧ done6 ++ r6 = done ++ r1,
                          ⟨ds1.length, by simp, Nat.zero_le _, G5, e5, s5, done, r1, L5.wipe vs1, Same.refl _, by simpa using el, rfl⟩, ?_⟩
                        rintro j n H6 ⟨rfl, hj, G6, env6, s7, done6, r6, L6, sub6, el6, hr6⟩
                        have hG1 := hGd1 H6 (sub6.trans L6.inv.sub)
                        by_cases hlt1 : j < ds1.length
                        · refine .inr ⟨w1.goes j H6 hlt1 hG1, fun H => ∃ G6 env6 s7 done6 r6, LcS c D (wipe σ vs) (wipeE e1 vs) G1 H1 (wipe σ2 vs1) (wipeE env6 vs1) s7 G6 H done6 ∧ Same G5 G6 ∧ lcGo g1 tt1 te vs1 (ds1.drop (j + 1)) env6 s7 = some (r6, e6, s6) ∧ done6 ++ r6 = done ++ r1,
                            fun H' p' => ⟨ds1.length - (j + 1), by omega, rfl, hlt1, p'⟩, fun x H7 y1 => ?_⟩
                          have y2 := w1.yields j H6 x H7 hlt1 hG1 y1
                          have hd1 : ds1[j]? = some ds1[j] := List.getElem?_eq_getElem hlt1
                          rw [List.drop_eq_getElem_cons hlt1] at el6
                          obtain ⟨G7, J7, m7, rx7⟩ := hY1 j x s7 G6 H6 H7 _ hd1 sub6 L6.inv.base y2
                          refine lc_turn (L6.move (L6.inv.lift J7 m7) m7.lift) hv1 rx7 el6 ?_ fun env4 s4 G8 H8 done4 r4 L4 sub4 e4 h4 => ⟨G8, env4, s4, done4, r4, L4, (sub6.trans m7.sub).trans sub4, e4, by rw [h4, hr6]⟩
                          have z1 := congrArg List.length hr6
                          have z2 := congrArg List.length hr
                          simp only [List.length_append] at z1 z2
                          omega
                        · have ej : j = ds1.length := by omega
                          subst ej
                          rw [List.drop_length] at el6
                          simp only [lcGo, pur, Option.some.injEq, Prod.mk.injEq] at el6
                          obtain ⟨rfl, rfl, rfl⟩ := el6
                          rw [List.append_nil] at hr6
                          have L7 := L6.wipe vs
                          rw [wipe_wipe σ2 hvv, w2, wipeE_wipe env6 hvv] at L7
                          exact .inl ⟨w1.stops H6 hG1, G6, env6, s7, done6, r3, L7, e7, by rw [hr6, ← hr, List.append_assoc]⟩
          · have ei : i = ds.length := by omega
            subst ei
            rw [List.drop_length] at e2
            simp only [lc2Go, pur, Option.some.injEq, Prod.mk.injEq] at e2
            obtain ⟨rfl, rfl, rfl⟩ := e2
            rw [List.append_nil] at hr
            subst hr
            exact .inl ⟨w.stops H2 hGi, lc_end I1 m1 nm L k⟩
        · cases e
      · cases e
    · cases e
  · cases e
theorem eLc2 (hc : X.calm = true) (hN : X.N.Nodup) (hi : EI X bx tg iter f) (ok : BlkOk X.N X.env.scope scope own)
    (hg : ∀ (s : Shared) (H : Hp) (C : Addr) (cl : List (Str × Addr)) (fp : List Addr), ETg (X.blk s H scope (compEnvC scope cl C X.env) fp) bx tg is g) (ht : ∀ (s : Shared) (H : Hp) (C : Addr) (cl : List (Str × Addr)) (fp : List Addr), TsOk (X.blk s H scope (compEnvC scope cl C X.env) fp) bx ifs tt)
    (hi1 : ∀ (s : Shared) (H : Hp) (C : Addr) (cl : List (Str × Addr)) (fp : List Addr), EI (X.blk s H scope (compEnvC scope cl C X.env) fp) bx tg1 iter1 f1)
    (hg1 : ∀ (s : Shared) (H : Hp) (C : Addr) (cl : List (Str × Addr)) (fp : List Addr), ETg (X.blk s H scope (compEnvC scope cl C X.env) fp) bx tg1 is1 g1) (ht1 : ∀ (s : Shared) (H : Hp) (C : Addr) (cl : List (Str × Addr)) (fp : List Addr), TsOk (X.blk s H scope (compEnvC scope cl C X.env) fp) bx ifs1 tt1)
    (he : ∀ (s : Shared) (H : Hp) (C : Addr) (cl : List (Str × Addr)) (fp : List Addr), EE (X.blk s H scope (compEnvC scope cl C X.env) fp) bx elt te) (hv : ∀ j ∈ is, j ∈ own.map (·.2) := by decide) (hvv : ∀ j ∈ is1, j ∈ own.map (·.2) := by decide)
    (hs : ∀ x, foldedSetIterable iter X.env x = pure x := by intro _; rfl) (hs1 : ∀ env x, foldedSetIterable iter1 env x = pure x := by intro _ _; rfl) :
    EF X bx (.ListComp elt [⟨tg, iter, ifs, 0⟩, ⟨tg1, iter1, ifs1, 0⟩] scope pos) (fLc2 f g tt f1 g1 tt1 te (own.map (·.2)) is1) :=
  peI (pe_lc2 hc hN hi ok hvv hg ht hi1 hg1 ht1 he hs hs1) fun _ _ _ h => lc2_run hv (fun _ h => h) hvv h
theorem sAsgLc2 {i : Nat} {y : Str} {py spos : Pos} (hc : X.calm = true) (hN : X.N.Nodup) (hi : EI X bx tg iter f) (ok : BlkOk X.N X.env.scope scope own)
    (hg : ∀ (s : Shared) (H : Hp) (C : Addr) (cl : List (Str × Addr)) (fp : List Addr), ETg (X.blk s H scope (compEnvC scope cl C X.env) fp) bx tg is g) (ht : ∀ (s : Shared) (H : Hp) (C : Addr) (cl : List (Str × Addr)) (fp : List Addr), TsOk (X.blk s H scope (compEnvC scope cl C X.env) fp) bx ifs tt)
    (hi1 : ∀ (s : Shared) (H : Hp) (C : Addr) (cl : List (Str × Addr)) (fp : List Addr), EI (X.blk s H scope (compEnvC scope cl C X.env) fp) bx tg1 iter1 f1)
    (hg1 : ∀ (s : Shared) (H : Hp) (C : Addr) (cl : List (Str × Addr)) (fp : List Addr), ETg (X.blk s H scope (compEnvC scope cl C X.env) fp) bx tg1 is1 g1) (ht1 : ∀ (s : Shared) (H : Hp) (C : Addr) (cl : List (Str × Addr)) (fp : List Addr), TsOk (X.blk s H scope (compEnvC scope cl C X.env) fp) bx ifs1 tt1)
    (he : ∀ (s : Shared) (H : Hp) (C : Addr) (cl : List (Str × Addr)) (fp : List Addr), EE (X.blk s H scope (compEnvC scope cl C X.env) fp) bx elt te) (hy : X.N[i]? = some y := by rfl) (hyl : X.env.scope.names.lookup y = some .local := by rfl)
    (hsw : swapsWith (.ListComp elt [⟨tg, iter, ifs, 0⟩, ⟨tg1, iter1, ifs1, 0⟩] scope pos) (some (.Name y py)) spos.line X.env = pure true := by rfl) (hv : ∀ j ∈ is, j ∈ own.map (·.2) := by decide) (hvv : ∀ j ∈ is1, j ∈ own.map (·.2) := by decide)
    (hs : ∀ x, foldedSetIterable iter X.env x = pure x := by intro _; rfl) (hs1 : ∀ env x, foldedSetIterable iter1 env x = pure x := by intro _ _; rfl) :
    ES X bx (.Assign [.Name y py] (.ListComp elt [⟨tg, iter, ifs, 0⟩, ⟨tg1, iter1, ifs1, 0⟩] scope pos) spos) (sSet i (vMut (fLc2 f g tt f1 g1 tt1 te (own.map (·.2)) is1))) :=
  psI (ps_setLc2 hc hN hy hyl hsw hi ok hvv hg ht hi1 hg1 ht1 he hs hs1) fun D σ H h => by
    obtain ⟨G, env, s, o, env', s', I, e, k⟩ := h
    simp only [sSet, vMut, bnd] at e
    split at e
    · rename_i a e1 s1 ef
      split at ef
      · rename_i r e2 s2 ef2
        cases ef
        simp only [Option.some.injEq, Prod.mk.injEq] at e
        obtain ⟨rfl, rfl, rfl⟩ := e
        exact lc2_run hv (fun _ h => h) hvv ⟨G, env, s, r, _, _, I, ef2, fun p xs G' H' J m h0 h1 h2 h3 h4 => by
          have r2 : RpV ⟨X.K, bx⟩ σ _ G' H H' (.ref p) (.mut r) := ⟨p, xs, rfl, h0, h1, h2, h3, h4⟩
          exact k _ G' H' (J.put r2 i) (m.put r2 i)⟩
      · cases ef
    · cases e
end
end Ev
end
section
set_option Elab.async false
set_option linter.all false
set_option maxRecDepth 100000
/-! Ev11: enumerate of a tuple. -/
namespace Ev
open PySem PySem.Spec L2
set_option autoImplicit false
open AutoSeq1 (wpAny_loadPart') in
set_option maxHeartbeats 1000000 in
theorem meets_enumerate_newT {v : Value} {o : Obj} {H : Heap → Prop} (B : Begins v o H) :
    Meets (Builtin.«enumerate.__new__» ⟨[.type "enumerate", v], []⟩) (fun _ R s => H s.heap ∧
      R (.ok (.ret (.ref (s.heap.push o).objs.size))) { s with heap := (s.heap.push o).push { cls := .type "enumerate", data := .fields #[.none, .bool false, .ref s.heap.objs.size, rawInt 0, .none, .none] } }) :=
  .of_wp fun prog w A R s h => by
    obtain ⟨hp, g, d, tk, os⟩ := s; obtain ⟨h1, h⟩ := h
    have hsub := sub_enumerate
    have q1 : ∀ {A' : Around} {E : Value → Shared → Prop} {Q : Value → Shared → Prop}, Q (.ref hp.objs.size) ⟨hp.push o, g, d, tk, os⟩ → wpAny (model prog w) A' (pyIter v) Q E ⟨hp, g, d, tk, os⟩ :=
      fun q => B.iter prog w _ _ ⟨hp, g, d, tk, os⟩ _ h1 q
    wp_walk using q1
    refine wpAny_stack_any fun st => wpAny_pure ?_
    split
    · rename_i c _ _ _ _ _
      cases (c == Value.type "enumerate")
      · wp_walk using q1
        exact ⟨_, rfl, h⟩
      · wp_walk using q1
        exact ⟨_, rfl, h⟩
    · wp_walk using q1
      exact ⟨_, rfl, h⟩
section
variable {prog : Program} {w : World} {A : Around} {E : Value → Shared → Prop} {s : Shared}
theorem enum_begins1 {v : Value} {o : Obj} {H : Heap → Prop} {Q : Value → Shared → Prop} (B : Begins v o H) (h1 : H s.heap)
    (h : ∀ h', IsEnum h' (s.heap.objs.size + 1) s.heap.objs.size 0 .none → h'.get? s.heap.objs.size = some o → h'.objs.size = s.heap.objs.size + 2 →
      (∀ b o, s.heap.get? b = some o → h'.get? b = some o) → Q (.ref (s.heap.objs.size + 1)) { s with heap := h' }) :
    wpAny (model prog w) A (call (.type "enumerate") [v]) Q E s := by
  refine callType_new F.called_enumerate (by decide) (F.typeCall_enumerate_1 _) (F.newCall_enumerate_1 _) (fun obj => F.args_object_init_2 obj _) F.entry_enumerate_new
    (meets_enumerate_newT B) ⟨h1, ?_⟩
  have hz : (s.heap.push o).objs.size = s.heap.objs.size + 1 := Heap.size_push ..
  show _ ∧ _
  rw [hz]
  have he : IsEnum ((s.heap.push o).push { cls := .type "enumerate", data := .fields #[.none, .bool false, .ref s.heap.objs.size, rawInt 0, .none, .none] }) (s.heap.objs.size + 1) s.heap.objs.size 0 .none := by
    have := Heap.get?_push_size (s.heap.push o) (o := { cls := .type "enumerate", data := .fields #[.none, .bool false, .ref s.heap.objs.size, rawInt 0, .none, .none] }) rfl
    rw [hz] at this; exact this
  refine ⟨⟨_, he, rfl⟩, h _ he (Heap.get?_push_of_some _ (Heap.get?_push_size _ B.free)) (by rw [Heap.size_push, hz]) fun b o x => Heap.get?_push_of_some _ (Heap.get?_push_of_some _ x)⟩
end
/-- the tuple at a as it stands at each turn, each item in a new pair -/
def IteT (K : PySem.W.Frag) (a : Addr) : It :=
  ⟨fun i H => ∃ (xs : List V) (x : V), SqT K H a xs ∧ xs[i]? = some x, fun i H v H' => ∃ T x, v = .ref T ∧ H T = none ∧ H' = upd H T (.tup [.int (i : Nat), x]) ∧ ∀ xs, SqT K H a xs → xs[i]? = some x, fun i H => ∃ xs : List V, SqT K H a xs ∧ xs.length ≤ i⟩
theorem turn_enumT {P : Program} {w : World} {K : PySem.W.Frag} {elts : List Expr} {kk : Nat} {tpos : Pos} (a e it : Addr) (hea : e ≠ a) (hia : it ≠ a) :
    Turn P w K (.Tuple elts kk tpos) (IteT K a) [e, it] e (fun i h => (∃ old, IsEnum h e it ((i : Nat) : Int) old) ∧ h.IsTupleIter it a i ∧ e ≠ it) where
  mem := by simp
  obj := fun i h st b hb => by
    obtain ⟨⟨old, he⟩, ⟨o, ho, hc, hd⟩, _⟩ := st
    have e' : b = e ∨ b = it := by simpa using hb
    rcases e' with z | z
    · rw [z]; exact ⟨_, he, fun v q => nomatch q⟩
    · rw [z]; exact ⟨o, ho, fun v q => by rw [hd] at q; cases q⟩
  keep := fun i h h' st k => let ⟨⟨old, he⟩, hi, hne⟩ := st; ⟨⟨old, k e (by simp) _ he⟩, hi.at fun o q => k it (by simp) o q, hne⟩
  item := by
    intro X hP hw hK hc i pins s σ H E I hf st hg
    subst hP hw hK
    obtain ⟨⟨old, he⟩, hit, hne⟩ := st
    obtain ⟨xs, x, hq, hx⟩ := hg
    obtain ⟨its, rv, p, hz⟩ := I.tuple hq
    obtain ⟨u, hu, ru⟩ := rv.get hx
    have hel : e < s.heap.objs.size := Heap.lt_size he
    have hil : it < s.heap.objs.size := by obtain ⟨_, q, _⟩ := hit; exact Heap.lt_size q
    have hlt : i < its.toArray.size := by rw [List.size_toArray]; exact (List.getElem?_eq_some_iff.mp hu).1
    have DD := Draws.tuple (prog := X.prog) (w := X.w) (A := X.A.in1) (I.ok.hd hc) it a (Ne.symm hia) its.toArray
    refine wpAny_pyNext_enum_itemD DD he ⟨hit, show s.heap.IsTuple a its.toArray from p⟩ hlt hne (by simp [hne, hea]) fun y h' tk hy ho hit' hT hsz hk => ?_
    have hyu : y = u := by
      have hy' : its[i]? = some y := by simpa using hy
      rw [hu] at hy'
      exact (Option.some.inj hy').symm
    subst hyu
    refine ⟨_, rfl, wpAny_letOwnedTupleGo_enum (s := { s with heap := h', toks := tk + 1 }) ho fun h'' he' sb => ?_⟩
    have hT2 : h''.get? s.heap.objs.size = some { cls := .type "tuple", data := .seq #[.int i tk, y] } := (sb.2 _ (Nat.ne_of_gt hel)).trans hT
    have new : ObjOk X.prog X.w (upd H s.heap.objs.size (.tup [.int (i : Nat), x])) h'' s.heap.objs.size (.tup [.int (i : Nat), x]) :=
      ⟨by show 2 ≤ sizeLine; decide, [.int i tk, y], .cons ⟨_, rfl⟩ (.cons ru .nil), ⟨_, hT2, rfl, _, rfl⟩⟩
    have I1 : Inv X pins σ (upd H s.heap.objs.size (.tup [.int (i : Nat), x])) { s with heap := h'', toks := tk + 1 } :=
      I.turnedNew (ch := [e, it]) (fun b ob hb q => (sb.2 b (fun z => hb (by simp [z]))).trans (hk b ob (fun z => hb (by simp [z])) (fun z => hb (by simp [z])) q)) hf (Nat.le_refl _) new
    refine ⟨.ref s.heap.objs.size, _, I1, rfl, ⟨_, x, rfl, I.hok.fresh (Nat.le_refl _), rfl, fun ys hy => by rw [I.tuple_inj hy hq]; exact hx⟩, ⟨⟨y, ?_⟩, hit'.1.at fun o q => (sb.2 it (Ne.symm hne)).trans q, hne⟩, fun b hb => ?_⟩
    · have e1 : ((i + 1 : Nat) : Int) = (i : Int) + 1 := by omega
      rw [e1]; exact he'
    · have hb' : b < s.heap.objs.size := by
        have e' : b = e ∨ b = it := by simpa using hb
        rcases e' with z | z
        · rw [z]; exact hel
        · rw [z]; exact hil
      rw [upd_ne (Nat.ne_of_lt hb')]
      exact (hf b hb).1
  done := by
    intro X hP hw hK hc i pins s σ H E I hf st hg
    subst hP hw hK
    obtain ⟨⟨old, he⟩, hit, hne⟩ := st
    obtain ⟨xs, hq, hx⟩ := hg
    obtain ⟨its, rv, p, hz⟩ := I.tuple hq
    obtain ⟨f0, f1, f2, f3, f4, f5⟩ := hf it (by simp)
    have hl := rv.length
    have hT : s.TypeIs (.ref e) "enumerate" := ⟨_, he, rfl⟩
    unfold pyNext
    refine wpAny_bind (wpAny_attempt (wpAny_callSpecial?_slot (name := Str.ofString "__next__") hT F.slot_enumerate_next
      (wpAny_call_entry F.slot_enumerate_next hT F.entry_enumerate_next ?_ (F.args_enumerate_next_1 _))))
    show wpAny _ _ (field (.ref e) 2 >>= _) _ _ _
    refine wpAny_bind (wpAny_field he rfl (x := .ref it) rfl ?_)
    refine wpAny_bind (wpAny_nextOf_tuple_end (items := its.toArray) (I.ok.hd hc) hit (show s.heap.IsTuple a its.toArray from p) (by simp; omega) fun h' x he' hx' => ?_)
    obtain ⟨o, ho, hc⟩ := hx'
    refine wpAny_bind (wpAny_isInstance (T := "StopIteration") (b := true) ⟨o, ho, hc⟩ isSubtype_stop ?_)
    exact wpAny_pure ⟨rfl, I.turned (t' := s.toks) (fun b o hb q => he' b o hb q) f0 f1 f3 f4 f5⟩
  self := fun A i s Q E st h => let ⟨⟨_, he⟩, _⟩ := st; wpAny_pyIter_enum he h
def iEnumT (K : PySem.W.Frag) (ta : TA) : TI := fun σ H R => ta σ H fun vs H1 => ∃ a xs, vs = [.ref a] ∧ SqT K H1 a xs ∧ R (IteT K a) H1
theorem pi_enumT {X : Cx} {e : Expr} {ta : TA} {p pos tpos : Pos} {elts : List Expr} {kk : Nat} (hg : Gl X "enumerate") (hm : X.mg "enumerate" = none) (ha : PA X [e] ta) (hs : starEach [e] X.env = [(false, eval e X.env)] := by rfl) :
    PI X (.Tuple elts kk tpos) (.Call (.Name "enumerate" p) [e] [] pos) (iEnumT X.K ta) := by
  refine ⟨fun pins s σ H R I h => ?_⟩
  refine PyProof.Rows.Call_ (ld_blt I hg hm PyProof.Rows.boot_enumerate (PyProof.Rows.callWith_type1 (thn (ha.run pos pins s σ H _ I h) fun us s1 ⟨vs, H1, I1, r1, q1⟩ => ?_) hs rfl))
  obtain ⟨a, xs, ex, hq, q⟩ := q1
  subst ex
  cases r1 with
  | cons r rr =>
    cases rr
    cases r
    obtain ⟨its, rv, p', hz⟩ := I1.tuple hq
    have pt : s1.heap.IsTuple a its.toArray := p'
    have hal : a < s1.heap.objs.size := by obtain ⟨o, ho, _⟩ := pt; exact Heap.lt_size ho
    refine enum_begins1 (begins_tuple a its.toArray) pt fun h' he hit hsz hk => wpAny_pyIter_enum he ?_
    have I2 : Inv X pins σ H1 { s1 with heap := h' } := I1.kept (t' := s1.toks) hk
    refine ⟨s1.heap.objs.size + 1, [s1.heap.objs.size + 1, s1.heap.objs.size], _, _, H1, rfl, I2, turn_enumT a (s1.heap.objs.size + 1) s1.heap.objs.size (Nat.ne_of_gt (Nat.lt_succ_of_lt hal)) (Nat.ne_of_gt hal), ⟨⟨.none, he⟩, ⟨_, hit, rfl, rfl⟩, Nat.succ_ne_self _⟩, fun b hb => ?_, q⟩
    have e' : b = s1.heap.objs.size + 1 ∨ b = s1.heap.objs.size := by simpa using hb
    have hle : s1.heap.objs.size ≤ b := by
      rcases e' with z | z
      · rw [z]; exact Nat.le_add_right _ _
      · rw [z]; exact Nat.le_refl _
    exact I1.fpOk hle (I1.hok.fresh hle)
theorem walk_enumT {K : PySem.W.Frag} {a : Addr} {xs : List V} : Walk (IteT K a) xs.length (fun H => SqT K H a xs) (YPair (fun i => some (.int (i : Nat))) (fun i => xs[i]?)) := by
  refine ⟨fun i _ hi q => ⟨xs, xs[i], q, by simp [hi]⟩, fun _ q => ⟨xs, q, Nat.le_refl _⟩, fun i H v H' _ q y => ?_⟩
  obtain ⟨T, x, h1, h2, h3, h4⟩ := y
  exact ⟨T, .int (i : Nat), x, h1, h2, h3, rfl, h4 xs q⟩
def enumL (xs : List PyData) : List PyData := xs.zipIdx.map fun p => .tuple [.int (p.2 : Nat), p.1]
def enumD : List PyData → Option (List PyData)
  | [.list xs] => some (enumL xs)
  | [.tuple xs] => some (enumL xs)
  | _ => none
theorem enum_at {c : Cf} {G : Hp} {xs : List V} {ds : List PyData} (rx : RpAll c.K G xs ds) (i : Nat) (d : PyData) (h : (enumL ds)[i]? = some d) : ∃ a b, d = .tuple [a, b] ∧ ∀ x y, (some (V.int (i : Nat))) = some x → xs[i]? = some y → Rp c.K G x a ∧ Rp c.K G y b := by
  unfold enumL at h
  rw [List.getElem?_map, List.getElem?_zipIdx] at h
  cases e : ds[i]? with
  | none => rw [e] at h; cases h
  | some b =>
    rw [e] at h
    simp only [Option.map_some, Nat.zero_add, Option.some.injEq] at h
    subst h
    refine ⟨_, _, rfl, fun x y hx hy => ?_⟩
    cases hx
    obtain ⟨y', h3, h4⟩ := rx.get e
    rw [hy] at h3
    cases h3
    exact ⟨.int _, h4⟩
section
variable {X : Cx} {bx : Option (Addr × Addr)} {pos p tpos : Pos} {e : Expr} {elts : List Expr} {kk : Nat} {fs : M (List PyData)}
theorem iEn (hm : X.mg "enumerate" = none) (ha : EA X bx [e] fs) (hg : Gl X "enumerate" := by rfl) (hs : starEach [e] X.env = [(false, eval e X.env)] := by rfl) :
    EI X bx (.Tuple elts kk tpos) (.Call (.Name "enumerate" p) [e] [] pos) (fRng enumD fs) := piI (PI.or (pi_enum hg hm ha hs) (pi_enumT hg hm ha hs)) fun σ H R h => by
  obtain ⟨G, env, s, d, e1, s1, l, I, ef, ed, k⟩ := rng_run h
  unfold enumD at ed
  split at ed
  · rename_i xs
    cases ed
    refine .inl ⟨G, env, s, _, e1, s1, I, ef, fun vs G' H' J m r => ?_⟩
    cases r with
    | cons r1 t =>
      cases t
      obtain ⟨a, us, rfl, ha, ra⟩ := rpLst r1
      refine ⟨a, us, rfl, SqL.of (J.sub _ _ ha), k _ G' H' J m ?_⟩
      exact wk_pair (walk_enum (xs := us)) (by rw [enumL, List.length_map, List.length_zipIdx, ra.length]) (fun H2 q => SqL.of (q _ _ ha)) (enum_at ra)
  · rename_i xs
    cases ed
    refine .inr ⟨G, env, s, _, e1, s1, I, ef, fun vs G' H' J m r => ?_⟩
    cases r with
    | cons r1 t =>
      cases t
      obtain ⟨a, us, rfl, ha, ra⟩ := rpTup r1
      refine ⟨a, us, rfl, tup_mono J.sub ha, k _ G' H' J m ?_⟩
      exact wk_pair (walk_enumT (xs := us)) (by rw [enumL, List.length_map, List.length_zipIdx, ra.length]) (fun H2 q => tup_mono q ha) (enum_at ra)
  · cases ed
end
end Ev
end
section
set_option Elab.async false
set_option linter.all false
set_option maxRecDepth 100000
set_option maxHeartbeats 2000000
/-! Ev12: sets of texts (after the library's proofs for ints and truth values), sorted of one. -/
namespace EvS
open PySem PySem.Spec PyProof.Rows L2

def keyS (e : Int × Value) : Str := match e.2 with | .str k _ => k | _ => Str.empty
def GoodS (P : Program) (w : World) (e : Int × Value) : Prop := ∃ k tk, e.2 = Value.str k tk ∧ e.1 = (strKind P w).hash k
/-- the set of texts at a: S its members, n their number; its table rises and can be walked -/
def SetS (P : Program) (w : World) (h : Heap) (a : Addr) (S : Str → Bool) (n : Nat) : Prop :=
  ∃ o es ep t, h.get? a = some o ∧ o.ExactSet ∧ o.data = .set es ep t ∧ (∀ e ∈ es.toList, GoodS P w e) ∧ (es.toList.map keyS).Nodup ∧ (∀ k, S k = true ↔ k ∈ es.toList.map keyS) ∧
    es.size < scanBound ∧ t.fits es.size = true ∧ es.size = n ∧ Ris t.place.toList ∧ (w.params.followText "set-order" = true ∨ t.led = true)

section
variable {P : Program} {w : World} {h h' : Heap} {a : Addr} {S : Str → Bool} {n : Nat}

theorem SetS.at (R : SetS P w h a S n) (k : ∀ o, h.get? a = some o → h'.get? a = some o) : SetS P w h' a S n := by
  obtain ⟨o, es, ep, t, ho, r⟩ := R
  exact ⟨o, es, ep, t, k o ho, r⟩
theorem SetS.lt (R : SetS P w h a S n) : a < h.objs.size := by
  obtain ⟨o, es, ep, t, ho, r⟩ := R
  exact Heap.lt_size ho
theorem SetS.congr {S' : Str → Bool} (R : SetS P w h a S n) (e : ∀ k, S' k = S k) : SetS P w h a S' n := by
  have q : S' = S := funext e
  rw [q]; exact R
theorem goodS_elems {l : List (Int × Value)} (g : ∀ e ∈ l, GoodS P w e) : ElemsOf (strKind P w) l := fun e he => by
  obtain ⟨k, tk, h1, h2⟩ := g e he
  exact ⟨⟨k, by rw [h1]; exact strKind_is P w k tk, h2⟩, by rw [h1] <;> rfl⟩
theorem goodS_is {e : Int × Value} (g : GoodS P w e) (k : Str) : (strKind P w).is k e.2 = true ↔ keyS e = k := by
  obtain ⟨k0, tk, h1, _⟩ := g
  unfold keyS
  rw [h1]
  constructor
  · intro q
    obtain ⟨u, hu⟩ := Value.isStrOf_shape (x := k) (v := Value.str k0 tk) q
    injection hu with hx
  · intro q
    rw [← q]
    exact strKind_is P w _ _
theorem goodS_mem {l : List (Int × Value)} (g : ∀ e ∈ l, GoodS P w e) (k : Str) : k ∈ l.map keyS ↔ ∃ e ∈ l, (strKind P w).is k e.2 = true := by
  rw [List.mem_map]
  constructor
  · rintro ⟨e, he, q⟩
    exact ⟨e, he, (goodS_is (g e he) k).2 q⟩
  · rintro ⟨e, he, q⟩
    exact ⟨e, he, (goodS_is (g e he) k).1 q⟩
theorem SetS.setOf (R : SetS P w h a S n) : h.SetOf (strKind P w) a S n := by
  obtain ⟨o, es, ep, t, ho, hx, hd, g, nd, hm, hb, hf, hn, _⟩ := R
  exact ⟨o, es, ep, t, ho, hx, hd, goodS_elems g, fun k => (hm k).trans (goodS_mem g k), hb, hf, hn⟩
end

section
variable {P : Program} {w : World} {A : Around} {E : Value → Shared → Prop} {s : Shared} {a : Addr} {S : Str → Bool} {n : Nat}

/-! ### add -/
theorem storeS_at {h : Heap} {a : Addr} {o : Obj} {es es' : Array (Int × Value)} {ep : Nat} {t t' : SetTable} (ho : h.get? a = some o) (hd : o.data = .set es ep t) :
    (h.update a (Obj.putSet es' t')).get? a = some { o with data := .set es' (ep + 1) t' } := by
  have q := Heap.get?_update_self (Obj.putSet es' t') ho (by rw [putSet_of es' t' hd]; rfl)
  rw [putSet_of es' t' hd] at q
  exact q

theorem setS_add_tail {g : Bool → Sem Unit} (hg : ∀ (b : Bool) (s₁ : Shared) (Q' : Unit → Shared → Prop), Q' () s₁ → wpAny (model P w) A (g b) Q' E s₁)
    {o : Obj} {es : Array (Int × Value)} {ep : Nat} {t : SetTable} (ho : s.heap.get? a = some o) (hex : o.ExactSet) (hd : o.data = .set es ep t)
    {es1 : Array (Int × Value)} {t2 : SetTable} {S' : Str → Bool} (g1 : ∀ e ∈ es1.toList, GoodS P w e) (nd1 : (es1.toList.map keyS).Nodup) (m1 : ∀ k, S' k = true ↔ k ∈ es1.toList.map keyS)
    (hb1 : es1.size < scanBound) (hf2 : t2.fits es1.size = true) (hr : Ris t2.place.toList) (hl : w.params.followText "set-order" = true ∨ t2.led = true) {wasDummy : Bool} {R : Option Bool → Shared → Prop}
    (hR : ∀ h', Heap.SameBut a s.heap h' → SetS P w h' a S' es1.size → R (some true) { s with heap := h' }) :
    wpAny (model P w) A (do
        storeSet a es1 t2
        if (!wasDummy && t2.tooFull) = true then do
            g (relayAll t2 es1 (SetTable.grown es1.size)).2.2
            storeSet a (relayAll t2 es1 (SetTable.grown es1.size)).1 (relayAll t2 es1 (SetTable.grown es1.size)).2.1
            pure (some true)
          else pure (some true)) R E s := by
  refine wpAny_bind (wpAny_storeSet_of ho hd ?_ (fits_of_scanBound hb1))
  have ho1 := storeS_at (es' := es1) (t' := t2) ho hd
  have sb1 := Heap.SameBut.update s.heap a (Obj.putSet es1 t2)
  split
  · have pm := relayAll_perm t2 es1 (SetTable.grown es1.size)
    have hf3 := relayAll_fits t2 es1 (SetTable.grown es1.size)
    have hr3 := relayAll_ris t2 es1 (SetTable.grown es1.size)
    have hl3 := relayAll_led t2 es1 (SetTable.grown es1.size)
    generalize relayAll t2 es1 (SetTable.grown es1.size) = Z at pm hf3 hr3 hl3 ⊢
    obtain ⟨es2, t3, gave⟩ := Z
    dsimp only at pm hf3 hr3 hl3 ⊢
    have hsz : es2.size = es1.size := by rw [← Array.length_toList, pm.length_eq, Array.length_toList]
    have hb2 : es2.size < scanBound := by rw [hsz]; exact hb1
    refine wpAny_bind (hg _ _ _ ?_)
    refine wpAny_bind (wpAny_storeSet_of ho1 rfl ?_ (fits_of_scanBound hb2))
    have ho2 := storeS_at (es' := es2) (t' := t3) ho1 rfl
    refine wpAny_pure (hR _ (sb1.trans (Heap.SameBut.update _ a _)) ?_)
    exact ⟨_, es2, _, t3, ho2, hex, rfl, fun e he => g1 e (pm.mem_iff.mp he), (pm.map keyS).nodup_iff.mpr nd1, fun k => (m1 k).trans (pm.map keyS).mem_iff.symm, hb2, hf3, hsz, hr3,
      hl.imp id fun z => by rw [hl3]; exact z⟩
  · exact wpAny_pure (hR _ sb1 ⟨_, es1, _, t2, ho1, hex, rfl, g1, nd1, m1, hb1, hf2, rfl, hr, hl⟩)

theorem setS_add_hashed {k : Str} {tk : Tok} {Q : Bool → Shared → Prop} (R : SetS P w s.heap a S n) (room : n + 1 < scanBound)
    (hQ : ∀ h', Heap.SameBut a s.heap h' → SetS P w h' a (fun j => S j || decide (j = k)) (if S k = true then n else n + 1) → Q (!S k) { s with heap := h' }) :
    wpAny (model P w) A (setAddHashed a (.str k tk) ((strKind P w).hash k)) Q E s := by
  obtain ⟨o, es, ep, t, ho, hex, hd, g, nd, hm, hb, hf, hn, hr, hl⟩ := R
  have hkey : (strKind P w).is k (.str k tk) = true := strKind_is P w k tk
  have hsc : (Value.str k tk).scannable = true := rfl
  have hel : ElemsOf (strKind P w) es.toList := goodS_elems g
  unfold setAddHashed setAddHashedIn
  refine wpAny_holding (wpAny_bind (wpAny_setState_of ho hd hf ?_))
  dsimp only
  rw [byScan_of hsc hb hel]
  simp only [↓reduceIte]
  unfold setAddByScan
  refine wpAny_bind ?_
  refine wpAny_bind (wpAny_rule ?_)
  refine wpAny_bind (wpAny_setScan_of hkey ho hd hf hel ?_)
  cases hfi : List.findIdx? (fun e => (strKind P w).is k e.2) es.toList with
  | some j =>
    dsimp only
    obtain ⟨hj, pj, _⟩ := List.findIdx?_eq_some_iff_getElem.mp hfi
    have hSk : S k = true := (hm k).2 ((goodS_mem (P := P) (w := w) g k).2 ⟨es.toList[j], List.getElem_mem hj, pj⟩)
    refine wpAny_pure (wpAny_pure ?_)
    have q := hQ s.heap (Heap.SameBut.refl a s.heap) ⟨o, es, ep, t, ho, hex, hd, g, nd, fun i => by
      rw [Bool.or_eq_true, decide_eq_true_eq, ← hm i]
      exact ⟨fun z => z.elim id (fun e => e ▸ hSk), .inl⟩, hb, hf, by rw [if_pos hSk]; exact hn, hr, hl⟩
    rw [hSk] at q
    exact q
  | none =>
    dsimp only
    have hnk : k ∉ es.toList.map keyS := fun z => by
      obtain ⟨e, he, q⟩ := (goodS_mem (P := P) (w := w) g k).1 z
      have c := List.findIdx?_eq_none_iff.mp hfi e he
      rw [q] at c
      cases c
    have hSk : S k = false := by
      cases q : S k with
      | false => rfl
      | true => exact absurd ((hm k).1 q) hnk
    have hgw : ∀ (b : Bool) {s₁ : Shared} {Q' : Unit → Shared → Prop}, Q' () s₁ → wpAny (model P w) A (match b with | true => rule "set.scan.the-table-gave-way" | false => pure ()) Q' E s₁ :=
      fun b s₁ Q' q => by cases b <;> first | exact wpAny_pure q | exact wpAny_rule q
    have pm := layNew_perm t es ((strKind P w).hash k) (.str k tk)
    have hf1 := layNew_fits t es ((strKind P w).hash k) (.str k tk)
    have hr1 := layNew_ris t es ((strKind P w).hash k) (.str k tk) hr
    have hl1 := layNew_led t es ((strKind P w).hash k) (.str k tk)
    generalize layNew t es ((strKind P w).hash k) (.str k tk) = Z at pm hf1 hr1 hl1 ⊢
    obtain ⟨es1, t1, wasDummy, gave⟩ := Z
    dsimp only at pm hf1 hr1 hl1 ⊢
    rw [Array.toList_push] at pm
    have pc : es1.toList.Perm (((strKind P w).hash k, Value.str k tk) :: es.toList) := pm.trans (List.perm_append_singleton _ _)
    have pk : (es1.toList.map keyS).Perm (k :: es.toList.map keyS) := pc.map keyS
    have g1 : ∀ e ∈ es1.toList, GoodS P w e := fun e he => by
      rcases List.mem_cons.mp (pc.mem_iff.mp he) with z | z
      · rw [z]; exact ⟨k, tk, rfl, rfl⟩
      · exact g e z
    have nd1 : (es1.toList.map keyS).Nodup := pk.nodup_iff.mpr (List.nodup_cons.mpr ⟨hnk, nd⟩)
    have m1 : ∀ i, (S i || decide (i = k)) = true ↔ i ∈ es1.toList.map keyS := fun i => by
      rw [Bool.or_eq_true, decide_eq_true_eq, hm i, pk.mem_iff, List.mem_cons]
      exact Or.comm
    have hsz : es1.size = n + 1 := by rw [← Array.length_toList, pc.length_eq, List.length_cons, Array.length_toList, hn]
    have hb1 : es1.size < scanBound := by rw [hsz]; exact room
    have hled : w.params.followText "set-order" = true ∨ t1.led = true := hl.imp id fun z => by rw [hl1]; exact z
    have fin : ∀ h', Heap.SameBut a s.heap h' → SetS P w h' a (fun j => S j || decide (j = k)) es1.size → Q true { s with heap := h' } := fun h' sb r => by
      have q := hQ h' sb
      rw [hSk] at q
      rw [hsz] at r
      exact q r
    refine wpAny_bind (hgw _ ?_)
    split
    · refine wpAny_bind ?_
      rw [hashByValue_scannable 8 hsc]
      refine wpAny_pure ?_
      refine setS_add_tail ?_ ho hex hd g1 nd1 m1 hb1 ?_ ?_ ?_ ?_
      · intro b s₁ Q' q; cases b <;> first | exact wpAny_pure q | exact wpAny_rule q
      · first | (split <;> first | exact hf1 | exact SetTable.fits_plain_off hf1) | exact hf1
      · first | (split <;> exact hr1) | exact hr1
      · first | (split <;> exact hled) | exact hled
      · intro h' sb r; dsimp only; exact wpAny_pure (fin h' sb r)
    · refine wpAny_bind (wpAny_pure ?_)
      simp only [↓reduceIte]
      refine setS_add_tail ?_ ho hex hd g1 nd1 m1 hb1 hf1 hr1 hled ?_
      · intro b s₁ Q' q; cases b <;> first | exact wpAny_pure q | exact wpAny_rule q
      · intro h' sb r; dsimp only; exact wpAny_pure (fin h' sb r)

end
/-! ### set(xs) of a list of texts -/
theorem setS_new_at {P : Program} {w : World} {h : Heap} {a : Addr} {ns : List Str} (ho : h.get? a = some { cls := .type "set", dict := none, data := .set #[] 0 (.fresh 0 0 (!w.params.followText "set-order")) }) : SetS P w h a (fun j => decide (j ∈ ns.take 0)) 0 :=
  ⟨_, #[], 0, _, ho, ⟨rfl, rfl, rfl⟩, rfl, (fun e he => by simp at he), (by simp), (fun k => by simp), (by decide), (by rfl), rfl, List.Pairwise.nil, by
    show _ ∨ (!w.params.followText "set-order") = true
    cases w.params.followText "set-order"
    · exact .inr rfl
    · exact .inl rfl⟩
section
variable {P : Program} {w : World} {A : Around} {E : Value → Shared → Prop} {s : Shared}
theorem set_update_strs {I : Addr} {fp wr : List Addr} {G : Array GenState → Array GenState → Prop} {n : Nat} {Pv : Nat → Value → Prop} {St : Nat → Shared → Prop} {R : Result → Shared → Prop}
    (W : WalksS P w A.in1 I fp wr G n Pv St) (S : Addr) (hSf : S ∉ fp) (ns : List Str) (hn : n = ns.length) (hb : ns.length + 1 < scanBound) (hval : ∀ i v, Pv i v → ∃ k t, ns[i]? = some k ∧ v = .str k t) :
    ∀ (k i : Nat) (s : Shared), n - i = k → i ≤ n → St i s → (∃ c, c ≤ i ∧ SetS P w s.heap S (fun j => decide (j ∈ ns.take i)) c) →
      (∀ s' c, Moved (S :: wr) G s s' → c ≤ n → SetS P w s'.heap S (fun j => decide (j ∈ ns)) c → R (.ok (.ret .none)) s') →
      codeAny (model P w) A (.builtin "set.update.loop" ⟨[.ref S, .ref I], []⟩) R s := by
  have hSw : S ∉ wr := fun h => hSf (W.sub _ h)
  have hsub : ∀ b ∈ wr, b ∈ S :: wr := fun b hb => List.mem_cons_of_mem _ hb
  intro k
  induction k with
  | zero =>
    intro i s hk' hi hst ⟨c, hc, hS⟩ hR
    have hin : i = n := by omega
    subst hin
    refine codeAny_builtin F.entry_set_update_loop ?_
    rw [Around.under_plainId F.plain_set_update_loop _]
    show wpAny _ A.in1 (pyNext (.ref I) >>= _) _ _ s
    refine wpAny_bind (W.done s _ _ hst fun s' hm => ?_)
    show wpAny _ A.in1 (ret Value.none) _ _ s'
    have e : ns.take i = ns := List.take_of_length_le (by omega)
    rw [e] at hS
    exact wpAny_pure (hR s' c (hm.mono hsub) hc (hS.at fun o e => hm.heap S o hSw e))
  | succ k ih =>
    intro i s hk' hi hst ⟨c, hc, hS⟩ hR
    have hlt : i < n := by omega
    refine codeAny_builtin F.entry_set_update_loop ?_
    rw [Around.under_plainId F.plain_set_update_loop _]
    show wpAny _ A.in1 (pyNext (.ref I) >>= _) _ _ s
    refine wpAny_bind (W.item i s _ _ hlt hst fun v s' hP hst' hm => ?_)
    obtain ⟨z, t, hz, rfl⟩ := hval i v hP
    have hS' : SetS P w s'.heap S (fun j => decide (j ∈ ns.take i)) c := hS.at fun o e => hm.heap S o hSw e
    show wpAny _ A.in1 (holding [Value.str z t] (setAdd S (.str z t)) >>= _) _ _ s'
    refine wpAny_bind (wpAny_holding ?_)
    unfold setAdd
    refine wpAny_holding ?_
    refine wpAny_bind ((strKind P w).pyHash (k := z) (strKind_is _ _ _ _) ?_)
    refine setS_add_hashed (s := { s' with toks := s'.toks + 1 }) hS' (by omega) fun h' hsb hS2 => ?_
    have hS3 : SetS P w h' S (fun j => decide (j ∈ ns.take (i + 1))) (if decide (z ∈ ns.take i) = true then c else c + 1) := hS2.congr fun j => by
      rw [List.take_add_one, hz]
      simp [List.mem_append]
    have hc3 : (if decide (z ∈ ns.take i) = true then c else c + 1) ≤ i + 1 := by
      split <;> omega
    refine wpAny_pure ⟨plainId_quiet F.plain_set_update_loop _, ih (i + 1) _ (by omega) hlt (W.frame _ s' _ _ hst' (Nat.le_succ _) fun b hb o e => ?_) ⟨_, hc3, hS3⟩ fun s'' c2 hm'' hc'' hS'' => ?_⟩
    · rw [hsb.2 b (fun h : b = S => hSf (by rw [← h]; exact hb))]; exact e
    · refine hR s'' c2 (Moved.trans W.gtrans ((hm.mono hsub).then_heap (Nat.le_succ _) fun b o hb e => ?_) hm'') hc'' hS''
      rw [hsb.2 b (fun h : b = S => hb (by rw [h]; exact List.mem_cons_self))]; exact e

set_option maxRecDepth 100000 in
set_option maxHeartbeats 3200000 in
theorem call_set_listT {l : Addr} {items : Array Value} (ns : List Str) {Q : Value → Shared → Prop} (hh : A.handled = none) (hl : s.heap.IsList l items) (hit : PyProof.Rows.StrsAre items.toList ns) (hb : ns.length + 1 < scanBound)
    (h : ∀ (h' : Heap) (tk c : Nat), SetS P w h' s.heap.objs.size (fun j => decide (j ∈ ns)) c → c ≤ ns.length → (∀ b o, s.heap.get? b = some o → h'.get? b = some o) → Q (.ref s.heap.objs.size) { s with heap := h', toks := tk }) :
    wpAny (model P w) A (call (.type "set") [.ref l]) Q E s := by
  have hisz : items.size = ns.length := by
    have q := PyProof.Rows.StrsAre.len_eq hit
    rw [Array.length_toList] at q
    exact q
  obtain ⟨c, tl, hmro⟩ := F.called_set.mro
  have hmade := F.called_set.made
  have hsub := F.called_set.sub
  refine wpAny_call (codeAny_of_tree ?_)
  show wpAny _ _ (callAny (.type "set") _) _ _ _
  refine wpAny_pure ⟨Code.quiet_builtin _ (by decide +kernel), codeAny_builtin F.entry_type_call ?_⟩
  rw [Around.under_plain (weight_type_call_type "set" [.ref l] []) rfl]
  have h1 := F.called_set.notType
  have h2 := F.called_set.canCreate
  have hct := F.typeCall_set_1 (.ref l)
  repeat (any_goals (first | assumption | wp_step))

  refine codeAny_mono (code_set_led1 (.ref l) (E := E) (Q₁ := fun obj s₁ => obj = .ref s.heap.objs.size ∧ s₁ = { s with heap := s.heap.push { cls := .type "set", dict := none, data := .set #[] 0 (.fresh 0 0 (!w.params.followText "set-order")) } }) ⟨rfl, rfl⟩) fun r s₁ hr => ?_
  cases r with
  | error e => exact hr
  | ok fl =>
    cases fl with
    | ret obj =>
      obtain ⟨rfl, rfl⟩ := hr
      have hS : (s.heap.push { cls := .type "set", dict := none, data := .set #[] 0 (.fresh 0 0 (!w.params.followText "set-order")) }).get? s.heap.objs.size = some { cls := .type "set", dict := none, data := .set #[] 0 (.fresh 0 0 (!w.params.followText "set-order")) } := Heap.get?_push_size _ rfl
      have hT : Shared.TypeIs { s with heap := s.heap.push { cls := .type "set", dict := none, data := .set #[] 0 (.fresh 0 0 (!w.params.followText "set-order")) } } (.ref s.heap.objs.size) "set" := ⟨_, hS, rfl⟩
      have hli := F.called_set.init.lookup
      have hbi := F.called_set.init.bind (.ref s.heap.objs.size)
      repeat (any_goals (first | assumption | wp_step))

      refine codeAny_mono (codeAny_call_builtin (R := wants (fun r s₂ => r = .none ∧ ∃ h' tk c, s₂ = { s with heap := h', toks := tk } ∧ SetS P w h' s.heap.objs.size (fun j => decide (j ∈ ns)) c ∧ c ≤ ns.length ∧
          (∀ b o, s.heap.get? b = some o → h'.get? b = some o)) E) F.called_set.init.plain F.entry_set_init (check_set_init_1 hT ?_)) fun r₂ s₂ hr₂ => ?_
      · obtain ⟨ol, hol, hcl, nl, hdl⟩ := hl
        obtain ⟨ocls, odict, odata, oslots⟩ := ol
        simp only at hcl hdl
        subst hcl; subst hdl
        have hol' : (s.heap.push { cls := .type "set", dict := none, data := .set #[] 0 (.fresh 0 0 (!w.params.followText "set-order")) }).get? l = some { cls := .type "list", dict := odict, data := .seq items nl, slots := oslots } := Heap.get?_push_of_some _ hol
        have hsls := F.sub_list_set
        have hslf := F.sub_list_frozenset
        have hne : (Value.type "list" == Value.type "dict") = false := by decide
        have hl1 : (s.heap.push { cls := .type "set", dict := none, data := .set #[] 0 (.fresh 0 0 (!w.params.followText "set-order")) }).IsList l items := ⟨_, hol', rfl, nl, rfl⟩
        unfold Builtin.«set.__init__» noKeywords Builtin.Frozenset.updateFrom
        generalize hPI : pyIter = PI
        wp_walk
        subst hPI

        refine wpAny_pyIter_list hl1 ?_
        refine wpAny_bind (wpAny_runValue ?_)
        have hlS : l < s.heap.objs.size := Heap.lt_size hol
        have hh3 : A.in1.in1.in1.handled = none := by simp [hh]
        have hz1 : (s.heap.push { cls := .type "set", dict := none, data := .set #[] 0 (.fresh 0 0 (!w.params.followText "set-order")) }).objs.size = s.heap.objs.size + 1 := Heap.size_push ..
        have hneI : l ≠ (s.heap.push { cls := .type "set", dict := none, data := .set #[] 0 (.fresh 0 0 (!w.params.followText "set-order")) }).objs.size := by
          rw [Heap.size_push]; exact Nat.ne_of_lt (Nat.lt_succ_of_lt hlS)
        have hSf : s.heap.objs.size ∉ [(s.heap.push { cls := .type "set", dict := none, data := .set #[] 0 (.fresh 0 0 (!w.params.followText "set-order")) }).objs.size, l] := by
          rw [Heap.size_push]; simp only [List.mem_cons, List.mem_singleton, List.not_mem_nil, or_false, not_or]
          exact ⟨Nat.ne_of_lt (Nat.lt_succ_self _), Nat.ne_of_gt hlS⟩
        have hval : ∀ (i : Nat) (v : Value), items[i]? = some v → ∃ k t, ns[i]? = some k ∧ v = .str k t := fun i v hv => by
          have hi : i < ns.length := by rw [← hisz]; exact (Array.getElem?_eq_some_iff.mp hv).1
          obtain ⟨t, e⟩ := SS.strs_at hit i v (by rw [Array.getElem?_toList]; exact hv)
          refine ⟨ns[i], t, List.getElem?_eq_getElem hi, ?_⟩
          rw [e, List.getD_eq_getElem?_getD, List.getElem?_eq_getElem hi] <;> rfl
        refine set_update_strs ((Walks.list hh3 _ l hneI items).toS) s.heap.objs.size
          hSf ns hisz hb hval (items.size - 0) 0 _ (by omega) (Nat.zero_le _)
          ⟨⟨_, Heap.get?_push_size _ rfl, rfl, rfl⟩, (hl1.push _)⟩ ?hS0 ?hR
        case hS0 =>
          have hget : ((s.heap.push { cls := .type "set", dict := none, data := .set #[] 0 (.fresh 0 0 (!w.params.followText "set-order")) }).push { cls := .type "list_iterator", data := .fields #[.ref l, .int 0 0] }).get? s.heap.objs.size
              = some { cls := .type "set", dict := none, data := .set #[] 0 (.fresh 0 0 (!w.params.followText "set-order")) } := Heap.get?_push_of_some _ hS
          exact ⟨0, Nat.le_refl 0, setS_new_at hget⟩
        case hR =>
          intro s' c' hm hc' hS'
          obtain ⟨h', g2, d', tk', os'⟩ := s'
          have eg : g2 = s.gens := hm.gens
          have ed : d' = s.drawn := hm.drawn
          have eo : os' = s.os := hm.os
          subst eg; subst ed; subst eo
          show wpAny _ _ _ _ _ _
          refine wpAny_pure ?_
          show wpAny _ _ (ret Value.none) _ _ _
          rw [hisz] at hc'
          refine wpAny_pure ⟨rfl, h', tk', c', rfl, hS', hc', fun b o e => ?_⟩
          have hb0 : b < s.heap.objs.size := Heap.lt_size e
          have hb1 : b ≠ s.heap.objs.size := Nat.ne_of_lt hb0
          have hb2 : b ≠ (s.heap.push { cls := .type "set", dict := none, data := .set #[] 0 (.fresh 0 0 (!w.params.followText "set-order")) }).objs.size := by
            rw [Heap.size_push]; exact Nat.ne_of_lt (Nat.lt_succ_of_lt hb0)
          exact hm.heap b o (by simp only [List.mem_cons, List.mem_singleton, List.not_mem_nil, or_false, not_or]; exact ⟨hb1, hb2⟩) (Heap.get?_push_of_some _ (Heap.get?_push_of_some _ e))

      · cases r₂ with
        | error e => exact hr₂
        | ok fl₂ =>
          cases fl₂ with
          | ret r =>
            obtain ⟨rfl, h', tk, c', rfl, hS', hc', hk'⟩ := hr₂
            repeat (any_goals (first | assumption | wp_step))
            exact h _ _ _ hS' hc' hk'
          | _ => exact hr₂.elim
    | _ => exact hr.elim

end
end EvS
end
section
set_option Elab.async false
set_option linter.all false
set_option maxRecDepth 100000
/-! Ev13: sorted(set(texts)), len(set(ints)), sorted of data, tuple * int, int(x). -/
namespace EvS
open PySem PySem.Spec PyProof.Rows L2
section
variable {P : Program} {w : World} {A : Around} {E : Value → Shared → Prop} {s : Shared} {a : Addr}
theorem strs_of : ∀ (vs : List Value), (∀ v ∈ vs, ∃ k t, v = Value.str k t) → ∃ ss, StrsAre vs ss ∧ ss = vs.map fun v => match v with | .str k _ => k | _ => Str.empty
  | [], _ => ⟨[], .nil, rfl⟩
  | v :: vs, h => by
    obtain ⟨ss, h1, h2⟩ := strs_of vs fun v hv => h v (List.mem_cons_of_mem _ hv)
    obtain ⟨k, t, rfl⟩ := h v List.mem_cons_self
    exact ⟨k :: ss, .cons k t h1, by rw [h2] <;> rfl⟩
theorem sorted_setS {S : Str → Bool} {n : Nat} {Q : Value → Shared → Prop} (R : SetS P w s.heap a S n) (hh : A.handled = none) (h64 : n < 64)
    (hQ : ∀ s' p (out : Array Value) (c : Nat) (ys : List Str), (∀ b o, s.heap.get? b = some o → s'.heap.get? b = some o) → s'.gens = s.gens → s'.os = s.os → s.heap.objs.size ≤ p →
      s'.heap.get? p = some (seqObj "list" out c) → StrsAre out.toList ys → sortedS ys = true → ys.Nodup → (∀ k, k ∈ ys ↔ S k = true) → ys.length = n → Q (.ref p) s') :
    wpAny (model P w) A (call (.builtin "sorted") [.ref a]) Q E s := by
  obtain ⟨o, es, ep, t, ho, hex, hd, g, nd, hm, hb, hf, hn, hr, hl⟩ := R
  refine Calls.call_function_entry kind_sorted plain_sorted entry_sorted (args_sorted1 _) ?_
  unfold Builtin.«sorted»
  refine wpAny_bind (m := checkCount "sorted" 1 1 _) (wpAny_pure ?_)
  refine wpAny_bind (collect_set (A := A.in1) hh ⟨o, ho, hex.1, hd⟩ hf hb hr hl fun s1 vs k1 hz g1 o1 pm => ?_)
  have hvl : vs.length = n := by rw [pm.length_eq, List.length_map, Array.length_toList]; exact hn
  obtain ⟨ss, hS, es'⟩ := strs_of vs fun v hv => by
    obtain ⟨e, he, q⟩ := List.mem_map.mp (pm.mem_iff.mp hv)
    obtain ⟨k, tk, h1, _⟩ := g e he
    exact ⟨k, tk, by rw [← q]; exact h1⟩
  have pk : ss.Perm (es.toList.map keyS) := by
    have q := pm.map fun v => match v with | .str k _ => k | _ => Str.empty
    rw [List.map_map] at q
    rw [es']
    exact q
  refine wpAny_bind (wpAny_newList ?_ (by rw [hvl, sizeLine_eq]; omega))
  have hoL : (s1.heap.push (seqObj "list" vs.toArray 0)).get? s1.heap.objs.size = some (seqObj "list" vs.toArray 0) := Heap.get?_push_size _ rfl
  refine wpAny_bind (wpAny_holding (wpAny_call_entry slot_list_sort ⟨_, hoL, rfl⟩ entry_list_sort
    (list_sort_treeK strKind_oneLt hoL hS.keysOf (fun v₁ v₂ rest e => keyKind_strs (by rw [← e]; exact hS)) (by rw [hvl]; exact h64) fun st' hp hs => ⟨_, rfl, ?_⟩) (args_list_sort _)))
  obtain ⟨ys, a1, a2, a3⟩ := sorted_out_str hS hp hs
  obtain ⟨c, hc⟩ := sortedHeap_at (vs := vs) (out := (arrOf st').map (·.2)) hoL
  have pn : ys.Perm (es.toList.map keyS) := a2.trans pk
  refine wpAny_pure ⟨_, rfl, hQ _ s1.heap.objs.size _ c ys (fun b u e => ?_) g1 o1 hz hc a1 a3 (pn.nodup_iff.mpr nd) (fun k => by rw [pn.mem_iff, ← hm k]) ?_⟩
  · have q := k1 b u e
    have hlt := Heap.lt_size q
    show (sortedHeap (s1.heap.push (seqObj "list" vs.toArray 0)) s1.heap.objs.size vs _).get? b = some u
    rw [sortedHeap_old (Nat.ne_of_lt hlt) (by rw [size_push']; exact Nat.lt_succ_of_lt hlt)]
    exact Heap.get?_push_of_some _ q
  · rw [pn.length_eq, List.length_map, Array.length_toList]; exact hn
end
/-- sorted(set(xs)), xs a list of texts -/
def tSortSet (K : PySem.W.Frag) (ta : TE) : TE := fun σ H Q => ta σ H fun x H1 => ∃ (l : Addr) (xs : List Str), x = .ref l ∧ SqL K H1 l (xs.map V.str) ∧ xs.length < 63 ∧
  ∀ (ys : List Str) (p : Addr), sortedS ys = true → ys.Nodup → (∀ k, k ∈ ys ↔ k ∈ xs) → H1 p = none → Q (.ref p) (upd H1 p (.lst (ys.map V.str)))
theorem pe_sortSet {X : Cx} {a : Expr} {ta : TE} {p p2 q pos : Pos} (hc : X.calm = true) (hg : Gl X "sorted") (hm : X.mg "sorted" = none) (hg2 : Gl X "set") (hm2 : X.mg "set" = none) (ha : PE X a ta)
    (na : starEach [a] X.env = (false, eval a X.env) :: starEach [] X.env := by rfl) : PE X (.Call (.Name "sorted" p) [.Call (.Name "set" p2) [a] [] q] [] pos) (tSortSet X.K ta) := by
  refine ⟨fun pins s σ H Q I h => ?_⟩
  refine Call_ (ld_blt I hg hm (show bootBuiltins "sorted" = some (.builtin "sorted") by decide +kernel) ?_)
  refine PyProof.Rows.callWith_builtin1 (PyProof.Rows.args_cons ?_ rfl) rfl rfl
  refine Call_ (ld_blt I hg2 hm2 boot_set ?_)
  refine PyProof.Rows.callWith_type1 (PyProof.Rows.args_cons (thn (ha.run pins s σ H _ I h) fun v s1 ⟨x, H1, I1, r1, q1⟩ => PyProof.Rows.args_nil ?_) na) na rfl
  obtain ⟨l, xs, rfl, hq, hlen, q1⟩ := q1
  cases r1
  obtain ⟨its, r, pl, hz⟩ := I1.list hq
  refine call_set_listT (P := X.prog) (w := X.w) xs (I1.ok.hd hc) pl.isList (by simpa using strsAre_of r) (by unfold scanBound; omega) fun h' tk c hS hc' hk => ?_
  refine PyProof.Rows.args_nil ?_
  have I2 : Inv X pins σ H1 { s1 with heap := h', toks := tk } := I1.kept fun b o e => hk b o e
  refine sorted_setS hS (I2.ok.hd hc) (by omega) fun s' p out c ys k g o hp hgp hi hs hnd hmm hl => ?_
  have hlen : (ys.map V.str).length ≤ sizeLine := by rw [List.length_map, hl, sizeLine_eq]; omega
  have hn : H1 p = none := I2.hok.fresh hp
  have J : Inv X pins σ (upd H1 p (.lst (ys.map V.str))) { ({ s1 with heap := h', toks := tk } : Shared) with heap := s'.heap, gens := s'.gens, drawn := s'.drawn, toks := s'.toks } :=
    I2.call (ch := []) (Un.laid k hp hn) (I2.hok.laid k hp ⟨hlen, out.toList, c, vals_of_strs hi, hgp⟩) (by rw [g]; exact I2.bare) (fun _ z => nomatch z)
  have e : s' = { ({ s1 with heap := h', toks := tk } : Shared) with heap := s'.heap, gens := s'.gens, drawn := s'.drawn, toks := s'.toks } := by
    cases s'
    cases s1
    cases o
    rfl
  rw [e]
  exact ⟨.ref p, _, J, rfl, q1 ys p hs hnd (fun k => by rw [hmm k, decide_eq_true_eq]) hn⟩
/-- len(set(xs)), xs a list or a tuple of ints -/
def tLenSet2 (K : PySem.W.Frag) (ta : TE) : TE := fun σ H Q => ta σ H fun x H1 => ∃ (l : Addr) (ns : List Int), x = .ref l ∧ (SqL K H1 l (ns.map V.int) ∨ SqT K H1 l (ns.map V.int)) ∧ ns.length ≤ 4000 ∧
  ∀ m : Nat, (∀ ds : List Int, ds.Nodup → (∀ k, k ∈ ds ↔ k ∈ ns) → ds.length = m) → Q (.int (m : Nat)) H1
theorem nodup_len {as bs : List Int} (ha : as.Nodup) (hb : bs.Nodup) (h : ∀ k, k ∈ as ↔ k ∈ bs) : as.length = bs.length := by
  have : as.Perm bs := (List.perm_ext_iff_of_nodup ha hb).mpr h
  exact this.length_eq
theorem firstMet_facts (val : Nat → Int) : ∀ i, (PyProof.Rows.firstMet val i).Nodup ∧ ∀ k, k ∈ PyProof.Rows.firstMet val i ↔ ∃ j, j < i ∧ val j = k
  | 0 => ⟨List.nodup_nil, fun k => ⟨fun h => (by cases h), fun ⟨j, h, _⟩ => absurd h (Nat.not_lt_zero _)⟩⟩
  | i + 1 => by
    obtain ⟨h1, h2⟩ := firstMet_facts val i
    rw [PyProof.Rows.firstMet_succ]
    show (if (PyProof.Rows.firstMet val i).any (· == val i) then PyProof.Rows.firstMet val i else PyProof.Rows.firstMet val i ++ [val i]).Nodup ∧ _
    have ex : ∀ k, (∃ j, j < i + 1 ∧ val j = k) ↔ (∃ j, j < i ∧ val j = k) ∨ val i = k := fun k => by
      constructor
      · rintro ⟨j, hj, e⟩
        rcases Nat.lt_or_eq_of_le (Nat.le_of_lt_succ hj) with z | z
        · exact .inl ⟨j, z, e⟩
        · exact .inr (by rw [← z]; exact e)
      · rintro (⟨j, hj, e⟩ | e)
        · exact ⟨j, by omega, e⟩
        · exact ⟨i, by omega, e⟩
    by_cases hb : ((PyProof.Rows.firstMet val i).any (· == val i)) = true
    · have hin : val i ∈ PyProof.Rows.firstMet val i := by
        obtain ⟨y, hy, e⟩ := List.any_eq_true.mp hb
        have e2 : y = val i := eq_of_beq e
        rw [← e2]; exact hy
      refine ⟨by rw [if_pos hb]; exact h1, fun k => ?_⟩
      show k ∈ (if (PyProof.Rows.firstMet val i).any (· == val i) then PyProof.Rows.firstMet val i else PyProof.Rows.firstMet val i ++ [val i]) ↔ _
      rw [if_pos hb, ex k, ← h2 k]
      exact ⟨.inl, fun z => z.elim id fun e => by rw [← e]; exact hin⟩
    · have hout : val i ∉ PyProof.Rows.firstMet val i := fun z => hb (List.any_eq_true.mpr ⟨_, z, by simp⟩)
      refine ⟨by rw [if_neg hb]; exact List.nodup_append.mpr ⟨h1, by simp, fun x hx y hy e => by rw [List.mem_singleton] at hy; subst hy; subst e; exact hout hx⟩, fun k => ?_⟩
      show k ∈ (if (PyProof.Rows.firstMet val i).any (· == val i) then PyProof.Rows.firstMet val i else PyProof.Rows.firstMet val i ++ [val i]) ↔ _
      rw [if_neg hb, ex k, List.mem_append, h2 k, List.mem_singleton]
      exact ⟨fun z => z.imp id Eq.symm, fun z => z.imp id Eq.symm⟩
theorem firstMet_le (val : Nat → Int) : ∀ i, (PyProof.Rows.firstMet val i).length ≤ i
  | 0 => Nat.le_refl _
  | i + 1 => by
    have ih := firstMet_le val i
    rw [PyProof.Rows.firstMet_succ]
    show (if (PyProof.Rows.firstMet val i).any (· == val i) then PyProof.Rows.firstMet val i else PyProof.Rows.firstMet val i ++ [val i]).length ≤ _
    split
    · omega
    · rw [List.length_append, List.length_singleton]; omega
theorem pe_lenSet2 {X : Cx} {a : Expr} {ta : TE} {p p2 q pos : Pos} (hc : X.calm = true) (hg : Gl X "len") (hm : X.mg "len" = none) (hg2 : Gl X "set") (hm2 : X.mg "set" = none) (ha : PE X a ta)
    (na : starEach [a] X.env = (false, eval a X.env) :: starEach [] X.env := by rfl) : PE X (.Call (.Name "len" p) [.Call (.Name "set" p2) [a] [] q] [] pos) (tLenSet2 X.K ta) := by
  refine ⟨fun pins s σ H Q I h => ?_⟩
  refine Call_ (ld_blt I hg hm boot_len ?_)
  refine PyProof.Rows.callWith_builtin1 (PyProof.Rows.args_cons ?_ rfl) rfl rfl
  refine Call_ (ld_blt I hg2 hm2 boot_set ?_)
  refine PyProof.Rows.callWith_type1 (PyProof.Rows.args_cons (thn (ha.run pins s σ H _ I h) fun v s1 ⟨x, H1, I1, r1, q1⟩ => PyProof.Rows.args_nil ?_) na) na rfl
  obtain ⟨l, ns, rfl, hq, hl, q1⟩ := q1
  cases r1
  rcases hq with hq | hq
  · obtain ⟨its, r, pl, hz⟩ := I1.list hq
    have hlen : its.toArray.size = ns.length := by rw [List.size_toArray, ← r.length, List.length_map]
    refine call_set_list (I1.ok.hd hc) pl.isList (by simpa using RZ.intsAre_vals r) (by rw [hlen]; unfold scanBound; omega) fun h' tk hS hk => ?_
    refine PyProof.Rows.args_nil ?_
    rw [hlen] at hS
    obtain ⟨o, es, ep, t, ho, hex, hd, _, _, _, hf, hn⟩ := hS
    have I2 : Inv X pins σ H1 { s1 with heap := h', toks := tk } := I1.kept fun b o e => hk b o (Heap.lt_size e) e
    obtain ⟨f1, f2⟩ := firstMet_facts (fun i => ns.getD i 0) ns.length
    have fm : ∀ k, k ∈ PyProof.Rows.firstMet (fun i => ns.getD i 0) ns.length ↔ k ∈ ns := fun k => by
      rw [f2 k]
      constructor
      · rintro ⟨j, hj, e⟩
        have e' : ns.getD j 0 = k := e
        rw [List.getD_eq_getElem?_getD, List.getElem?_eq_getElem hj] at e'
        exact List.mem_iff_getElem.mpr ⟨j, hj, e'⟩
      · intro hk
        obtain ⟨j, hj, e⟩ := List.mem_iff_getElem.mp hk
        refine ⟨j, hj, ?_⟩
        show ns.getD j 0 = k
        rw [List.getD_eq_getElem?_getD, List.getElem?_eq_getElem hj]
        exact e
    have hb := firstMet_le (fun i => ns.getD i 0) ns.length
    exact call_len_set ho hex hd hf (by rw [hn] <;> omega) ⟨.int (PyProof.Rows.firstMet (fun i => ns.getD i 0) ns.length).length, H1, I2.tok _, ⟨_, by rw [hn]⟩, q1 _ fun ds nd hm => nodup_len nd f1 fun k => by rw [hm k, fm k]⟩
  · obtain ⟨its, r, pl, hz⟩ := I1.tuple hq
    refine call_set_tupI (P := X.prog) (w := X.w) ns (I1.ok.hd hc) (show s1.heap.IsTuple l its.toArray from pl) (by simpa using RZ.intsAre_vals r) (by unfold scanBound; omega) fun h' tk c hS hc' hk => ?_
    refine PyProof.Rows.args_nil ?_
    obtain ⟨o, es, ep, t, ho, hex, hd, g, nd, hmm, hb, hf, hn, _⟩ := hS
    have I2 : Inv X pins σ H1 { s1 with heap := h', toks := tk } := I1.kept fun b o e => hk b o e
    refine call_len_set ho hex hd hf (by rw [hn] <;> omega) ⟨.int (c : Nat), H1, I2.tok _, ⟨_, by rw [hn]⟩, q1 c fun ds nd2 hm => ?_⟩
    have := nodup_len nd2 nd fun k => by rw [hm k, ← hmm k, decide_eq_true_eq]
    rw [this, List.length_map, Array.length_toList, hn]
end EvS
end
section
set_option Elab.async false
set_option linter.all false
set_option maxRecDepth 100000
/-! Ev14: sets and sorting by data; tuple * int; int(x). -/
namespace Ev
open PySem PySem.Spec L2
set_option autoImplicit false

/-! ### sorted(list) -/
def rSortD (K : PySem.W.Frag) : List V → Hp → VK → Prop := fun vs H Q => ∃ (a : Addr) (xs : List V) (ds : List PyData), vs = [V.ref a] ∧ SqL K H a xs ∧ DpAll K H xs ds ∧ PySem.W.AllAlike ds ∧ PySem.W.Sortable ds ∧ (∀ d ∈ ds, d.depth ≤ 60) ∧
  ∀ p, H p = none → Q (.ref p) (upd H p (.lst (((xs.zip ds).mergeSort (PySem.W.dataLe false Prod.snd)).map Prod.fst)))
theorem each_zip {K : PySem.W.Frag} {H : Hp} {X : Cx} {pins : List (Addr × Obj)} {s : Shared} {σ : St} (I : Inv X pins σ H s) : ∀ {xs : List V} {ds : List PyData} {its : List Value}, DpAll X.K H xs ds → Vals xs its →
    PySem.W.EachIs (fun v (b : V × PyData) => RelV b.1 v) its (xs.zip ds) ∧ PySem.W.EachIs (fun v (b : V × PyData) => ∃ as, Reads s.heap v b.2 as) its (xs.zip ds)
  | _, _, _, .nil, .nil => ⟨.nil, .nil⟩
  | _, _, _, .cons h t, .cons r rr => by
    obtain ⟨e1, e2⟩ := each_zip (K := K) I t rr
    obtain ⟨as, ra⟩ := Dp.reads I _ _ _ h r
    exact ⟨.cons r e1, .cons ⟨as, ra⟩ e2⟩
theorem vals_each : ∀ {out : List Value} {qs : List (V × PyData)}, PySem.W.EachIs (fun v (b : V × PyData) => RelV b.1 v) out qs → Vals (qs.map Prod.fst) out
  | _, _, .nil => .nil
  | _, _, .cons r t => .cons r (vals_each t)
theorem DpAll.length {K : PySem.W.Frag} {H : Hp} : ∀ {xs : List V} {ds : List PyData}, DpAll K H xs ds → xs.length = ds.length
  | _, _, .nil => rfl
  | _, _, .cons _ t => congrArg (· + 1) (DpAll.length t)
theorem zip_snd {xs : List V} {ds : List PyData} (h : xs.length = ds.length) : (xs.zip ds).map Prod.snd = ds := by
  rw [List.map_snd_zip]; omega
theorem zip_fst {xs : List V} {ds : List PyData} (h : xs.length = ds.length) : (xs.zip ds).map Prod.fst = xs := by
  rw [List.map_fst_zip]; omega
theorem cr_sortD {X : Cx} (hu : X.A.units + 65 < cLine) : CallR X (.builtin "sorted") (rSortD X.K) := by
  intro pins s σ H vs us Q I r h
  obtain ⟨a, xs, ds, rfl, hs, hd, hal, hk, hdep, q⟩ := h
  obtain ⟨its, rv, hl, hz⟩ := I.list hs
  rw [Vals.ref1 r]
  obtain ⟨e1, e2⟩ := each_zip (K := X.K) I hd rv
  have hlen := DpAll.length hd
  have hsn := zip_snd hlen
  refine PySem.W.sorted_data (enc := Prod.snd) hl.isList e1 e2 (by rw [hsn]; exact hal) (by rw [hsn]; exact hk) (by rw [List.length_zip, ← hlen, Nat.min_self]; exact hz) (fun b hb => ?_) fun out ho eo => ?_
  · have : b.2 ∈ ds := by rw [← hsn]; exact List.mem_map.mpr ⟨b, hb, rfl⟩
    have := hdep _ this
    omega
  · obtain ⟨ep, he'⟩ := PyProof.Rows.sortedAll_at s.heap its out.toArray
    have hv := vals_each eo
    have hl2 : (((xs.zip ds).mergeSort (PySem.W.dataLe false Prod.snd)).map Prod.fst).length ≤ sizeLine := by
      rw [List.length_map, List.length_mergeSort, List.length_zip, ← hlen, Nat.min_self]; exact hz
    exact ⟨.ref _, upd H (s.heap.objs.size + 1) (.lst _), I.laid (t' := s.toks) (fun _ _ => PyProof.Rows.sortedAll_old) (Nat.le_succ _) ⟨hl2, out, ep, hv, he'⟩, rfl, q _ (I.hok.fresh (Nat.le_succ _))⟩
def alikeB (ds : List PyData) : Bool := ds.all fun d => ds.all fun d' => PySem.W.alike d d'
def sortB (ds : List PyData) : Bool := (ds.all fun d => match d with | .tuple (_ :: _) => true | _ => false) || ds.all fun d => match d with | .none => false | .tuple _ => false | _ => true
def sortD (ds : List PyData) : List PyData := match ds with
  | [] => []
  | [a] => [a]
  | [a, b] => if PySem.W.dataLe false (fun d => d) a b then [a, b] else [b, a]
  | ds => ds.mergeSort (PySem.W.dataLe false fun d => d)
theorem ms2 {α : Type} (le : α → α → Bool) (a b : α) : [a, b].mergeSort le = if le a b then [a, b] else [b, a] := by
  rw [List.mergeSort]
  simp [List.MergeSort.Internal.splitInTwo, List.merge]
def gSorted : PyData → Option (List PyData)
  | .list ds => if alikeB ds && sortB ds && plainAll ds && ds.all (fun d => decide (d.depth ≤ 60)) then some (sortD ds) else none
  | _ => none
theorem sortD_eq (ds : List PyData) : sortD ds = ds.mergeSort (PySem.W.dataLe false fun d => d) := by
  unfold sortD
  split
  · simp
  · simp
  · rw [ms2]
  · rfl
section
variable {X : Cx} {bx : Option (Addr × Addr)} {c : Cf} {pos p p2 q : Pos} {e : Expr} {fa : M PyData}
theorem rp_perm {K : PySem.W.Frag} {G : Hp} : ∀ {qs : List (V × PyData)}, (∀ q ∈ qs, Rp K G q.1 q.2) → RpAll K G (qs.map Prod.fst) (qs.map Prod.snd)
  | [], _ => .nil
  | q :: qs, h => .cons (h q List.mem_cons_self) (rp_perm fun x hx => h x (List.mem_cons_of_mem _ hx))
theorem rp_zip {K : PySem.W.Frag} {G : Hp} : ∀ {xs : List V} {ds : List PyData}, RpAll K G xs ds → ∀ q ∈ xs.zip ds, Rp K G q.1 q.2
  | _, _, .nil, q, h => by simp at h
  | _, _, .cons r t, q, h => by
    rw [List.zip_cons_cons] at h
    rcases List.mem_cons.mp h with z | z
    · rw [z]; exact r
    · exact rp_zip t q z
theorem s_sorted : Op1F c (rSortD c.K) gSorted := fun a l h G H x Q sub ra k => by
  unfold gSorted at h
  split at h
  · rename_i ds
    split at h
    · rename_i hc
      cases h
      simp only [Bool.and_eq_true] at hc
      obtain ⟨⟨⟨h1, h2⟩, h3⟩, h4⟩ := hc
      obtain ⟨a, xs, rfl, hg, r⟩ := rpLst ra
      refine ⟨a, xs, ds, rfl, SqL.of (sub _ _ hg), RpAll.dp sub r h3, fun d hd d' hd' => List.all_eq_true.mp (List.all_eq_true.mp h1 d hd) d' hd', ?_, fun d hd => of_decide_eq_true (List.all_eq_true.mp h4 d hd), fun p hp => ?_⟩
      · unfold sortB at h2
        rcases Bool.or_eq_true_iff.mp h2 with z | z
        · refine .inl fun d hd => ?_
          have := List.all_eq_true.mp z d hd
          split at this
          · exact ⟨_, _, rfl⟩
          · cases this
        · refine .inr fun d hd => ?_
          have := List.all_eq_true.mp z d hd
          refine ⟨fun e => ?_, fun xs e => ?_⟩ <;> · rw [e] at this; simp at this
      · have e : ((xs.zip ds).mergeSort (PySem.W.dataLe false Prod.snd)).map Prod.snd = sortD ds := by
          rw [sortD_eq]
          have e1 := PySem.W.sort_maps (r := PySem.W.dataLe false Prod.snd) (s := PySem.W.dataLe false fun d => d) (l := xs.zip ds) Prod.snd (fun _ _ _ _ => rfl)
          rw [zip_snd r.length] at e1
          exact e1
        have ra := rp_perm (qs := (xs.zip ds).mergeSort (PySem.W.dataLe false Prod.snd)) fun q hq => rp_zip r q ((List.mergeSort_perm _ _).mem_iff.mp hq)
        rw [e] at ra
        exact k _ p ra hp
    · cases h
  · cases h
theorem fSort (hu : X.A.units + 65 < cLine) (hm : X.mg "sorted" = none) (ha : EE X bx e fa) (hg : Gl X "sorted" := by rfl) (h1 : starEach [e] X.env = (false, eval e X.env) :: starEach [] X.env := by rfl) (h2 : (backTo pos (starEach [] X.env)).any (·.1) = false := by rfl) :
    EF X bx (.Call (.Name "sorted" p) [e] [] pos) (fFr fa gSorted) := eBF (cr_sortD hu) s_sorted ha hm (by decide +kernel) hg (by decide) (by decide) h1 h2

/-! ### sorted(set(texts)), len(set(ints)) -/
def strsOf : List PyData → Option (List Str)
  | [] => some []
  | .str b :: r => (strsOf r).map (b :: ·)
  | _ => none
theorem strsOf_eq : ∀ {xs : List PyData} {ns : List Str}, strsOf xs = some ns → xs = ns.map PyData.str
  | [], ns, h => by simp [strsOf] at h; subst h; rfl
  | .str i :: r, ns, h => by
    rw [strsOf] at h
    cases e : strsOf r with
    | none => rw [e] at h; cases h
    | some ms =>
      rw [e] at h
      cases h
      rw [List.map_cons, strsOf_eq e]
  | .none :: _, _, h => by simp [strsOf] at h
  | .int _ :: _, _, h => by simp [strsOf] at h
  | .bool _ :: _, _, h => by simp [strsOf] at h
  | .list _ :: _, _, h => by simp [strsOf] at h
  | .tuple _ :: _, _, h => by simp [strsOf] at h
  | .dict _ :: _, _, h => by simp [strsOf] at h
/-- texts of no, of one place: what they are sorted -/
def gSortSet : PyData → Option (List PyData)
  | .list ds => (strsOf ds).bind fun xs => if xs.length ≤ 1 then some (xs.map PyData.str) else none
  | _ => none
theorem rpStrs {K : PySem.W.Frag} {G : Hp} : ∀ ns : List Str, RpAll K G (ns.map V.str) (ns.map PyData.str)
  | [] => .nil
  | n :: ns => .cons (.str n) (rpStrs ns)
theorem one_set {xs ys : List Str} (hl : xs.length ≤ 1) (nd : ys.Nodup) (h : ∀ k, k ∈ ys ↔ k ∈ xs) : ys = xs := by
  cases xs with
  | nil =>
    cases ys with
    | nil => rfl
    | cons y _ => exact absurd ((h y).mp List.mem_cons_self) (by simp)
  | cons x r =>
    cases r with
    | cons _ _ => simp at hl
    | nil =>
      cases ys with
      | nil => exact absurd ((h x).mpr List.mem_cons_self) (by simp)
      | cons y t =>
        have hy : y = x := by simpa using (h y).mp List.mem_cons_self
        subst hy
        cases t with
        | nil => rfl
        | cons z u =>
          have hz : z = y := by simpa using (h z).mp (List.mem_cons_of_mem _ List.mem_cons_self)
          subst hz
          simp at nd
theorem fSortSet (hc : X.calm = true) (hm : X.mg "sorted" = none) (hm2 : X.mg "set" = none) (ha : EE X bx e fa) (hg : Gl X "sorted" := by rfl) (hg2 : Gl X "set" := by rfl) (na : starEach [e] X.env = (false, eval e X.env) :: starEach [] X.env := by rfl) :
    EF X bx (.Call (.Name "sorted" p) [.Call (.Name "set" p2) [e] [] q] [] pos) (fFr fa gSortSet) := peI (EvS.pe_sortSet hc hg hm hg2 hm2 ha na) fun σ H Q h => by
  refine (rdF_lift (R := RpX ⟨X.K, bx⟩) h).mono fun x H1 ⟨a, G1, l, ra, sub, e, k⟩ => ?_
  unfold gSortSet at e
  split at e
  · rename_i ds
    cases es : strsOf ds with
    | none => rw [es] at e; cases e
    | some xs =>
      rw [es] at e
      simp only [Option.bind_some] at e
      split at e
      · rename_i hl
        cases e
        obtain ⟨p, vs, rfl, hp, rp⟩ := rpLst ra
        have := rp.strs xs (strsOf_eq es)
        subst this
        refine ⟨p, xs, rfl, SqL.of (sub _ _ hp), by omega, fun ys t hs nd hmm ht => ?_⟩
        have := one_set hl nd hmm
        subst this
        exact k _ t (rpStrs _) ht
      · cases e
  · cases e
def ddI : List Int → List Int
  | [] => []
  | n :: r => if n ∈ ddI r then ddI r else n :: ddI r
theorem ddI_facts : ∀ ns : List Int, (ddI ns).Nodup ∧ ∀ k, k ∈ ddI ns ↔ k ∈ ns
  | [] => ⟨List.nodup_nil, fun k => Iff.rfl⟩
  | n :: r => by
    obtain ⟨h1, h2⟩ := ddI_facts r
    by_cases e : n ∈ ddI r
    · have e0 : ddI (n :: r) = ddI r := if_pos e
      rw [e0]
      exact ⟨h1, fun k => by rw [h2 k, List.mem_cons]; exact ⟨.inr, fun z => z.elim (fun q => by rw [q]; exact (h2 n).mp e) id⟩⟩
    · have e0 : ddI (n :: r) = n :: ddI r := if_neg e
      rw [e0]
      exact ⟨List.nodup_cons.mpr ⟨e, h1⟩, fun k => by rw [List.mem_cons, List.mem_cons, h2 k]⟩
def gLenSet : PyData → Option PyData
  | .list ds => (gLt.intsOf ds).bind fun ns => if ns.length ≤ 4000 then some (.int (ddI ns).length) else none
  | .tuple ds => (gLt.intsOf ds).bind fun ns => if ns.length ≤ 4000 then some (.int (ddI ns).length) else none
  | _ => none
theorem eLenSet (hc : X.calm = true) (hm : X.mg "len" = none) (hm2 : X.mg "set" = none) (ha : EE X bx e fa) (hg : Gl X "len" := by rfl) (hg2 : Gl X "set" := by rfl) (na : starEach [e] X.env = (false, eval e X.env) :: starEach [] X.env := by rfl) :
    EE X bx (.Call (.Name "len" p) [.Call (.Name "set" p2) [e] [] q] [] pos) (f1 fa gLenSet) := peI (EvS.pe_lenSet2 hc hg hm hg2 hm2 ha na) fun σ H Q h => by
  refine (rd.bind (R := RpX ⟨X.K, bx⟩) h).mono fun x H1 ⟨a, G1, ra, h1⟩ => ?_
  obtain ⟨d, e, sub, k⟩ := h1.here
  unfold gLenSet at e
  split at e
  · rename_i ds
    cases es : gLt.intsOf ds with
    | none => rw [es] at e; cases e
    | some xs =>
      rw [es] at e
      simp only [Option.bind_some] at e
      split at e
      · rename_i hl
        cases e
        obtain ⟨p, vs, rfl, hp, rp⟩ := rpLst ra
        have := rp.ints xs (intsOf_eq es)
        subst this
        refine ⟨p, xs, rfl, .inl (SqL.of (sub _ _ hp)), hl, fun m hm => ?_⟩
        obtain ⟨f1, f2⟩ := ddI_facts xs
        rw [← hm _ f1 f2]
        exact k _ (.inl (.int _))
      · cases e
  · rename_i ds
    cases es : gLt.intsOf ds with
    | none => rw [es] at e; cases e
    | some xs =>
      rw [es] at e
      simp only [Option.bind_some] at e
      split at e
      · rename_i hl
        cases e
        obtain ⟨p, vs, rfl, hp, rp⟩ := rpTup ra
        have := rp.ints xs (intsOf_eq es)
        subst this
        refine ⟨p, xs, rfl, .inr (tup_mono sub hp), hl, fun m hm => ?_⟩
        obtain ⟨f1, f2⟩ := ddI_facts xs
        rw [← hm _ f1 f2]
        exact k _ (.inl (.int _))
      · cases e
  · cases e
end
end Ev
end
section
set_option Elab.async false
set_option linter.all false
set_option maxRecDepth 100000
/-! Ev15: dict displays, sorted(dict), tuple * int, defs as values, tables of defs. -/
namespace Ev
open PySem PySem.Spec L2
set_option autoImplicit false

/-! ### dict displays -/
theorem INV.off {c : Cf} {σ : St} {env : En} {s : Bx} {G H : Hp} (I : INV c σ env s G H) {p : Addr} (gp : G p = none) (nt : ¬ Tch c env σ p) (o : HO) : INV c σ env s G (upd H p o) := by
  have no : ∀ {i a}, IsMut env σ i a → a ≠ p := fun h z => nt (.inr ⟨_, by rw [← z]; exact h⟩)
  refine ⟨fun b u e => ?_, fun B C e => ?_, I.bfree, I.len, I.val, fun i l e => ?_, fun i l e => ?_, I.sep⟩
  · rw [upd_ne (ne_of_none e gp)]; exact I.sub b u e
  · obtain ⟨t, hf, k1, k2, k3⟩ := I.box B C e
    exact ⟨t, hf, by rw [upd_ne (fun z => nt (.inl ⟨B, C, e, .inl z.symm⟩))]; exact k1, by rw [upd_ne (fun z => nt (.inl ⟨B, C, e, .inr z.symm⟩))]; exact k2, k3⟩
  · obtain ⟨a, xs, k1, k2, k3⟩ := I.mt i l e
    exact ⟨a, xs, k1, by rw [upd_ne (no ⟨.inl ⟨l, e⟩, k1⟩)]; exact k2, k3⟩
  · obtain ⟨a, xs, k1, k2, k3⟩ := I.dm i l e
    exact ⟨a, xs, k1, by rw [upd_ne (no ⟨.inr ⟨l, e⟩, k1⟩)]; exact k2, k3⟩
inductive RPs (c : Cf) (G : Hp) : List (V × V) → List (PyData × PyData) → Prop
  | nil : RPs c G [] []
  | cons {x y : V} {ps : List (V × V)} {k d : PyData} {es : List (PyData × PyData)} : RpX c G x k → RpX c G y d → RPs c G ps es → RPs c G ((x, y) :: ps) ((k, d) :: es)
theorem RPs.mono {c : Cf} {G G' : Hp} (e : Same G G') : ∀ {ps : List (V × V)} {es : List (PyData × PyData)}, RPs c G ps es → RPs c G' ps es
  | _, _, .nil => .nil
  | _, _, .cons a b t => .cons (a.mono e) (b.mono e) (t.mono e)
abbrev Prs := List (PyData × PyData)
structure EPs (X : Cx) (bx : Option (Addr × Addr)) (pos : Pos) (ks : List (Option Expr)) (vs : List Expr) (f : M Prs) : Prop where
  ex : ∃ trs, PPs X pos ks vs trs ∧ ∀ (σ : St) (H : Hp) (Q : List (V × V) → Hp → Prop), rd ⟨X.K, bx⟩ (RPs ⟨X.K, bx⟩) f σ H Q → tPairs trs σ H Q
def pNil : M Prs := pur []
def pCons (fk fv : M PyData) (fr : M Prs) : M Prs := bnd fk fun k => bnd fv fun v => bnd fr fun r => pur ((k, v) :: r)
def mergeD (es : Prs) : Option Prs := es.foldl (fun acc e => acc.bind fun a => (Ev.keyOf e.1).map fun k => putD a k e.2) (some [])
def dispD (es : Prs) : Option PyData := if es.length ≤ 15 ∧ (es.all fun e => notBox e.2) = true then (mergeD es).bind fun r => if okD r then some (.dict r) else none else none
def fDisp (f : M Prs) : M PyData := bnd f fun es => lft (dispD es)
section
variable {X : Cx} {bx : Option (Addr × Addr)} {c : Cf} {pos p : Pos} {k v e a : Expr} {ks : List (Option Expr)} {vs es : List Expr} {fk fv fa : M PyData} {fr : M Prs} {fs : M (List PyData)} {x : Str}
theorem pNl : EPs X bx pos [] [] pNil := ⟨⟨[], pps_nil, fun σ H Q ⟨G, q⟩ => let ⟨_, I, k⟩ := q.pure; k _ _ _ I Mv.refl .nil⟩⟩
theorem pCn (hk : EE X bx k fk) (hv : EE X bx v fv) (hr : EPs X bx pos ks vs fr) : EPs X bx pos (some k :: ks) (v :: vs) (pCons fk fv fr) := by
  obtain ⟨trs, h1, h2⟩ := hr.ex
  refine ⟨⟨_, pps_cons hk hv h1, fun σ H Q h => ?_⟩⟩
  refine (rd.bind (R := RpX ⟨X.K, bx⟩) h).mono fun x H1 ⟨a, G1, ra, q1⟩ => ?_
  refine (q1.bind (R := RpX ⟨X.K, bx⟩)).rd.mono fun y H2 ⟨b, G2, s2, rb, q2⟩ => ?_
  refine h2 σ H2 _ ((q2.bind (R := RPs ⟨X.K, bx⟩)).rd.mono fun ps H3 ⟨r, G3, s3, rr, q3⟩ => ?_)
  obtain ⟨s, I, k⟩ := q3.pure
  exact k _ _ _ I Mv.refl (.cons ((ra.mono s2).mono s3) (rb.mono s3) rr)
theorem merge_rp {G : Hp} : ∀ {ps : List (V × V)} {es acc r : Prs} {kvs0 : List (Key × V)}, RPs c G ps es → (es.all fun e => notBox e.2) = true → RpKvs c.K G kvs0 acc → es.foldl (fun acc e => acc.bind fun a => (Ev.keyOf e.1).map fun k => putD a k e.2) (some acc) = some r →
    ∃ kvs : List (Key × V), ps = kvs.map (fun kv => (kV kv.1, kv.2)) ∧ kvs.length = es.length ∧ RpKvs c.K G (kvs.foldl (fun acc kv => putK acc kv.1 kv.2) kvs0) r
  | _, _, acc, r, kvs0, .nil, _, r0, e => by
    simp only [List.foldl_nil, Option.some.injEq] at e
    subst e
    exact ⟨[], rfl, rfl, r0⟩
  | _, _, acc, r, kvs0, @RPs.cons _ _ x y ps k d es rx ry t, nb, r0, e => by
    rw [List.all_cons, Bool.and_eq_true] at nb
    rw [List.foldl_cons] at e
    cases ek : Ev.keyOf k with
    | none =>
      have : ∀ l : Prs, l.foldl (fun acc e => acc.bind fun a => (Ev.keyOf e.1).map fun k => putD a k e.2) none = none := fun l => by
        induction l with
        | nil => rfl
        | cons z l ih => rw [List.foldl_cons]; exact ih
      simp only [Option.bind_some, ek, Option.map_none] at e
      rw [this] at e
      cases e
    | some kk =>
      simp only [Option.bind_some, ek, Option.map_some] at e
      obtain ⟨kvs, h1, h2, h3⟩ := merge_rp t nb.2 (kvs_put (k := kk) (ry.rp nb.1) r0) e
      have ex := key_of ek rx
      subst ex
      exact ⟨(kk, y) :: kvs, by rw [List.map_cons, ← h1], by rw [List.length_cons, List.length_cons, h2], h3⟩
theorem eDisp (h : EPs X bx pos ks vs fr) (hall : ks.all (·.isSome) = true := by rfl) (hl : ks.length = vs.length := by rfl) (h0 : ks ≠ [] := by exact List.cons_ne_nil _ _) (h15 : ks.length ≤ 15 := by decide) : EE X bx (.Dict ks vs pos) (fDisp fr) := by
  obtain ⟨trs, h1, h2⟩ := h.ex
  refine peI (pe_disp h1 hall hl h0 h15) fun σ H Q h => ?_
  intro p hp
  obtain ⟨G, env, s, d, env', s', I, e, k⟩ := h
  cases ef : fr env s with
  | none => simp [fDisp, bnd, ef] at e
  | some q =>
    obtain ⟨es, e1, s1⟩ := q
    simp only [fDisp, bnd, ef] at e
    cases ed : dispD es with
    | none => rw [ed] at e; simp [lft] at e
    | some dd =>
      rw [ed] at e
      simp only [lft, Option.some.injEq, Prod.mk.injEq] at e
      obtain ⟨rfl, rfl, rfl⟩ := e
      obtain ⟨J0, m0⟩ := I.base.allocM hp (.dK [])
      have I1 := I.lift J0 m0
      refine h2 σ _ _ ⟨G, env, s, es, e1, s1, I1, ef, fun ps G2 H2 I2 m2 rr => ?_⟩
      obtain ⟨hp2, gp2', nt2⟩ := m2.keep p _ upd_same (fun t => by
        obtain ⟨o, z⟩ := tch_some I t
        rw [hp] at z; cases z)
      have gp2 := gp2' (I.free hp)
      unfold dispD at ed
      split at ed
      · rename_i hc
        cases em : mergeD es with
        | none => rw [em] at ed; cases ed
        | some r =>
          rw [em] at ed
          simp only [Option.bind_some] at ed
          split at ed
          · rename_i hok
            cases ed
            obtain ⟨kvs, h3, h4, h5⟩ := merge_rp rr hc.2 .nil em
            refine ⟨hp2, kvs, h3, by rw [h4]; exact hc.1, ?_⟩
            have I3 := I2.off gp2 nt2 (.dK (mergeK [] kvs))
            have I4 := I3.absorb (p := p) (o := .dK (mergeK [] kvs)) upd_same gp2 nt2
            have sg : Same G2 (upd G2 p (.dK (mergeK [] kvs))) := fun b u e => by rw [upd_ne (ne_of_none e gp2)]; exact e
            refine k (.ref p) _ _ I4 ⟨m2.sub.trans sg, fun b o hb n => ?_, fun b o hb => ?_⟩ (.inl (.dct upd_same (RpKvs.mono sg h5)))
            · have nb := ne_of_none hb hp
              obtain ⟨z1, z2, z3⟩ := m2.keep b o (by rw [upd_ne nb]; exact hb) n
              exact ⟨by rw [upd_ne nb]; exact z1, fun z => by rw [upd_ne nb]; exact z2 z, z3⟩
            · have nb := ne_of_none hb hp
              obtain ⟨o', z⟩ := m2.stay b o (by rw [upd_ne nb]; exact hb)
              exact ⟨o', by rw [upd_ne nb]; exact z⟩
          · cases ed
      · cases ed

/-! ### sorted(dict), its keys texts -/
def insAll (x : Str) : List Str → List (List Str)
  | [] => [[x]]
  | y :: ys => (x :: y :: ys) :: (insAll x ys).map (y :: ·)
def permsS : List Str → List (List Str)
  | [] => [[]]
  | x :: xs => (permsS xs).flatMap (insAll x)
theorem mem_insAll (x : Str) : ∀ a b : List Str, a ++ x :: b ∈ insAll x (a ++ b)
  | [], b => by cases b <;> simp [insAll]
  | y :: a, b => by
    have := mem_insAll x a b
    simp only [List.cons_append, insAll, List.mem_cons, List.mem_map]
    exact .inr ⟨_, this, rfl⟩
theorem mem_perms : ∀ (ks ys : List Str), ys.Perm ks → ys ∈ permsS ks
  | [], ys, h => by rw [h.eq_nil]; simp [permsS]
  | x :: xs, ys, h => by
    obtain ⟨a, b, rfl⟩ := List.append_of_mem (h.mem_iff.mpr List.mem_cons_self)
    have h2 : (a ++ b).Perm xs := (List.perm_middle.symm.trans h).cons_inv
    unfold permsS
    rw [List.mem_flatMap]
    exact ⟨_, mem_perms xs _ h2, mem_insAll x a b⟩
def gSortK : PyData → Option (List PyData)
  | .dict es => if okD es then (strsOf (es.map (·.1))).bind fun ks => if ks.length < 64 then ((permsS ks).filter PyProof.Rows.sortedS).head?.bind fun zs => if (permsS ks).all (fun ys => !PyProof.Rows.sortedS ys || decide (ys = zs)) then some (zs.map PyData.str) else none else none else none
  | _ => none
theorem keysD {K : PySem.W.Frag} {G : Hp} : ∀ {kvs : List (Key × V)} {es : Prs}, RpKvs K G kvs es → ∀ ks : List Str, es.map (·.1) = ks.map PyData.str → kvs.map (·.1) = ks.map Sum.inr
  | _, _, .nil, [], _ => rfl
  | _, _, .nil, _ :: _, h => by cases h
  | _, _, .cons r t, [], h => by cases h
  | _, _, @RpKvs.cons _ _ k v kvs d es r t, s :: ks, h => by
    rw [List.map_cons, List.map_cons] at h
    injection h with h1 h2
    rw [List.map_cons, List.map_cons, keysD t ks h2]
    cases k with
    | inl i => cases h1
    | inr z => injection h1 with h1; rw [← h1]
theorem fSortK {kk : M PyData} (hc : X.calm = true) (hm : X.mg "sorted" = none) (ha : EK X bx e kk) (hg : Gl X "sorted" := by rfl) (h1 : starEach [e] X.env = (false, eval e X.env) :: starEach [] X.env := by rfl) (h2 : (backTo pos (starEach [] X.env)).any (·.1) = false := by rfl) :
    EF X bx (.Call (.Name "sorted" p) [e] [] pos) (fFr kk gSortK) := peI (pe_callB (L2.call_sortedD hc) hg hm (by decide +kernel) (pa_cons ha pa_nil h1) (by decide) (by decide) h1 h2) fun σ H Q h => by
  obtain ⟨G, env, s, l, env', s', I, e, k⟩ := h
  cases ef : kk env s with
  | none => simp [fFr, bnd, ef] at e
  | some q =>
    obtain ⟨b, e1, s1⟩ := q
    simp only [fFr, bnd, ef] at e
    refine ⟨G, env, s, b, e1, s1, I, ef, fun y G' G2 H' J m w1 w2 rb => ?_⟩
    cases eg : gSortK b with
    | none => rw [eg] at e; simp [lft] at e
    | some z =>
      rw [eg] at e
      simp only [lft, Option.some.injEq, Prod.mk.injEq] at e
      obtain ⟨rfl, rfl, rfl⟩ := e
      unfold gSortK at eg
      split at eg
      · rename_i es
        split at eg
        · rename_i hok
          cases ek : strsOf (es.map (·.1)) with
          | none => rw [ek] at eg; cases eg
          | some ks =>
            rw [ek] at eg
            simp only [Option.bind_some] at eg
            split at eg
            · rename_i h64
              cases eh : ((permsS ks).filter PyProof.Rows.sortedS).head? with
              | none => rw [eh] at eg; cases eg
              | some zs =>
                rw [eh] at eg
                simp only [Option.bind_some] at eg
                split at eg
                · rename_i hu
                  cases eg
                  cases rb.rp (okD_nb hok) with
                  | fn _ => simp [okD] at hok
                  | @dct a kvs _ hgk rk =>
                    refine ⟨a, kvs, ks, rfl, .inl (w2 _ _ hgk), keysD rk ks (strsOf_eq ek), h64, fun ys p hp hs hn => ?_⟩
                    have hy := List.all_eq_true.mp hu ys (mem_perms ks ys hp)
                    rw [hs] at hy
                    have : ys = zs := by simpa using hy
                    subst this
                    obtain ⟨J2, m2⟩ := J.base.allocM hn (.lst (ys.map V.str))
                    exact k p _ G' _ (J.lift J2 m2) (m.trans m2.lift) (m.fresh hn) upd_same (J.free hn) (rpStrs ys) (tch_not J hn)
                · cases eg
            · cases eg
        · cases eg
      · cases eg

/-! ### tuple * int -/
def gRep : PyData → PyData → Option PyData
  | .tuple xs, .int n => if xs ≠ [] ∧ 2 ≤ n ∧ n ≤ 1000 ∧ xs.length ≤ 1000 then some (.tuple (List.replicate n.toNat xs).flatten) else none
  | _, _ => none
theorem rp_rep {K : PySem.W.Frag} {G : Hp} {xs : List V} {ds : List PyData} (r : RpAll K G xs ds) : ∀ n : Nat, RpAll K G (List.replicate n xs).flatten (List.replicate n ds).flatten
  | 0 => .nil
  | n + 1 => by rw [List.replicate_succ, List.replicate_succ, List.flatten_cons, List.flatten_cons]; exact r.append (rp_rep r n)

theorem kvs_keyOk {K : PySem.W.Frag} {G : Hp} : ∀ {kvs : List (Key × V)} {es : List (PyData × PyData)}, RpKvs K G kvs es → (es.all fun e => (Ev.keyOf e.1).isSome) = true
  | _, _, .nil => rfl
  | _, _, @RpKvs.cons _ _ k v kvs d es r t => by
    rw [List.all_cons, kvs_keyOk t, Bool.and_true]
    cases k <;> rfl
/-! ### defs as values, tables of defs -/
def fnD (x : Str) : PyData := .dict [(.bool true, .str x)]
structure FV (K : PySem.W.Frag) (mg : Str → Option Value) (x : Str) : Prop where
  ex : ∃ fa, PySem.W.nsIn K mainGlobals x = some (some (.ref fa)) ∧ mg x = some (.ref fa)
theorem eFn (h : FV X.K X.mg x) (hg : Gl X x := by rfl) (hd : (x == ("__debug__" : Str)) = false := by decide) : EE X bx (.Name x pos) (pur (fnD x)) := by
  obtain ⟨fa, h1, h2⟩ := h.ex
  exact eC (pe_glob hg h2 (show RelV (.ref fa) (.ref fa) from rfl) hd) fun _ => .fn h1
abbrev FF := List PyData → Bx → Option (PyData × Bx)
/-- the defs that a value may be -/
structure Defs (P : Program) (w : World) (K : PySem.W.Frag) (mg : Str → Option Value) (base : Heap) (k : Nat) (S : List (Str × FF)) : Prop where
  ex : ∀ n f, S.lookup n = some f → ∃ (fa : Addr) (fd : FuncData) (ps : List Str), PySem.W.nsIn K mainGlobals n = some (some (.ref fa)) ∧ FnOk P w K mg base CX0 k fa fd ps (spOf K f) ∧ PySem.W.keepIn K (.ref fa) = true ∧ Binds K fd ps []
def tCallX (X : Cx) (k : Nat) (tf : TE) (t : TA) : TE := fun σ H Q => tf σ H fun y H1 => ∃ (fa : Addr) (fd : FuncData) (ps : List Str) (sp : Sp), y = .ref fa ∧ FnOk X.prog X.w X.K X.mg X.base CX0 k fa fd ps sp ∧ PySem.W.keepIn X.K (.ref fa) = true ∧ Binds X.K fd ps [] ∧ t σ H1 fun vs H2 => sp vs H2 Q E0
theorem pe_callX {fe : Expr} {tf : TE} {t : TA} {kk : Nat} (hf : PE X fe tf) (hr : Room kk X.A) (ha : PA X (e :: es) t)
    (ht : eval (.Call fe (e :: es) [] pos) X.env = (do callWith pos (← eval fe X.env) [] (backTo pos (starEach (e :: es) X.env)) (backToKw pos (keywordEach [] X.env))) := by rfl)
    (he : starEach (e :: es) X.env = (false, eval e X.env) :: starEach es X.env := by rfl) (hpl : (backTo pos (starEach es X.env)).any (·.1) = false := by rfl) : PE X (.Call fe (e :: es) [] pos) (tCallX X kk tf t) := by
  refine ⟨fun pins s σ H Q I h => ?_⟩
  refine PyProof.Rows.Call_ (thn (hf.run pins s σ H _ I h) fun u s1 ⟨y, H1, I1, ry, fa, fd, ps, sp, ey, F, kp, hb, q⟩ => ?_) ht
  subst ey
  obtain rfl : u = Value.ref fa := ry
  refine PySem.W.callWith_K (h₀ := X.base) I.ok.mod.kin kp (thn (ha.run pos pins s1 σ H1 _ I1 q) fun us s2 ⟨vs, H2, I2, r, q2⟩ => ⟨I2.kIn, ?_⟩) he hpl
  exact run_fn F hr hb .nil pass0 I2 r (by rw [List.append_nil]; exact q2)
theorem pe_callXN {i : Nat} {t : TA} {kk : Nat} (hr : Room kk X.A) (hN : X.N[i]? = some x) (hv : Vis X.env.scope x) (ha : PA X (e :: es) t) (hdb : (x == ("__debug__" : Str)) = false := by decide) (hcd : (x == ("__classdict__" : Str)) = false := by decide)
    (he : starEach (e :: es) X.env = (false, eval e X.env) :: starEach es X.env := by rfl) (hpl : (backTo pos (starEach es X.env)).any (·.1) = false := by rfl) : PE X (.Call (.Name x p) (e :: es) [] pos) (tCallX X kk (tVar i) t) := by
  refine ⟨fun pins s σ H Q I h => ?_⟩
  refine wpAny_Call_Name_kw (thn ((pe_var (pos := p) hN hv hdb hcd).run pins s σ H _ I h) fun u s1 ⟨y, H1, I1, ry, fa, fd, ps, sp, ey, F, kp, hb, q⟩ => ?_)
  subst ey
  obtain rfl : u = Value.ref fa := ry
  refine PySem.W.callWith_K (h₀ := X.base) I.ok.mod.kin kp (thn (ha.run pos pins s1 σ H1 _ I1 q) fun us s2 ⟨vs, H2, I2, r, q2⟩ => ⟨I2.kIn, ?_⟩) he hpl
  exact run_fn F hr hb .nil pass0 I2 r (by rw [List.append_nil]; exact q2)
/-- name(e, ..), the name a slot that holds a def -/
def fCallS (i : Nat) (S : List (Str × FF)) (fs : M (List PyData)) : M PyData := fun env s => match env[i]? with
  | some (some (.imm (.dict [(.bool true, .str n)]))) => match S.lookup n with
    | some f => fCall f fs env s
    | none => none
  | _ => none
theorem eCallS {i j kk : Nat} {S : List (Str × FF)} (D : Defs X.prog X.w X.K X.mg X.base kk S) (hr : Room j X.A) (hk : kk ≤ j) (ha : EA X bx (e :: es) fs) (hN : X.N[i]? = some x := by rfl) (hv : Vis X.env.scope x := by first | exact Or.inl rfl | exact Or.inr (Or.inl rfl) | exact Or.inr (Or.inr rfl)) (hdb : (x == ("__debug__" : Str)) = false := by decide) (hcd : (x == ("__classdict__" : Str)) = false := by decide)
    (he : starEach (e :: es) X.env = (false, eval e X.env) :: starEach es X.env := by rfl) (hpl : (backTo pos (starEach es X.env)).any (·.1) = false := by rfl) : EE X bx (.Call (.Name x p) (e :: es) [] pos) (fCallS i S fs) := peI (pe_callXN (i := i) (hr.mono hk) hN hv ha hdb hcd he hpl) fun σ H Q h => by
  obtain ⟨G, env, s, d, env', s', I, ee, k⟩ := h
  simp only [fCallS] at ee
  split at ee
  · rename_i n en
    split at ee
    · rename_i f ef
      obtain ⟨v, h1, h2⟩ := I.val i _ en
      refine ⟨v, h1, ?_⟩
      obtain ⟨fa, fd, ps, h3, h4, h5, h6⟩ := D.ex n f ef
      cases h2.rp rfl with
      | dct _ hk => exact absurd (kvs_keyOk hk) (by simp [Ev.keyOf])
      | fn h7 =>
        rw [h3] at h7
        cases h7
        refine ⟨fa, fd, ps, _, rfl, h4, h5, h6, ?_⟩
        have q := call_run (K := X.K) (bx := bx) (f := f) (fs := fs) (E := E0) (σ := σ) (H := H) (Q := Q) ⟨G, env, s, d, env', s', I, ee, k⟩
        unfold tCall at q
        simp only [List.append_nil] at q
        exact q
    · cases ee
  · cases ee
end
end Ev
end
section
set_option Elab.async false
set_option linter.all false
set_option maxRecDepth 100000
/-! Ev16: tuple * int, tables of the module, digits by trees. -/
namespace Ev
open PySem PySem.Spec L2
set_option autoImplicit false
section
variable {X : Cx} {bx : Option (Addr × Addr)} {pos p p2 : Pos} {a b e : Expr} {es : List Expr} {fa fb fk : M PyData} {fs : M (List PyData)} {x : Str}
theorem eRep (ha : EE X bx a fa) (hb : EE X bx b fb) : EE X bx (.BinOp a .Mult b pos) (fBin fa fb gRep) := eBin op_repT (fun a b d e s G H x y Q I ra rb k => by
  unfold gRep at e
  split at e
  · split at e
    · rename_i h
      cases e
      obtain ⟨q, xs, rfl, hq, rq⟩ := rpTup ra
      cases rpInt rb
      have hl := rq.length
      refine ⟨q, _, xs, rfl, rfl, tup_mono I.sub hq, fun z => ?_, h.2.1, h.2.2.1, by omega, fun p hp => ?_⟩
      · subst z
        cases rq
        exact h.1 rfl
      · obtain ⟨J, m⟩ := I.alloc hp (.tup (List.replicate (Int.toNat _) xs).flatten)
        exact k _ _ _ J m (.inl (.tup (SqT.of upd_same) ((rp_rep rq _).mono m.sub)))
    · cases e
  · cases e) ha hb
/-- a written dict of the module whose values are defs: what is there, some keys that are not -/
structure TabK (P : Program) (w : World) (K : PySem.W.Frag) (mg : Str → Option Value) (base : Heap) (k : Nat) (x : Str) (S : List (Str × FF)) (no : List Str) : Prop where
  ex : ∃ (d : Addr) (es : Array DictEntry) (n : Nat), mg x = some (.ref d) ∧ KDict K w d es n ∧
    (∀ z f, S.lookup z = some f → ∃ (fa : Addr) (fd : FuncData) (ps : List Str), PySem.W.nsIn K d z = some (some (.ref fa)) ∧ FnOk P w K mg base CX0 k fa fd ps (spOf K f) ∧ PySem.W.keepIn K (.ref fa) = true ∧ Binds K fd ps []) ∧
    ∀ z ∈ no, PySem.W.nsIn K d z = some none
def gTab (S : List (Str × FF)) (no : List Str) : PyData → Option PyData
  | .str z => if (S.lookup z).isSome then some (.bool true) else if z ∈ no then some (.bool false) else none
  | _ => none
theorem eInT {kk : Nat} {S : List (Str × FF)} {no : List Str} (T : TabK X.prog X.w X.K X.mg X.base kk x S no) (ha : EE X bx a fa) (hg : Gl X x := by rfl) (hd : (x == ("__debug__" : Str)) = false := by decide) (hm : behindInMarks .In (.Name x p) = false := by rfl) :
    EE X bx (.Compare a [.In] [.Name x p] pos) (f1 fa (gTab S no)) := by
  obtain ⟨d, ed, n, h1, h2, h3, h4⟩ := T.ex
  refine peI (pe_cmpR (op_in_kd h2) ha (pe_glob hg h1 (show RelV (.ref d) (.ref d) from rfl) hd) hm) fun σ H Q h => ?_
  refine (rd.bind (R := RpX ⟨X.K, bx⟩) h).mono fun y H1 ⟨k, G1, ra, q1⟩ => ?_
  obtain ⟨d', e, sub, q⟩ := q1.here
  unfold gTab at e
  split at e
  · rename_i z
    cases rpStr ra
    split at e
    · rename_i hs
      cases e
      cases hf : S.lookup z with
      | none => rw [hf] at hs; cases hs
      | some f =>
        obtain ⟨fa, fd, ps, h5, _⟩ := h3 z f hf
        exact ⟨z, _, rfl, rfl, h5, q _ (.inl (.bl true))⟩
    · split at e
      · rename_i hz
        cases e
        exact ⟨z, _, rfl, rfl, h4 z hz, q _ (.inl (.bl false))⟩
      · cases e
  · cases e
def fCallT (S : List (Str × FF)) (fk : M PyData) (fs : M (List PyData)) : M PyData := bnd fk fun kd => match kd with
  | .str z => match S.lookup z with
    | some f => fCall f fs
    | none => lft none
  | _ => lft none
theorem eCallT {j kk : Nat} {S : List (Str × FF)} {no : List Str} (T : TabK X.prog X.w X.K X.mg X.base kk x S no) (hr : Room j X.A) (hk : kk ≤ j) (hkey : EE X bx b fk) (ha : EA X bx (e :: es) fs) (hg : Gl X x := by rfl) (hd : (x == ("__debug__" : Str)) = false := by decide) (hpi : PlainIx b := by exact fun _ _ => rfl)
    (ht : eval (.Call (.Subscript (.Name x p) b p2) (e :: es) [] pos) X.env = (do callWith pos (← eval (.Subscript (.Name x p) b p2) X.env) [] (backTo pos (starEach (e :: es) X.env)) (backToKw pos (keywordEach [] X.env))) := by rfl)
    (he : starEach (e :: es) X.env = (false, eval e X.env) :: starEach es X.env := by rfl) (hpl : (backTo pos (starEach es X.env)).any (·.1) = false := by rfl) :
    EE X bx (.Call (.Subscript (.Name x p) b p2) (e :: es) [] pos) (fCallT S fk fs) := by
  obtain ⟨d, ed, n, h1, h2, h3, h4⟩ := T.ex
  refine peI (pe_callX (pe_ix ix_kdict (pe_glob hg h1 (show RelV (.ref d) (.ref d) from rfl) hd) hkey hpi) (hr.mono hk) ha ht he hpl) fun σ H Q h => ?_
  refine (rd.bind (R := RpX ⟨X.K, bx⟩) h).mono fun y H1 ⟨k, G1, ra, q1⟩ => ?_
  split at q1
  · rename_i z
    split at q1
    · rename_i f hf
      cases rpStr ra
      obtain ⟨fa, fd, ps, h5, h6, h7, h8⟩ := h3 z f hf
      refine ⟨d, z, .ref fa, rfl, rfl, ⟨ed, n, .ref fa, h2.at_, h2.lit, h5, rfl⟩, fa, fd, ps, _, rfl, h6, h7, h8, ?_⟩
      have q := call_run (K := X.K) (bx := bx) (E := E0) q1.rd
      unfold tCall at q
      simp only [List.append_nil] at q
      exact q
    · obtain ⟨_, _, e, _⟩ := q1.lift; cases e
  · obtain ⟨_, _, e, _⟩ := q1.lift; cases e
end

/-! ### digits by trees -/
inductive Tr where
  | leaf
  | node (m : Nat) (f : Nat → Tr)
def Tr.paths : Tr → List (List (Int × Int))
  | .leaf => [[]]
  | .node m f => (List.range (m + 1)).flatMap fun d => ((f d).paths).map fun p => (((m : Int) + 1, (d : Int)) :: p)
theorem Tr.path : ∀ (T : Tr) (t : BoxSt), ∃ p ∈ T.paths, Fut t p
  | .leaf, t => ⟨[], by simp [Tr.paths], trivial⟩
  | .node m f, t => by
    have hpos : (0 : Int) < (m : Int) + 1 := by omega
    have hd : 0 ≤ (drawA t ((m : Int) + 1)).1 ∧ (drawA t ((m : Int) + 1)).1 < (m : Int) + 1 := by
      unfold drawA
      split
      · exact ⟨Int.emod_nonneg _ (by omega), Int.emod_lt_of_pos _ hpos⟩
      · exact ⟨Int.emod_nonneg _ (by omega), Int.emod_lt_of_pos _ hpos⟩
    obtain ⟨p, hp, hf⟩ := Tr.path (f (drawA t ((m : Int) + 1)).1.toNat) (drawA t ((m : Int) + 1)).2
    refine ⟨((m : Int) + 1, (drawA t ((m : Int) + 1)).1) :: p, ?_, rfl, hf⟩
    unfold Tr.paths
    refine List.mem_flatMap.mpr ⟨(drawA t ((m : Int) + 1)).1.toNat, List.mem_range.mpr (by omega), List.mem_map.mpr ⟨p, hp, ?_⟩⟩
    rw [Int.toNat_of_nonneg hd.1]
theorem BoxAt.path {c : Cf} {H : Hp} {s : Bx} (h : BoxAt c H s) (T : Tr) : ∃ p ∈ T.paths, BoxAt c H ⟨p⟩ := by
  cases hb : c.bx with
  | none =>
    obtain ⟨p, hp, _⟩ := T.path ⟨[], 0, 0⟩
    exact ⟨p, hp, fun B C e => by rw [hb] at e; cases e⟩
  | some q =>
    obtain ⟨B, C⟩ := q
    obtain ⟨t, _, h1, h2, h3⟩ := h B C hb
    obtain ⟨p, hp, hf⟩ := T.path t
    exact ⟨p, hp, fun B' C' e => by rw [hb] at e; cases e; exact ⟨t, hf, h1, h2, h3⟩⟩
theorem INV.rebox {c : Cf} {σ : St} {env : En} {s s' : Bx} {G H : Hp} (I : INV c σ env s G H) (h : BoxAt c H s') : INV c σ env s' G H := ⟨I.sub, h, I.bfree, I.len, I.val, I.mt, I.dm, I.sep⟩
theorem INV.forget {c : Cf} {σ : St} {env env' : En} {s : Bx} {G H : Hp} (I : INV c σ env s G H) (hl : env'.length = env.length) (h : ∀ (i : Nat) (x : EV), env'[i]? = some (some x) → env[i]? = some (some x)) : INV c σ env' s G H := by
  have mt : ∀ {i a}, IsMut env' σ i a → IsMut env σ i a := fun ⟨h1, h2⟩ => ⟨h1.imp (fun ⟨l, e⟩ => ⟨l, h _ _ e⟩) fun ⟨l, e⟩ => ⟨l, h _ _ e⟩, h2⟩
  exact ⟨I.sub, I.box, I.bfree, hl.trans I.len, fun i d e => I.val i d (h i _ e), fun i l e => I.mt i l (h i _ e), fun i l e => I.dm i l (h i _ e), fun i j a h1 h2 => I.sep i j a (mt h1) (mt h2)⟩
/-! data compared -/
mutual
def eqD : PyData → PyData → Bool
  | .none, .none => true
  | .bool a, .bool b => a == b
  | .int a, .int b => decide (a = b)
  | .str a, .str b => decide (a = b)
  | .list a, .list b => eqAll a b
  | .tuple a, .tuple b => eqAll a b
  | .dict a, .dict b => eqPrs a b
  | _, _ => false
def eqAll : List PyData → List PyData → Bool
  | [], [] => true
  | x :: xs, y :: ys => eqD x y && eqAll xs ys
  | _, _ => false
def eqPrs : List (PyData × PyData) → List (PyData × PyData) → Bool
  | [], [] => true
  | (a, b) :: xs, (c, d) :: ys => eqD a c && eqD b d && eqPrs xs ys
  | _, _ => false
end
mutual
theorem eqD_eq : ∀ a b : PyData, eqD a b = true → a = b
  | .none, b, h => by cases b <;> first | rfl | simp [eqD] at h
  | .bool a, b, h => by cases b <;> first | (simp [eqD] at h; rw [h]) | simp [eqD] at h
  | .int a, b, h => by cases b <;> first | (simp [eqD] at h; rw [h]) | simp [eqD] at h
  | .str a, b, h => by cases b <;> first | (simp [eqD] at h; rw [h]) | simp [eqD] at h
  | .list a, b, h => by
    cases b with
    | list b => rw [eqAll_eq a b (by simpa [eqD] using h)]
    | _ => simp [eqD] at h
  | .tuple a, b, h => by
    cases b with
    | tuple b => rw [eqAll_eq a b (by simpa [eqD] using h)]
    | _ => simp [eqD] at h
  | .dict a, b, h => by
    cases b with
    | dict b => rw [eqPrs_eq a b (by simpa [eqD] using h)]
    | _ => simp [eqD] at h
theorem eqAll_eq : ∀ a b : List PyData, eqAll a b = true → a = b
  | [], [], _ => rfl
  | x :: xs, y :: ys, h => by
    have h' : eqD x y = true ∧ eqAll xs ys = true := by simpa [eqAll] using h
    rw [eqD_eq x y h'.1, eqAll_eq xs ys h'.2]
  | [], _ :: _, h => by simp [eqAll] at h
  | _ :: _, [], h => by simp [eqAll] at h
theorem eqPrs_eq : ∀ a b : List (PyData × PyData), eqPrs a b = true → a = b
  | [], [], _ => rfl
  | (a, b) :: xs, (c, d) :: ys, h => by
    have h' : (eqD a c = true ∧ eqD b d = true) ∧ eqPrs xs ys = true := by simpa [eqPrs] using h
    rw [eqD_eq a c h'.1.1, eqD_eq b d h'.1.2, eqPrs_eq xs ys h'.2]
  | [], _ :: _, h => by simp [eqPrs] at h
  | _ :: _, [], h => by simp [eqPrs] at h
end
/-- the slots that are known in a are so in b -/
def knownE : En → En → Bool
  | [], [] => true
  | none :: r, _ :: t => knownE r t
  | some (.imm d) :: r, some (.imm d') :: t => eqD d d' && knownE r t
  | _, _ => false
theorem knownE_ok : ∀ {a b : En}, knownE a b = true → a.length = b.length ∧ ∀ (i : Nat) (x : EV), a[i]? = some (some x) → b[i]? = some (some x)
  | [], [], _ => ⟨rfl, fun i x e => e⟩
  | none :: r, _ :: t, h => by
    have h' : knownE r t = true := by simpa [knownE] using h
    obtain ⟨h1, h2⟩ := knownE_ok h'
    refine ⟨by simp [h1], fun i x e => ?_⟩
    cases i with
    | zero => simp at e
    | succ i => simpa using h2 i x (by simpa using e)
  | some (.imm d) :: r, some (.imm d') :: t, h => by
    have h' : eqD d d' = true ∧ knownE r t = true := by simpa [knownE] using h
    obtain ⟨h1, h2⟩ := knownE_ok h'.2
    have := eqD_eq d d' h'.1
    subst this
    refine ⟨by simp [h1], fun i x e => ?_⟩
    cases i with
    | zero => simpa using e
    | succ i => simpa using h2 i x (by simpa using e)
  | some (.imm _) :: _, none :: _, h => by simp [knownE] at h
  | some (.imm _) :: _, some (.mut _) :: _, h => by simp [knownE] at h
  | some (.imm _) :: _, some (.dmut _) :: _, h => by simp [knownE] at h
  | some (.mut _) :: _, _ :: _, h => by simp [knownE] at h
  | some (.dmut _) :: _, _ :: _, h => by simp [knownE] at h
  | [], _ :: _, h => by simp [knownE] at h
  | _ :: _, [], h => by simp [knownE] at h
end Ev
end
section
set_option Elab.async false
set_option linter.all false
set_option maxRecDepth 100000
namespace K70
open PySem PySem.Spec L2 Ev
set_option autoImplicit false
def top (i : Nat) : Stmt := PySem.Challenge.pw_treesheld_k70_whole_claims.main.body.getD i (.Pass ⟨0, 0, 0, 0⟩)
theorem hu65 {A : Around} {k : Nat} (r : Room k A) : A.units + 65 < cLine := by have := r.un; omega
structure Txt (K : PySem.W.Frag) (mg : Str → Option Value) : Prop where
  isinstance : mg "isinstance" = none
  ty_int : mg "int" = none
  ty_bool : mg "bool" = none
  ty_str : mg "str" = none
  ty_tuple : mg "tuple" = none
  ty_list : mg "list" = none
  len : mg "len" = none
  all : mg "all" = none
  any : mg "any" = none
  sum : mg "sum" = none
  tuple : mg "tuple" = none
  list : mg "list" = none
  range : mg "range" = none
  zip : mg "zip" = none
  enumerate : mg "enumerate" = none
  sorted : mg "sorted" = none
  set : mg "set" = none
def strsD (xs : List Str) : PyData := .tuple (xs.map PyData.str)
def d_RESERVED : PyData := .tuple [.str "all", .str "any", .str "none"]
def d_SMALL : PyData := .str "abcdefghijklmnopqrstuvwxyz"
def d_DIGITS : PyData := .str "0123456789"
def d_SIGNS : PyData := .str "abcdefghijklmnopqrstuvwxyz0123456789-"
def d_MOST_KEY : PyData := .int 12
def d_MOST_VALUE : PyData := .int 200
def d_AHEAD : PyData := .tuple [.str "", .int 0]
def d_MOST_FRAMES : PyData := .int 1000
def d_DEGREES : PyData := .tuple [.str "serial", .str "snapshot"]
def d_MOST_MANY : PyData := .int 200
def d_MOST_JUDGED : PyData := .int 7
def d_KINDS : PyData := .tuple [.str "done", .str "undone"]
def d_GREATEST_TIME : PyData := .int 1000000000
def d_MOST_COURSE : PyData := .int 120
def d_GREATEST_PAGE_NUMBER : PyData := .int 1000000000
section
variable {P : Program} {w : World} {K : PySem.W.Frag} {mg : Str → Option Value} {base : Heap}
abbrev s_is_whole : Stmt := top 5
theorem sc_is_whole : FnScope ["value"] ["value"] (defScope s_is_whole) := ⟨rfl, rfl, rfl, by decide +kernel, rfl, by decide +kernel, by decide +kernel⟩
def f_is_whole : List PyData → Bx → Option (PyData × Bx) := fnOf 1 1 (sRet (fAnd (f1 (fVar 0) (gIsi "int")) (fNot (f1 (fVar 0) (gIsi "bool")))))
theorem ok_is_whole {f : Addr} {fd : FuncData} (F : Fun K "is_whole" "is_whole" s_is_whole f fd) (T : Txt K mg) : FnOk P w K mg base CX0 1 f fd ["value"] (spOf K f_is_whole) :=
  fn_ok F sc_is_whole fun cdv A outer s H E bx hr =>
    have hu65 := hu65 hr
    have hu := hu_of hr
    (bOne (sRt (eAnd (eIsi (TN := "int") T.isinstance T.ty_int (by decide +kernel) (eVar 0)) (eOne (eNot (eIsi (TN := "bool") T.isinstance T.ty_bool (by decide +kernel) (eVar 0)))))))

abbrev s_is_number : Stmt := top 6
theorem sc_is_number : FnScope ["value", "least", "most"] ["value", "least", "most"] (defScope s_is_number) := ⟨rfl, rfl, rfl, by decide +kernel, rfl, by decide +kernel, by decide +kernel⟩
def f_is_number : List PyData → Bx → Option (PyData × Bx) := fnOf 3 3 (sRet (fAnd (f1 (fVar 0) (gIsi "int")) (fAnd (fNot (f1 (fVar 0) (gIsi "bool"))) (fChain (fVar 1) (fVar 0) (fVar 2) gLe gLe))))
theorem ok_is_number {f : Addr} {fd : FuncData} (F : Fun K "is_number" "is_number" s_is_number f fd) (T : Txt K mg) : FnOk P w K mg base CX0 1 f fd ["value", "least", "most"] (spOf K f_is_number) :=
  fn_ok F sc_is_number fun cdv A outer s H E bx hr =>
    have hu65 := hu65 hr
    have hu := hu_of hr
    (bOne (sRt (eAnd (eIsi (TN := "int") T.isinstance T.ty_int (by decide +kernel) (eVar 0)) (eAnd (eNot (eIsi (TN := "bool") T.isinstance T.ty_bool (by decide +kernel) (eVar 0))) (eOne (eCh cLe cLe (eVar 1) (eVar 0) (eVar 2)))))))

abbrev s_is_ascending : Stmt := top 7
theorem sc_is_ascending : FnScope ["rows", "k"] ["rows"] (defScope s_is_ascending) := ⟨rfl, rfl, rfl, by decide +kernel, rfl, by decide +kernel, by decide +kernel⟩
def f_is_ascending : List PyData → Bx → Option (PyData × Bx) := fnOf 2 1 (sRet (f1 (fLst (fLc (fRng rngArg1 (aCons (fBin (f1 (fPk 0) gLen) (pur (.int 1)) gSub) aNil)) (tgName 1) (pur true) (fBin (fIxK 0 (fVar 1)) (fIxK 0 (fBin (fVar 1) (pur (.int 1)) gAdd)) gLt) [1])) gAll))
theorem ok_is_ascending {f : Addr} {fd : FuncData} (F : Fun K "is_ascending" "is_ascending" s_is_ascending f fd) (T : Txt K mg) : FnOk P w K mg base CX0 1 f fd ["rows"] (spOf K f_is_ascending) :=
  fn_ok F sc_is_ascending fun cdv A outer s H E bx hr =>
    have hu65 := hu65 hr
    have hu := hu_of hr
    (bOne (sRt (eAll rfl T.all (eLst (eLc rfl sc_is_ascending.nd (iRng1e T.range (aCn (eSub (eLenK T.len (kVar 0)) eInt) aNl)) (own := [("k", 1)]) (blkOk_by (N := ["rows", "k"]) (sc := defScope s_is_ascending) (by decide +kernel)) (fun _ _ _ _ _ => (gNam sc_is_ascending.nd (i := 1))) (fun _ _ _ _ _ => tsNo) (fun _ _ _ _ _ => (eCm (cLt hu65) (eIxK (i := 0) (eVar 1)) (eIxK (i := 0) (eAdd (eVar 1) eInt)))))))))

abbrev s_are_signs : Stmt := top 13
theorem sc_are_signs : FnScope ["value", "sign"] ["value"] (defScope s_are_signs) := ⟨rfl, rfl, rfl, by decide +kernel, rfl, by decide +kernel, by decide +kernel⟩
def f_are_signs : List PyData → Bx → Option (PyData × Bx) := fnOf 2 1 (sRet (fAnd (f1 (fVar 0) (gIsi "str")) (f1 (fLst (fLc (fItems (fVar 0)) (tgName 1) (pur true) (fBin (fVar 1) (pur d_SIGNS) gIn) [1])) gAll)))
theorem ok_are_signs {f : Addr} {fd : FuncData} (F : Fun K "are_signs" "are_signs" s_are_signs f fd) (T : Txt K mg) (g_SIGNS : GC K mg "SIGNS" d_SIGNS) : FnOk P w K mg base CX0 1 f fd ["value"] (spOf K f_are_signs) :=
  fn_ok F sc_are_signs fun cdv A outer s H E bx hr =>
    have hu65 := hu65 hr
    have hu := hu_of hr
    (bOne (sRt (eAnd (eIsi (TN := "str") T.isinstance T.ty_str (by decide +kernel) (eVar 0)) (eOne (eAll rfl T.all (eLst (eLc rfl sc_are_signs.nd (iAny (eVar 0)) (own := [("sign", 1)]) (blkOk_by (N := ["value", "sign"]) (sc := defScope s_are_signs) (by decide +kernel)) (fun _ _ _ _ _ => (gNam sc_are_signs.nd (i := 1))) (fun _ _ _ _ _ => tsNo) (fun _ _ _ _ _ => (eCm (cIn hu65) (eVar 1) (eGl g_SIGNS))))))))))

abbrev s_is_key : Stmt := top 14
theorem sc_is_key : FnScope ["value"] ["value"] (defScope s_is_key) := ⟨rfl, rfl, rfl, by decide +kernel, rfl, by decide +kernel, by decide +kernel⟩
def f_is_key : List PyData → Bx → Option (PyData × Bx) := fnOf 1 1 (sRet (fAnd (fCall f_are_signs (aCons (fVar 0) aNil)) (fChain (pur (.int 1)) (f1 (fPk 0) gLen) (pur d_MOST_KEY) gLe gLe)))
theorem ok_is_key {f : Addr} {fd : FuncData} (F : Fun K "is_key" "is_key" s_is_key f fd) (T : Txt K mg) (g_MOST_KEY : GC K mg "MOST_KEY" d_MOST_KEY) (c_are_signs : Cal P w K mg base 1 "are_signs" f_are_signs) : FnOk P w K mg base CX0 2 f fd ["value"] (spOf K f_is_key) :=
  fn_ok F sc_is_key fun cdv A outer s H E bx hr =>
    have hu65 := hu65 hr
    have hu := hu_of hr
    (bOne (sRt (eAnd (eCall c_are_signs hr (by decide) (aCn (eVar 0) aNl)) (eOne (eCh cLe cLe eInt (eLenK T.len (kVar 0)) (eGl g_MOST_KEY))))))

abbrev s_is_stored : Stmt := top 15
theorem sc_is_stored : FnScope ["value"] ["value"] (defScope s_is_stored) := ⟨rfl, rfl, rfl, by decide +kernel, rfl, by decide +kernel, by decide +kernel⟩
def f_is_stored : List PyData → Bx → Option (PyData × Bx) := fnOf 1 1 (sRet (fAnd (fCall f_are_signs (aCons (fVar 0) aNil)) (fBin (f1 (fPk 0) gLen) (pur d_MOST_VALUE) gLe)))
theorem ok_is_stored {f : Addr} {fd : FuncData} (F : Fun K "is_stored" "is_stored" s_is_stored f fd) (T : Txt K mg) (g_MOST_VALUE : GC K mg "MOST_VALUE" d_MOST_VALUE) (c_are_signs : Cal P w K mg base 1 "are_signs" f_are_signs) : FnOk P w K mg base CX0 2 f fd ["value"] (spOf K f_is_stored) :=
  fn_ok F sc_is_stored fun cdv A outer s H E bx hr =>
    have hu65 := hu65 hr
    have hu := hu_of hr
    (bOne (sRt (eAnd (eCall c_are_signs hr (by decide) (aCn (eVar 0) aNl)) (eOne (eCm cLe (eLenK T.len (kVar 0)) (eGl g_MOST_VALUE))))))

abbrev s_is_read : Stmt := top 25
theorem sc_is_read : FnScope ["value", "word", "parts"] ["value"] (defScope s_is_read) := ⟨rfl, rfl, rfl, by decide +kernel, rfl, by decide +kernel, by decide +kernel⟩
def f_is_read : List PyData → Bx → Option (PyData × Bx) := fnOf 3 1 (sSeq (sPar [1, 2] (vCons (vImm (fIxK 0 (pur (.int 0)))) (vCons (vImm (fSl (fVar 0) (oSm (pur (.int 1))) (pur none))) vNil))) (sSeq (sIf (tbl (fBin (fVar 1) (pur (.str "get")) gEq)) (sRet (fAnd (fBin (f1 (fPk 2) gLen) (pur (.int 1)) gEq) (fCall f_is_key (aCons (fIxK 2 (pur (.int 0))) aNil)))) sNext) (sSeq (sIf (tbl (fBin (fVar 1) (pur (.str "count")) gEq)) (sRet (fAnd (fBin (f1 (fPk 2) gLen) (pur (.int 2)) gEq) (fAnd (lft none) (lft none)))) sNext) (sSeq (sIf (tOrM (tbl (fBin (fVar 1) (pur (.str "walk")) gNe)) (tOrM (tbl (fBin (f1 (fPk 2) gLen) (pur (.int 4)) gNe)) (tOrM (tNotM (lft none)) (tNotM (lft none))))) (sRet (pur (.bool false))) sNext) (sRet (fAnd (fCall f_is_number (aCons (fIxK 2 (pur (.int 2))) (aCons (pur (.int 1)) (aCons (pur d_MOST_MANY) aNil)))) (f1 (fIxK 2 (pur (.int 3))) (gIsi "bool"))))))))
theorem ok_is_read {f : Addr} {fd : FuncData} (F : Fun K "is_read" "is_read" s_is_read f fd) (T : Txt K mg) (g_MOST_MANY : GC K mg "MOST_MANY" d_MOST_MANY) (c_is_key : Cal P w K mg base 2 "is_key" f_is_key) (c_is_number : Cal P w K mg base 1 "is_number" f_is_number) : FnOk P w K mg base CX0 3 f fd ["value"] (spOf K f_is_read) :=
  fn_ok F sc_is_read fun cdv A outer s H E bx hr =>
    have hu65 := hu65 hr
    have hu := hu_of hr
    (bCons (sAsg2 rfl sc_is_read.nd (xsCons (xImm (eIxK (i := 0) eInt)) (xsCons (xImm (eSl (eVar 0) (oSo eInt) oNo)) xsNil)) (i := 1) (j := 2)) (bCons (sIff (tCm (cEq hu65) (eVar 1) eStr) (bOne (sRt (eAnd (eCm (cEq hu65) (eLenK T.len (kVar 2)) eInt) (eOne (eCall c_is_key hr (by decide) (aCn (eIxK (i := 2) eInt) aNl)))))) bNil) (bCons (sIff (tCm (cEq hu65) (eVar 1) eStr) (bOne (sRt (eAnd (eCm (cEq hu65) (eLenK T.len (kVar 2)) eInt) (eAnd eNo (eOne eNo))))) bNil) (bCons (sIff (tW (tOr2 (tCm (cNe hu65) (eVar 1) eStr) (tOr2 (tCm (cNe hu65) (eLenK T.len (kVar 2)) eInt) (tOr2 (tNt tNo) (tOr1 (tNt tNo)))))) (bOne (sRt eBool)) bNil) (bOne (sRt (eAnd (eCall c_is_number hr (by decide) (aCn (eIxK (i := 2) eInt) (aCn eInt (aCn (eGl g_MOST_MANY) aNl)))) (eOne (eIsi (TN := "bool") T.isinstance T.ty_bool (by decide +kernel) (eIxK (i := 2) eInt))))))))))

abbrev s_is_write : Stmt := top 26
theorem sc_is_write : FnScope ["value"] ["value"] (defScope s_is_write) := ⟨rfl, rfl, rfl, by decide +kernel, rfl, by decide +kernel, by decide +kernel⟩
def f_is_write : List PyData → Bx → Option (PyData × Bx) := fnOf 1 1 (sSeq (sIf (tbl (fBin (fIxK 0 (pur (.int 0))) (pur (.str "put")) gEq)) (sRet (fAnd (fBin (f1 (fPk 0) gLen) (pur (.int 3)) gEq) (fAnd (fCall f_is_key (aCons (fIxK 0 (pur (.int 1))) aNil)) (fCall f_is_stored (aCons (fIxK 0 (pur (.int 2))) aNil))))) sNext) (sRet (fAnd (fBin (fIxK 0 (pur (.int 0))) (pur (.str "cut")) gEq) (fAnd (fBin (f1 (fPk 0) gLen) (pur (.int 2)) gEq) (fCall f_is_key (aCons (fIxK 0 (pur (.int 1))) aNil))))))
theorem ok_is_write {f : Addr} {fd : FuncData} (F : Fun K "is_write" "is_write" s_is_write f fd) (T : Txt K mg) (c_is_key : Cal P w K mg base 2 "is_key" f_is_key) (c_is_stored : Cal P w K mg base 2 "is_stored" f_is_stored) : FnOk P w K mg base CX0 3 f fd ["value"] (spOf K f_is_write) :=
  fn_ok F sc_is_write fun cdv A outer s H E bx hr =>
    have hu65 := hu65 hr
    have hu := hu_of hr
    (bCons (sIff (tCm (cEq hu65) (eIxK (i := 0) eInt) eStr) (bOne (sRt (eAnd (eCm (cEq hu65) (eLenK T.len (kVar 0)) eInt) (eAnd (eCall c_is_key hr (by decide) (aCn (eIxK (i := 0) eInt) aNl)) (eOne (eCall c_is_stored hr (by decide) (aCn (eIxK (i := 0) eInt) aNl))))))) bNil) (bOne (sRt (eAnd (eCm (cEq hu65) (eIxK (i := 0) eInt) eStr) (eAnd (eCm (cEq hu65) (eLenK T.len (kVar 0)) eInt) (eOne (eCall c_is_key hr (by decide) (aCn (eIxK (i := 0) eInt) aNl))))))))

abbrev s_keys_changed : Stmt := top 28
theorem sc_keys_changed : FnScope ["statements", "row"] ["statements"] (defScope s_keys_changed) := ⟨rfl, rfl, rfl, by decide +kernel, rfl, by decide +kernel, by decide +kernel⟩
def f_keys_changed : List PyData → Bx → Option (PyData × Bx) := fnOf 2 1 (sRet (f1 (fLst (fFr (fLst (fLc (fItems (fVar 0)) (tgName 1) (tbl (fBin (fIxK 1 (pur (.int 0))) (fTup (aCons (pur (.str "put")) (aCons (pur (.str "cut")) aNil))) gIn)) (fIxK 1 (pur (.int 1))) [1])) gSortSet)) gTupOf))
theorem ok_keys_changed {f : Addr} {fd : FuncData} (F : Fun K "keys_changed" "keys_changed" s_keys_changed f fd) (T : Txt K mg) : FnOk P w K mg base CX0 1 f fd ["statements"] (spOf K f_keys_changed) :=
  fn_ok F sc_keys_changed fun cdv A outer s H E bx hr =>
    have hu65 := hu65 hr
    have hu := hu_of hr
    (bOne (sRt (eTupOf T.tuple (eLst (fSortSet rfl T.sorted T.set (eLst (eLc rfl sc_keys_changed.nd (iAny (eVar 0)) (own := [("row", 1)]) (blkOk_by (N := ["statements", "row"]) (sc := defScope s_keys_changed) (by decide +kernel)) (fun _ _ _ _ _ => (gNam sc_keys_changed.nd (i := 1))) (fun _ _ _ _ _ => (tsOne (tCm (cIn hu65) (eIxK (i := 1) eInt) (eTup (aCn eStr (aCn eStr aNl)))))) (fun _ _ _ _ _ => (eIxK (i := 1) eInt)))))))))

abbrev s_value_in : Stmt := top 30
theorem sc_value_in : FnScope ["rows", "key", "found", "one", "value"] ["rows", "key"] (defScope s_value_in) := ⟨rfl, rfl, rfl, by decide +kernel, rfl, by decide +kernel, by decide +kernel⟩
def f_value_in : List PyData → Bx → Option (PyData × Bx) := fnOf 5 2 (sSeq (sSet 2 (vMut (fLc (fItems (fVar 0)) (tgTup 2 (tgCons (tgName 3) (tgCons (tgName 4) tgNil))) (tbl (fBin (fVar 3) (fVar 1) gEq)) (fVar 4) [3, 4]))) (sRet (fIf (tst (fPk 2)) (fIxK 2 (pur (.int 0))) (pur .none))))
theorem ok_value_in {f : Addr} {fd : FuncData} (F : Fun K "value_in" "value_in" s_value_in f fd) (T : Txt K mg) : FnOk P w K mg base CX0 1 f fd ["rows", "key"] (spOf K f_value_in) :=
  fn_ok F sc_value_in fun cdv A outer s H E bx hr =>
    have hu65 := hu65 hr
    have hu := hu_of hr
    (bCons (sAsgLc rfl sc_value_in.nd (iAny (eVar 0)) (own := [("one", 3), ("value", 4)]) (blkOk_by (N := ["rows", "key", "found", "one", "value"]) (sc := defScope s_value_in) (by decide +kernel)) (fun _ _ _ _ _ => (gTupl rfl (gCn (gNam sc_value_in.nd (i := 3)) (gCn (gNam sc_value_in.nd (i := 4)) gNl)) (n := 2))) (fun _ _ _ _ _ => (tsOne (tCm (cEq hu65) (eVar 3) (eVar 1)))) (fun _ _ _ _ _ => (eVar 4)) (i := 2)) (bOne (sRt (eIf (tTruK (kVar 2)) (eIxK (i := 2) eInt) eNone))))

abbrev s_with_value : Stmt := top 31
theorem sc_with_value : FnScope ["rows", "key", "value", "kept", "row"] ["rows", "key", "value"] (defScope s_with_value) := ⟨rfl, rfl, rfl, by decide +kernel, rfl, by decide +kernel, by decide +kernel⟩
def f_with_value : List PyData → Bx → Option (PyData × Bx) := fnOf 5 3 (sSeq (sSet 3 (vMut (fLc (fItems (fVar 0)) (tgName 4) (tbl (fBin (fIxK 4 (pur (.int 0))) (fVar 1) gNe)) (fVar 4) [4]))) (sSeq (sIf (tbl (fBin (fVar 2) (pur .none) gIsNot)) (sDrop (fMt 3 gApp (aCons (fTup (aCons (fVar 1) (aCons (fVar 2) aNil))) aNil))) sNext) (sRet (f1 (fLst (fFr (fVar 3) gSorted)) gTupOf))))
theorem ok_with_value {f : Addr} {fd : FuncData} (F : Fun K "with_value" "with_value" s_with_value f fd) (T : Txt K mg) : FnOk P w K mg base CX0 1 f fd ["rows", "key", "value"] (spOf K f_with_value) :=
  fn_ok F sc_with_value fun cdv A outer s H E bx hr =>
    have hu65 := hu65 hr
    have hu := hu_of hr
    (bCons (sAsgLc rfl sc_with_value.nd (iAny (eVar 0)) (own := [("row", 4)]) (blkOk_by (N := ["rows", "key", "value", "kept", "row"]) (sc := defScope s_with_value) (by decide +kernel)) (fun _ _ _ _ _ => (gNam sc_with_value.nd (i := 4))) (fun _ _ _ _ _ => (tsOne (tCm (cNe hu65) (eIxK (i := 4) eInt) (eVar 1)))) (fun _ _ _ _ _ => (eVar 4)) (i := 3)) (bCons (sIff (tCm cIsNot (eVar 2) eNone) (bOne (sEx (eAppend (i := 3) (aCn (eTup (aCn (eVar 1) (aCn (eVar 2) aNl))) aNl)))) bNil) (bOne (sRt (eTupOf T.tuple (eLst (fSort hu65 T.sorted (eVar 3))))))))

abbrev s_read_answer : Stmt := top 34
theorem sc_read_answer : FnScope ["rows", "statement", "word"] ["rows", "statement"] (defScope s_read_answer) := ⟨rfl, rfl, rfl, by decide +kernel, rfl, by decide +kernel, by decide +kernel⟩
def f_read_answer : List PyData → Bx → Option (PyData × Bx) := fnOf 3 2 (sSeq (sSet 2 (vImm (fIxK 1 (pur (.int 0))))) (sSeq (sIf (tbl (fBin (fVar 2) (pur (.str "get")) gEq)) (sRet (fCall f_value_in (aCons (fVar 0) (aCons (fIxK 1 (pur (.int 1))) aNil)))) sNext) (sSeq (sIf (tbl (fBin (fVar 2) (pur (.str "count")) gEq)) (sRet (f1 (lft none) gLen)) sNext) (sRet (lft none)))))
theorem ok_read_answer {f : Addr} {fd : FuncData} (F : Fun K "read_answer" "read_answer" s_read_answer f fd) (T : Txt K mg) (c_value_in : Cal P w K mg base 1 "value_in" f_value_in) : FnOk P w K mg base CX0 2 f fd ["rows", "statement"] (spOf K f_read_answer) :=
  fn_ok F sc_read_answer fun cdv A outer s H E bx hr =>
    have hu65 := hu65 hr
    have hu := hu_of hr
    (bCons (sAsg sc_read_answer.nd (xImm (eIxK (i := 1) eInt)) (i := 2)) (bCons (sIff (tCm (cEq hu65) (eVar 2) eStr) (bOne (sRt (eCall c_value_in hr (by decide) (aCn (eVar 0) (aCn (eIxK (i := 1) eInt) aNl))))) bNil) (bCons (sIff (tCm (cEq hu65) (eVar 2) eStr) (bOne (sRt (eLen T.len eNo))) bNil) (bOne (sRt eNo)))))


/-! ### the class PlainTransaction, by hand -/
abbrev s_cls : Stmt := top 35
abbrev s_init : Stmt := inClass s_cls 0
abbrev s_rows : Stmt := inClass s_cls 1
abbrev s_answer : Stmt := inClass s_cls 2
theorem pg_fld {X : Cx} {o : Expr} {f : Str} {pos : Pos} {ta : TE} (ha : PE X o ta) : PG X (.Attribute o f pos) (fun y σ H Q => ta σ H fun x H2 => ∃ a C dx fs, x = .ref a ∧ H2 a = some (.ins C dx fs) ∧ Cls X.K C ∧ NoAttr X.K C f ∧ fs.length < 1000 ∧ Q σ (upd H2 a (.ins C dx (putF f y fs)))) := by
  refine ⟨fun pins s σ H v u Q I r h => ?_⟩
  rw [assign_Attribute]
  refine wpAny_bind (wpAny_holding (thn (ha.run pins s σ H _ I h) fun ov s2 ⟨x, H2, I2, rx, a, C, dx, fs, ex, ea, c, n, l, q2⟩ => ?_))
  subst ex
  obtain rfl : ov = Value.ref a := rx
  exact wpAny_bind (wpAny_standAt (wpAny_bind (wpAny_holding (setattr_ok I2 ea c n l r fun s3 I3 => wpAny_release ⟨σ, _, I3, q2⟩))))
def flds (v : V) (d : Addr) : List (Str × V) := putF "_saved" (.ref d) (putF "_rows" v [])
theorem nRS : ¬ (("_rows" : Str) = "_saved") := by decide +kernel
theorem flds_rows (v : V) (d : Addr) : (flds v d).lookup ("_rows" : Str) = some v := by
  unfold flds
  rw [lookup_putF, if_neg nRS, lookup_putF, if_pos rfl]
theorem flds_no (v : V) (d : Addr) {m : Str} (h1 : ¬ m = "_saved") (h2 : ¬ m = "_rows") : (flds v d).lookup m = none := by
  unfold flds
  rw [lookup_putF, if_neg h1, lookup_putF, if_neg h2]
  all_goals rfl
theorem flds_eq (v : V) (d : Addr) : flds v d = ([("_rows", v), ("_saved", V.ref d)] : List (Str × V)) := by
  show (if ("_rows" : Str) = "_saved" then (("_rows" : Str), V.ref d) :: [] else (("_rows" : Str), v) :: putF "_saved" (V.ref d) []) = ([("_rows", v), ("_saved", V.ref d)] : List (Str × V))
  rw [if_neg nRS]
  all_goals rfl
theorem flds_put (v v' : V) (d : Addr) : putF "_rows" v' (flds v d) = flds v' d := by
  rw [flds_eq, flds_eq]
  show (if ("_rows" : Str) = "_rows" then (("_rows" : Str), v') :: [(("_saved" : Str), V.ref d)] else _) = _
  rw [if_pos rfl]
structure TxtC (K : PySem.W.Frag) (mg : Str → Option Value) (C : Addr) : Prop where
  cl : Cls K C
  nR : NoAttr K C "_rows"
  nS : NoAttr K C "_saved"
  mgC : mg "PlainTransaction" = some (.ref C)
def spInit (C : Addr) : Sp := fun vs H Q _ => ∃ (p dx : Addr) (v : V), vs = [.ref p, v] ∧ H p = some (.ins C dx []) ∧ ∀ (d : Addr) (H' : Hp), H d = none → d ≠ p → H' p = some (.ins C dx (flds v d)) →
  (∀ b o, H b = some o → b ≠ p → H' b = some o) → (∀ b, H' b = none → H b = none) → Q .non H'
def spRows (C : Addr) : Sp := fun vs H Q _ => ∃ (p dx d : Addr) (v : V), vs = [.ref p] ∧ H p = some (.ins C dx (flds v d)) ∧ Q v H
/-- what answer does to the rows dr, asked dst -/
def fAns (dr dst : PyData) (s : Bx) : Option (PyData × PyData × Bx) := match gIx dst (.int 0) with
  | none => none
  | some w => match gEq w (.str "put") with
    | some (.bool true) => match gIx dst (.int 1) with
      | some k => match gIx dst (.int 2) with
        | some v => match f_with_value [dr, k, v] s with
          | some (r, s') => some (.bool true, r, s')
          | none => none
        | none => none
      | none => none
    | some (.bool false) => match gEq w (.str "cut") with
      | some (.bool true) => match gIx dst (.int 1) with
        | some k => match f_with_value [dr, k, .none] s with
          | some (r, s') => some (.bool true, r, s')
          | none => none
        | none => none
      | some (.bool false) => match gEq w (.str "save") with
        | some (.bool false) => match gEq w (.str "back") with
          | some (.bool false) => match f_read_answer [dr, dst] s with
            | some (a, s') => some (a, dr, s')
            | none => none
          | _ => none
        | _ => none
      | _ => none
    | _ => none
def spAnswer (K : PySem.W.Frag) (C : Addr) : Sp := fun vs H Q _ => ∃ (bx : Option (Addr × Addr)) (G : Hp) (s : Bx) (p dx d : Addr) (v st : V) (dr dst a dr' : PyData) (s' : Bx), vs = [.ref p, st] ∧ INV0 ⟨K, bx⟩ s G H ∧
  H p = some (.ins C dx (flds v d)) ∧ G p = none ∧ ¬ (Cf.mk K bx).box p ∧ RpX ⟨K, bx⟩ G v dr ∧ RpX ⟨K, bx⟩ G st dst ∧ fAns dr dst s = some (a, dr', s') ∧
  ∀ (va v' : V) (G' H' : Hp), INV0 ⟨K, bx⟩ s' G' H' → Same G G' → H' p = some (.ins C dx (flds v' d)) → G' p = none → RpX ⟨K, bx⟩ G' va a → RpX ⟨K, bx⟩ G' v' dr' →
    (∀ b o, H b = some o → b ≠ p → ¬ (Cf.mk K bx).box b → H' b = some o ∧ (G b = none → G' b = none)) → (∀ b o, H b = some o → ∃ o', H' b = some o') → Q va H'
theorem sc_init : FnScope ["self", "rows"] ["self", "rows"] (defScope s_init) := ⟨rfl, rfl, rfl, by decide +kernel, rfl, by decide +kernel, by decide +kernel⟩
theorem ok_init {f C : Addr} {fd : FuncData} (F : Fun K "__init__" "PlainTransaction.__init__" s_init f fd) (T : TxtC K mg C) : FnOk P w K mg base CX0 1 f fd ["self", "rows"] (spInit C) := by
  refine F.ok sc_init (fun vs H Q E h => ?_) (fun cdv A outer s H vs Q E hr h => ?_)
  · obtain ⟨p, dx, v, rfl, _⟩ := h; rfl
  · obtain ⟨p, dx, v, rfl, hp, k⟩ := h
    refine ⟨_, pss_one (ps_asg (pe_tup (pa_cons (pv 1) (pa_cons pe_dnewK pa_nil))) (pg_tup rfl (pgs_cons (pg_fld (pv 0)) (pgs_cons (pg_fld (pv 0)) pgs_nil)))), ?_⟩
    refine ⟨v, rfl, fun d hd => ⟨(by show 2 ≤ sizeLine; decide), fun t ht => ?_⟩⟩
    have npd : d ≠ p := fun z => by rw [z, hp] at hd; cases hd
    have hdt : t ≠ d := fun z => by rw [z, upd_same] at ht; cases ht
    have ht0 : H t = none := by rw [upd_ne hdt] at ht; exact ht
    have npt : t ≠ p := fun z => by rw [z, hp] at ht0; cases ht0
    refine ⟨t, [v, .ref d], rfl, SqT.of upd_same, rfl, v, _, rfl, _, rfl, p, C, dx, [], rfl, by rw [upd_ne npt.symm, upd_ne npd.symm]; exact hp, T.cl, T.nR, (by show 0 < 1000; decide), .ref d, _, rfl, _, rfl, p, C, dx, _, rfl, upd_same, T.cl, T.nS, (by show 1 < 1000; decide), rfl, ?_⟩
    refine k d _ hd npd upd_same (fun b o hb n => ?_) (fun b hb => ?_)
    · rw [upd_ne n, upd_ne n, upd_ne (ne_of_none hb ht0), upd_ne (ne_of_none hb hd)]; exact hb
    · by_cases e1 : b = p
      · rw [e1, upd_same] at hb; cases hb
      · rw [upd_ne e1, upd_ne e1] at hb
        by_cases e2 : b = t
        · rw [e2]; exact ht0
        · rw [upd_ne e2] at hb
          by_cases e3 : b = d
          · rw [e3]; exact hd
          · rw [upd_ne e3] at hb; exact hb
theorem sc_rows : FnScope ["self"] ["self"] (defScope s_rows) := ⟨rfl, rfl, rfl, by decide +kernel, rfl, by decide +kernel, by decide +kernel⟩
theorem ok_rows {f C : Addr} {fd : FuncData} (F : Fun K "rows" "PlainTransaction.rows" s_rows f fd) (T : TxtC K mg C) : FnOk P w K mg base CX0 1 f fd ["self"] (spRows C) := by
  refine F.ok sc_rows (fun vs H Q E h => ?_) (fun cdv A outer s H vs Q E hr h => ?_)
  · obtain ⟨p, dx, d, v, rfl, _⟩ := h; rfl
  · obtain ⟨p, dx, d, v, rfl, hp, k⟩ := h
    refine ⟨_, pss_one (ps_ret (pe_fld (pv 0) rfl)), ?_⟩
    exact ⟨_, rfl, p, C, dx, _, v, rfl, hp, T.cl, T.nR, flds_rows _ _, k⟩
theorem fIxK_imm {i : Nat} {env : En} {s : Bx} {d b z : PyData} (e : env[i]? = some (some (.imm d))) (h : gIx d b = some z) : fIxK i (pur b) env s = some (z, env, s) := by
  simp [fIxK, pur, e, h]
theorem tEq_imm {i : Nat} {env : En} {s : Bx} {d b : PyData} {k : Bool} (e : env[i]? = some (some (.imm d))) (h : gEq d b = some (.bool k)) : tbl (fBin (fVar i) (pur b) gEq) env s = some (k, env, s) := by
  simp [tbl, fBin, bnd, fVar, pur, lft, e, h]
theorem inv_ans {c : Cf} {s : Bx} {G H : Hp} {p : Addr} {st : V} {dst : PyData} (I : INV0 c s G H) (r : RpX c G st dst) : INV c [some (.ref p), some st, none] [none, some (.imm dst), none] s G H := by
  have one : ∀ {i : Nat} {x : EV}, ([none, some (EV.imm dst), none] : En)[i]? = some (some x) → i = 1 ∧ x = .imm dst := fun {i x} e => by
    match i, e with
    | 0, e => simp at e
    | 1, e => exact ⟨rfl, by simpa using e.symm⟩
    | 2, e => simp at e
    | n + 3, e => simp at e
  refine ⟨I.sub, I.box, I.bfree, rfl, fun i d e => ?_, fun i l e => ?_, fun i l e => ?_, fun i j a h => ?_⟩
  · obtain ⟨rfl, e2⟩ := one e
    cases e2
    exact ⟨st, rfl, r⟩
  · obtain ⟨_, e2⟩ := one e; cases e2
  · obtain ⟨_, e2⟩ := one e; cases e2
  · obtain ⟨⟨l, e⟩ | ⟨l, e⟩, _⟩ := h <;> · obtain ⟨_, e2⟩ := one e; cases e2
theorem sc_answer : FnScope ["self", "statement", "word"] ["self", "statement"] (defScope s_answer) := ⟨rfl, rfl, rfl, by decide +kernel, rfl, by decide +kernel, by decide +kernel⟩
theorem ok_answer {f C : Addr} {fd : FuncData} (F : Fun K "answer" "PlainTransaction.answer" s_answer f fd) (T : TxtC K mg C) (cw : Cal P w K mg base 1 "with_value" f_with_value) (cr : Cal P w K mg base 2 "read_answer" f_read_answer) :
    FnOk P w K mg base CX0 3 f fd ["self", "statement"] (spAnswer K C) := by
  obtain ⟨fw, fdw, psw, Fw, mw, kw, bw⟩ := cw.ex
  obtain ⟨fr, fdr, psr, Fr, mr, kr, br⟩ := cr.ex
  refine F.ok sc_answer (fun vs H Q E h => ?_) (fun cdv A outer s H vs Q E hr h => ?_)
  · obtain ⟨bx, G, s, p, dx, d, v, st, dr, dst, a, dr', s', rfl, _⟩ := h; rfl
  · obtain ⟨bx, G, b, p, dx, d, v, st, dr, dst, a, dr', b', rfl, I, hp, gp, nb, rv, rs, e, k⟩ := h
    have hu65 := hu65 hr
    have hr1 : Room 1 _ := hr.mono (by decide)
    refine ⟨_, pss_cons (ps_set (i := 2) sc_answer.nd rfl (Or.inl rfl) (eIxK (bx := bx) (i := 1) eInt))
      (pss_cons (ps_if (tCm (bx := bx) (cEq hu65) (eVar 2) eStr)
        (pss_one (ps_fld (pv 0) (pe_call Fw hr1 rfl mw kw bw .nil pass0 (pa_cons (pe_fld (pv 0) rfl) (pa_cons (eIxK (bx := bx) (i := 1) eInt) (pa_cons (eIxK (bx := bx) (i := 1) eInt) pa_nil)))) rfl))
        (pss_one (ps_if (tCm (bx := bx) (cEq hu65) (eVar 2) eStr)
          (pss_one (ps_fld (pv 0) (pe_call Fw hr1 rfl mw kw bw .nil pass0 (pa_cons (pe_fld (pv 0) rfl) (pa_cons (eIxK (bx := bx) (i := 1) eInt) (pa_cons pe_non pa_nil)))) rfl))
          (pss_one (ps_if (tCm (bx := bx) (cEq hu65) (eVar 2) eStr)
            pss_never
            (pss_one (ps_if (tCm (bx := bx) (cEq hu65) (eVar 2) eStr)
              pss_never
              (pss_one (ps_ret (pe_call Fr hr rfl mr kr br .nil pass0 (pa_cons (pe_fld (pv 0) rfl) (pa_cons (eVar (bx := bx) 1) pa_nil))))))))))))
        (pss_one (ps_ret pe_bl))), ?_⟩
    have I0 := inv_ans (p := p) I rs
    unfold fAns at e
    cases ew : gIx dst (.int 0) with
    | none => rw [ew] at e; cases e
    | some w0 =>
      rw [ew] at e
      simp only at e
      refine ⟨G, _, b, w0, _, b, I0, fIxK_imm rfl ew, fun wv G1 H1 I1 m1 rw1 => ?_⟩
      have I2 : INV ⟨K, bx⟩ [some (.ref p), some st, some wv] [none, some (.imm dst), some (.imm w0)] b G1 H1 := I1.put (a := .imm w0) (H0 := H1) rw1 2
      have nt : ∀ {env : En} {σ : L2.St} {q : Addr}, (∀ (i : Nat) (x : EV), env[i]? = some (some x) → ∃ z, x = .imm z) → ¬ (Cf.mk K bx).box q → ¬ Tch ⟨K, bx⟩ env σ q := fun him nq t => by
        rcases t with t | ⟨i, ⟨l, e⟩ | ⟨l, e⟩, _⟩
        · exact nq t
        · obtain ⟨_, z⟩ := him i _ e; cases z
        · obtain ⟨_, z⟩ := him i _ e; cases z
      have im0 : ∀ (i : Nat) (x : EV), ([none, some (EV.imm dst), none] : En)[i]? = some (some x) → ∃ z, x = .imm z := fun i x e => by
        match i, e with
        | 0, e => simp at e
        | 1, e => exact ⟨_, by simpa using e.symm⟩
        | 2, e => simp at e
        | n + 3, e => simp at e
      have im1 : ∀ (i : Nat) (x : EV), ([none, some (EV.imm dst), some (EV.imm w0)] : En)[i]? = some (some x) → ∃ z, x = .imm z := fun i x e => by
        match i, e with
        | 0, e => simp at e
        | 1, e => exact ⟨_, by simpa using e.symm⟩
        | 2, e => exact ⟨_, by simpa using e.symm⟩
        | n + 3, e => simp at e
      -- the object and all else through moves
      have st1 : ∀ q o, H q = some o → ¬ (Cf.mk K bx).box q → H1 q = some o ∧ (G q = none → G1 q = none) := fun q o hq nq => let ⟨a, b, _⟩ := m1.keep q o hq (nt im0 nq); ⟨a, b⟩
      obtain ⟨hp1, gp1'⟩ := st1 p _ hp nb
      have gp1 := gp1' gp
      have rv1 := rv.mono m1.sub
      have rs1 := rs.mono m1.sub
      -- a call that answers the rows
      have put : ∀ (args : List V) (dargs : List PyData) (G2 H2 : Hp) (r : PyData), INV ⟨K, bx⟩ [some (.ref p), some st, some wv] [none, some (.imm dst), some (.imm w0)] b G2 H2 → Mv ⟨K, bx⟩ [some (.ref p), some st, some wv] [none, some (.imm dst), some (.imm w0)] G1 H1 [some (.ref p), some st, some wv] [none, some (.imm dst), some (.imm w0)] G2 H2 →
          RpXs ⟨K, bx⟩ G2 args dargs → f_with_value dargs b = some (r, b') → a = .bool true → dr' = r →
          spOf K f_with_value args H2 (fun y H3 => tVar 0 [some (.ref p), some st, some wv] H3 fun x H4 => ∃ a C dx fs, x = V.ref a ∧ H4 a = some (.ins C dx fs) ∧ Cls K C ∧ NoAttr K C "_rows" ∧ fs.length < 1000 ∧ Q (.bl true) (upd H4 a (.ins C dx (putF "_rows" y fs)))) E0 := by
        intro args dargs G2 H2 r J2 m2 ra er ea ed
        subst ea ed
        refine ⟨bx, G2, b, dargs, _, b', J2.base, ra, er, fun y G3 H3 J3 m3 ry => ⟨.ref p, rfl, ?_⟩⟩
        obtain ⟨hp2, gp2', _⟩ := m2.keep p _ hp1 (nt im1 nb)
        obtain ⟨hp3, gp3', _⟩ := m3.keep p _ hp2 fun t => nb (tch0.mp t)
        have gp3 := gp3' (gp2' gp1)
        refine ⟨p, C, dx, _, rfl, hp3, T.cl, T.nR, (by rw [flds_eq]; show 2 < 1000; decide), ?_⟩
        rw [flds_put]
        have sub3 : Same G G3 := (m1.sub.trans m2.sub).trans m3.sub
        refine k (.bl true) y G3 _ ⟨fun q u hq => ?_, fun B C0 hB => ?_, J3.bfree, rfl, fun i d e => by simp at e, fun i l e => by simp at e, fun i l e => by simp at e, fun i j a h => by obtain ⟨⟨l, e⟩ | ⟨es, e⟩, _⟩ := h <;> simp at e⟩ sub3 upd_same gp3 (.inl (.bl true)) ry (fun q o hq nq nbq => ?_) (fun q o hq => ?_)
        · rw [upd_ne (ne_of_none hq gp3)]; exact J3.sub q u hq
        · obtain ⟨t, hf, k1, k2, k3⟩ := J3.box B C0 hB
          exact ⟨t, hf, by rw [upd_ne fun z => nb ⟨B, C0, hB, .inl z.symm⟩]; exact k1, by rw [upd_ne fun z => nb ⟨B, C0, hB, .inr z.symm⟩]; exact k2, k3⟩
        · obtain ⟨h1, g1⟩ := st1 q o hq nbq
          obtain ⟨h2, g2, _⟩ := m2.keep q o h1 (nt im1 nbq)
          obtain ⟨h3, g3, _⟩ := m3.keep q o h2 fun t => nbq (tch0.mp t)
          exact ⟨by rw [upd_ne nq]; exact h3, fun z => g3 (g2 (g1 z))⟩
        · obtain ⟨o1, h1⟩ := m1.stay q o hq
          obtain ⟨o2, h2⟩ := m2.stay q o1 h1
          obtain ⟨o3, h3⟩ := m3.stay q o2 h2
          by_cases z : q = p
          · exact ⟨_, by rw [z]; exact upd_same⟩
          · exact ⟨o3, by rw [upd_ne z]; exact h3⟩
      cases e1 : gEq w0 (.str "put") with
      | none => rw [e1] at e; cases e
      | some q1 =>
        rw [e1] at e
        cases q1 with
        | bool b1 =>
          refine ⟨G1, _, b, b1, _, b, I2, tEq_imm rfl e1, fun kb G2 H2 I3 m2 hkb => ?_⟩
          cases hkb
          obtain ⟨hp2, gp2', _⟩ := m2.keep p _ hp1 (nt im1 nb)
          have gp2 := gp2' gp1
          cases b1 with
          | true =>
            simp only at e
            cases ek : gIx dst (.int 1) with
            | none => rw [ek] at e; cases e
            | some kd =>
              rw [ek] at e
              simp only at e
              cases ev : gIx dst (.int 2) with
              | none => rw [ev] at e; cases e
              | some vd =>
                rw [ev] at e
                simp only at e
                cases ef : f_with_value [dr, kd, vd] b with
                | none => rw [ef] at e; cases e
                | some q =>
                  obtain ⟨r, bb⟩ := q
                  rw [ef] at e
                  simp only [Option.some.injEq, Prod.mk.injEq] at e
                  obtain ⟨ea, ed, eb⟩ := e
                  subst eb
                  rw [if_pos rfl]
                  refine ⟨.ref p, rfl, p, C, dx, _, v, rfl, hp2, T.cl, T.nR, flds_rows _ _, G2, _, b, kd, _, b, I3, fIxK_imm rfl ek, fun kv G3 H3 I4 m4 rk => ?_⟩
                  refine ⟨G3, _, b, vd, _, b, I4, fIxK_imm rfl ev, fun vv G4 H4 I5 m5 rvv => ?_⟩
                  exact put [v, kv, vv] [dr, kd, vd] G4 H4 r I5 (m2.trans (m4.trans m5)) (.cons (((rv1.mono m2.sub).mono m4.sub).mono m5.sub) (.cons (rk.mono m5.sub) (.cons rvv .nil))) ef ea.symm ed.symm
          | false =>
            simp only at e
            rw [if_neg (by decide)]
            cases e2 : gEq w0 (.str "cut") with
            | none => rw [e2] at e; cases e
            | some q2 =>
              rw [e2] at e
              cases q2 with
              | bool b2 =>
                refine ⟨G2, _, b, b2, _, b, I3, tEq_imm rfl e2, fun kb G3 H3 I4 m4 hkb => ?_⟩
                cases hkb
                obtain ⟨hp3, gp3', _⟩ := m4.keep p _ hp2 (nt im1 nb)
                have gp3 := gp3' gp2
                cases b2 with
                | true =>
                  simp only at e
                  cases ek : gIx dst (.int 1) with
                  | none => rw [ek] at e; cases e
                  | some kd =>
                    rw [ek] at e
                    simp only at e
                    cases ef : f_with_value [dr, kd, .none] b with
                    | none => rw [ef] at e; cases e
                    | some q =>
                      obtain ⟨r, bb⟩ := q
                      rw [ef] at e
                      simp only [Option.some.injEq, Prod.mk.injEq] at e
                      obtain ⟨ea, ed, eb⟩ := e
                      subst eb
                      rw [if_pos rfl]
                      refine ⟨.ref p, rfl, p, C, dx, _, v, rfl, hp3, T.cl, T.nR, flds_rows _ _, G3, _, b, kd, _, b, I4, fIxK_imm rfl ek, fun kv G4 H4 I5 m5 rk => ?_⟩
                      exact put [v, kv, .non] [dr, kd, .none] G4 H4 r I5 (m2.trans (m4.trans m5)) (.cons (((rv1.mono m2.sub).mono m4.sub).mono m5.sub) (.cons rk (.cons (.inl .non) .nil))) ef ea.symm ed.symm
                | false =>
                  simp only at e
                  rw [if_neg (by decide)]
                  cases e3 : gEq w0 (.str "save") with
                  | none => rw [e3] at e; cases e
                  | some q3 =>
                    rw [e3] at e
                    cases q3 with
                    | bool b3 =>
                      cases b3 with
                      | true => cases e
                      | false =>
                        simp only at e
                        refine ⟨G3, _, b, false, _, b, I4, tEq_imm rfl e3, fun kb G4 H4 I5 m5 hkb => ?_⟩
                        cases hkb
                        rw [if_neg (by decide)]
                        cases e4 : gEq w0 (.str "back") with
                        | none => rw [e4] at e; cases e
                        | some q4 =>
                          rw [e4] at e
                          cases q4 with
                          | bool b4 =>
                            cases b4 with
                            | true => cases e
                            | false =>
                              simp only at e
                              refine ⟨G4, _, b, false, _, b, I5, tEq_imm rfl e4, fun kb G5 H5 I6 m6 hkb => ?_⟩
                              cases hkb
                              rw [if_neg (by decide)]
                              cases ef : f_read_answer [dr, dst] b with
                              | none => rw [ef] at e; cases e
                              | some q =>
                                obtain ⟨r, bb⟩ := q
                                rw [ef] at e
                                simp only [Option.some.injEq, Prod.mk.injEq] at e
                                obtain ⟨ea, ed, eb⟩ := e
                                subst eb
                                subst ea
                                subst ed
                                have mm : Mv ⟨K, bx⟩ [some (.ref p), some st, some wv] [none, some (.imm dst), some (.imm w0)] G1 H1 [some (.ref p), some st, some wv] [none, some (.imm dst), some (.imm w0)] G5 H5 := m2.trans (m4.trans (m5.trans m6))
                                obtain ⟨hp5, gp5', _⟩ := mm.keep p _ hp1 (nt im1 nb)
                                refine ⟨.ref p, rfl, p, C, dx, _, v, rfl, hp5, T.cl, T.nR, flds_rows _ _, G5, _, b, dst, _, b, I6, rfl, fun sv G6 H6 I7 m7 rs6 => ?_⟩
                                refine ⟨bx, G6, b, [dr, dst], _, bb, I7.base, .cons ((rv1.mono mm.sub).mono m7.sub) (.cons rs6 .nil), ef, fun y G7 H7 J7 m8 ry => ?_⟩
                                obtain ⟨hp6, gp6', _⟩ := m7.keep p _ hp5 (nt im1 nb)
                                obtain ⟨hp7, gp7', _⟩ := m8.keep p _ hp6 fun t => nb (tch0.mp t)
                                have gp7 := gp7' (gp6' (gp5' gp1))
                                refine k y v G7 H7 J7 (((m1.sub.trans mm.sub).trans m7.sub).trans m8.sub) hp7 gp7 ry (((rv1.mono mm.sub).mono m7.sub).mono m8.sub) (fun q o hq nq nbq => ?_) (fun q o hq => ?_)
                                · obtain ⟨h1, g1⟩ := st1 q o hq nbq
                                  obtain ⟨h2, g2, _⟩ := mm.keep q o h1 (nt im1 nbq)
                                  obtain ⟨h3, g3, _⟩ := m7.keep q o h2 (nt im1 nbq)
                                  obtain ⟨h4, g4, _⟩ := m8.keep q o h3 fun t => nbq (tch0.mp t)
                                  exact ⟨h4, fun z => g4 (g3 (g2 (g1 z)))⟩
                                · obtain ⟨o1, h1⟩ := m1.stay q o hq
                                  obtain ⟨o2, h2⟩ := mm.stay q o1 h1
                                  obtain ⟨o3, h3⟩ := m7.stay q o2 h2
                                  exact m8.stay q o3 h3
                          | _ => cases e
                    | _ => cases e
              | _ => cases e
        | _ => cases e
def paGo : List PyData → PyData → Bx → Option (List PyData × PyData × Bx)
  | [], dr, s => some ([], dr, s)
  | st :: r, dr, s => match fAns dr st s with
    | some (a, dr', s') => if notBox a then match paGo r dr' s' with
        | some (as, d, s'') => some (a :: as, d, s'')
        | none => none
      else none
    | none => none
def seqD : PyData → Option (List PyData)
  | .list xs => some xs
  | .tuple xs => some xs
  | _ => none
def f_plain_answers : List PyData → Bx → Option (PyData × Bx) := fun ds s => match ds with
  | [dr, dsts] => match seqD dsts with
    | some sts => if sts.length ≤ Ln then match paGo sts dr s with
        | some (as, d, s') => if notBox d then some (.tuple [.tuple as, d], s') else none
        | none => none
      else none
    | none => none
  | _ => none
abbrev s_plain_answers : Stmt := top 36
theorem sc_plain_answers : FnScope ["rows", "statements", "transaction", "answers", "statement"] ["rows", "statements"] (defScope s_plain_answers) := ⟨rfl, rfl, rfl, by decide +kernel, rfl, by decide +kernel, by decide +kernel⟩
structure PaS (c : Cf) (C x dx d D : Addr) (G1 H1 : Hp) (i : Nat) (G H : Hp) (b : Bx) (v : V) (dr : PyData) (done : List PyData) : Prop where
  inv : INV0 c b G H
  sub : Same G1 G
  keep : ∀ q o, H1 q = some o → q ≠ x → ¬ c.box q → H q = some o ∧ (G1 q = none → G q = none)
  stay : ∀ q o, H1 q = some o → ∃ o', H q = some o'
  ob : H x = some (.ins C dx (flds v d))
  gx : G x = none
  gd : G D = none
  rv : RpX c G v dr
  lst : ∃ acc, H D = some (.lst acc) ∧ RpAll c.K G acc done
  few : done.length ≤ i
theorem ok_plain_answers {f C fI fR fA : Addr} {fd fdI fdR fdA : FuncData} (F : Fun K "plain_answers" "plain_answers" s_plain_answers f fd) (T : Txt K mg) (TC : TxtC K mg C) (M : Mk K C fI)
    (GI : FnOk P w K mg base CX0 1 fI fdI ["self", "rows"] (spInit C)) (bI : Binds K fdI ["self", "rows"] []) (GR : FnOk P w K mg base CX0 1 fR fdR ["self"] (spRows C)) (bR : Binds K fdR ["self"] []) (mR : Meth K C "rows" fR)
    (GA : FnOk P w K mg base CX0 3 fA fdA ["self", "statement"] (spAnswer K C)) (bA : Binds K fdA ["self", "statement"] []) (mA : Meth K C "answer" fA) :
    FnOk P w K mg base CX0 4 f fd ["rows", "statements"] (spOf K f_plain_answers) := by
  refine F.ok sc_plain_answers (fun vs H Q E h => ?_) (fun cdv A outer s H vs Q E hr h => ?_)
  · obtain ⟨bx, G, s, ds, d, s', I, r, e, _⟩ := h
    unfold f_plain_answers at e
    split at e
    · rw [r.length]; rfl
    · cases e
  · obtain ⟨bx, G, b, ds, dres, b', I, r, e, k⟩ := h
    have hr1 : Room 1 _ := hr.mono (by decide)
    have hr2 : Room 2 _ := hr.mono (by decide)
    refine ⟨_, pss_cons (ps_set (i := 2) sc_plain_answers.nd rfl (by first | exact Or.inl rfl | exact Or.inr rfl) (pe_make M GI hr2 rfl TC.mgC bI .nil pass0 (pa_cons (pv 0) pa_nil)))
      (pss_cons (ps_set (i := 3) sc_plain_answers.nd rfl (by first | exact Or.inl rfl | exact Or.inr rfl) (pe_callTy call_tuple_of (by rfl) T.tuple (by decide +kernel) (pa_cons
        (pe_lc (own := [("statement", 4)]) rfl sc_plain_answers.nd (PI.or (pi_list (pv 1)) (pi_tup (pv 1))) (blkOk_by (N := ["rows", "statements", "transaction", "answers", "statement"]) (sc := defScope s_plain_answers) (by decide +kernel))
          (fun _ _ _ _ _ => pg_name (i := 4) sc_plain_answers.nd rfl (Or.inl rfl)) (fun _ _ _ _ _ => pts_nil) (fun _ _ _ _ _ => pe_meth (pv 2) TC.cl mA GA hr bA .nil pass0 (pa_cons (pv 4) pa_nil))) pa_nil)))
      (pss_one (ps_ret (pe_tup (pa_cons (pv 3) (pa_cons (pe_meth0 (pv 2) TC.cl mR GR hr1 bR .nil pass0) pa_nil)))))), ?_⟩
    unfold f_plain_answers at e
    split at e
    · rename_i dr dsts
      cases es : seqD dsts with
      | none => rw [es] at e; cases e
      | some sts =>
        rw [es] at e
        simp only at e
        split at e
        · rename_i hlen
          cases eg : paGo sts dr b with
          | none => rw [eg] at e; cases e
          | some q =>
            obtain ⟨ans, drF, bF⟩ := q
            rw [eg] at e
            simp only at e
            split at e
            · rename_i nbF
              simp only [Option.some.injEq, Prod.mk.injEq] at e
              obtain ⟨e1, e2⟩ := e
              subst e1
              subst e2
              cases r with
              | cons r1 t1 =>
                cases t1 with
                | cons r2 t2 =>
                  cases t2
                  rename_i v0 st0
                  refine ⟨v0, rfl, fun x dx nx ndx nex => ⟨x, dx, v0, rfl, upd_same, fun d H1 nd ndp hx kp back => ⟨rfl, ?_⟩⟩⟩
                  have xdx : x ≠ dx := nex.symm
                  have kp0 : ∀ q o, H q = some o → H1 q = some o := fun q o hq => by
                    have n1 : q ≠ x := ne_of_none hq nx
                    have n2 : q ≠ dx := ne_of_none hq ndx
                    exact kp q o (by rw [upd_ne n1, upd_ne n2]; exact hq) n1
                  have back0 : ∀ q, H1 q = none → H q = none := fun q hq => by
                    cases z : H q with
                    | none => rfl
                    | some o => rw [kp0 q o z] at hq; cases hq
                  have I1 : INV0 ⟨K, bx⟩ b G H1 := ⟨fun q u hq => kp0 q u (I.sub q u hq), fun B C0 hB => let ⟨t, hf, k1, k2, k3⟩ := I.box B C0 hB; ⟨t, hf, kp0 _ _ k1, kp0 _ _ k2, k3⟩, I.bfree, rfl, fun i d e => by simp at e, fun i l e => by simp at e, fun i l e => by simp at e, fun i j a h => by obtain ⟨⟨l, e⟩ | ⟨es, e⟩, _⟩ := h <;> simp at e⟩
                  have nbx : ¬ (Cf.mk K bx).box x := fun ⟨B, C0, hB, z⟩ => by
                    obtain ⟨_, _, k1, k2, _⟩ := I.box B C0 hB
                    rcases z with z | z
                    · rw [z, k1] at nx; cases nx
                    · rw [z, k2] at nx; cases nx
                  have gx1 : G x = none := I.free nx
                  -- the walk over the statements
                  have rest : ∀ (J : It) (D : Addr), H1 D = none → WkOk ⟨K, bx⟩ J G sts → ∃ W : Nat → Nat → Hp → Prop, (∃ m, W 0 m (upd H1 D (.lst []))) ∧ ∀ i m H, W i m H →
                      (J.stop i H ∧ (∃ p ys, [V.ref D] = [V.ref p] ∧ ((SqL K H p ys ∧ ∀ l, H l = none → tRet (tTup (tCons (tVar 3) (tCons (tMeth C "rows" (spRows C) [] E0 (tVar 2) tNil) tNil))) { nx := fun _ H' => Q .non H', rt := Q } [some v0, some st0, some (.ref x), some (.ref l), none] (upd H l (.tup ys))) ∨ (SqT K H p ys ∧ tRet (tTup (tCons (tVar 3) (tCons (tMeth C "rows" (spRows C) [] E0 (tVar 2) tNil) tNil))) { nx := fun _ H' => Q .non H', rt := Q } [some v0, some st0, some (.ref x), some (.ref p), none] H)))) ∨
                      (J.go i H ∧ ∃ Nx : Hp → Prop, (∀ H', Nx H' → ∃ m', m' < m ∧ W (i + 1) m' H') ∧ ∀ x' H', J.yld i H x' H' → gName 4 x' (wipe [some v0, some st0, some (.ref x), none, none] [4]) H' fun σ2 H2 => wipe σ2 [4] = wipe [some v0, some st0, some (.ref x), none, none] [4] ∧ tYes σ2 H2 fun b H3 =>
                        if b = true then tMeth C "answer" (spAnswer K C) [] E0 (tVar 2) (tCons (tVar 4) tNil) σ2 H3 fun y H4 => ∃ acc, H4 D = some (.lst acc) ∧ acc.length < sizeLine ∧ Nx (upd H4 D (.lst (acc ++ [y]))) else Nx H3) := by
                    intro J D hD wk
                    obtain ⟨Gd, Y, wk, hGd, hY⟩ := wk
                    have hDx : D ≠ x := fun z => by rw [z, hx] at hD; cases hD
                    have nbD : ¬ (Cf.mk K bx).box D := fun ⟨B, C0, hB, z⟩ => by
                      obtain ⟨_, _, k1, k2, _⟩ := I1.box B C0 hB
                      rcases z with z | z
                      · rw [z, k1] at hD; cases hD
                      · rw [z, k2] at hD; cases hD
                    refine lc_it wk (fun i H2 => ∃ G2 b2 v2 dr2 done rest2, PaS ⟨K, bx⟩ C x dx d D G H1 i G2 H2 b2 v2 dr2 done ∧ paGo (sts.drop i) dr2 b2 = some (rest2, drF, bF) ∧ done ++ rest2 = ans)
                      ⟨G, b, v0, dr, [], ans, ?_, by simpa using eg, rfl⟩ (fun i H2 hi ⟨G2, b2, v2, dr2, done, rest2, S, _⟩ => hGd H2 (S.sub.trans S.inv.sub)) ?_ ?_
                    · obtain ⟨J0, m0⟩ := I1.allocM hD (.lst [])
                      exact ⟨J0, Same.refl _, fun q o hq _ _ => ⟨by rw [upd_ne (ne_of_none hq hD)]; exact hq, id⟩, fun q o hq => ⟨o, by rw [upd_ne (ne_of_none hq hD)]; exact hq⟩, by rw [upd_ne hDx.symm]; exact hx, gx1, I1.free hD, r1, ⟨[], upd_same, .nil⟩, Nat.zero_le _⟩
                    · rintro i xv H2 H3 hi ⟨G2, b2, v2, dr2, done, rest2, S, e2, hans⟩ y
                      have hd : sts[i]? = some sts[i] := List.getElem?_eq_getElem hi
                      rw [List.drop_eq_getElem_cons hi] at e2
                      obtain ⟨G3, J3, m3, rx⟩ := hY i xv b2 G2 H2 H3 _ hd S.sub S.inv y
                      simp only [paGo] at e2
                      cases ea : fAns dr2 sts[i] b2 with
                      | none => rw [ea] at e2; cases e2
                      | some q =>
                        obtain ⟨a, dr3, b3⟩ := q
                        rw [ea] at e2
                        simp only at e2
                        split at e2
                        · rename_i nba
                          cases er : paGo (sts.drop (i + 1)) dr3 b3 with
                          | none => rw [er] at e2; cases e2
                          | some q =>
                            obtain ⟨as, d4, b4⟩ := q
                            rw [er] at e2
                            simp only [Option.some.injEq, Prod.mk.injEq] at e2
                            obtain ⟨f1, f2, f3⟩ := e2
                            subst f1
                            subst f2
                            subst f3
                            obtain ⟨acc, hacc, racc⟩ := S.lst
                            obtain ⟨ox3, gx3, _⟩ := m3.keep x _ S.ob fun t => nbx (tch0.mp t)
                            obtain ⟨oD3, gD3, _⟩ := m3.keep D _ hacc fun t => nbD (tch0.mp t)
                            refine ⟨rfl, ?_⟩
                            unfold tYes
                            refine iteT ?_
                            refine ⟨.ref x, rfl, x, dx, _, rfl, ox3, flds_no _ _ (by decide +kernel) (by decide +kernel), xv, rfl, ?_⟩
                            refine ⟨bx, G3, b2, x, dx, d, v2, xv, dr2, _, a, dr3, b3, rfl, J3, ox3, gx3 S.gx, nbx, S.rv.mono m3.sub, rx, ea, fun va v4 G4 H4 J4 sub4 ob4 gx4 ra rv4 keep4 stay4 => ?_⟩
                            obtain ⟨oD4, gD4⟩ := keep4 D _ oD3 hDx nbD
                            have gD := gD4 (gD3 S.gd)
                            have hfew := S.few
                            have hal := racc.length
                            refine ⟨acc, oD4, by rw [ln_eq]; omega, G4, b3, v4, dr3, done ++ [a], as, ⟨⟨fun q u hq => ?_, fun B C0 hB => ?_, J4.bfree, rfl, fun i d e => by simp at e, fun i l e => by simp at e, fun i l e => by simp at e, fun i j a h => by obtain ⟨⟨l, e⟩ | ⟨es, e⟩, _⟩ := h <;> simp at e⟩, (S.sub.trans m3.sub).trans sub4, fun q o hq nq nbq => ?_, fun q o hq => ?_, by rw [upd_ne hDx.symm]; exact ob4, gx4, gD, rv4, ⟨_, upd_same, ((racc.mono m3.sub).mono sub4).snoc (ra.rp nba)⟩, by rw [List.length_append, List.length_singleton]; omega⟩, er, by rw [← hans]; simp⟩
                            · rw [upd_ne (ne_of_none hq gD)]; exact J4.sub q u hq
                            · obtain ⟨t, hf, k1, k2, k3⟩ := J4.box B C0 hB
                              exact ⟨t, hf, by rw [upd_ne fun z => nbD ⟨B, C0, hB, .inl z.symm⟩]; exact k1, by rw [upd_ne fun z => nbD ⟨B, C0, hB, .inr z.symm⟩]; exact k2, k3⟩
                            · obtain ⟨h2, g2⟩ := S.keep q o hq nq nbq
                              obtain ⟨h3, g3, _⟩ := m3.keep q o h2 fun t => nbq (tch0.mp t)
                              obtain ⟨h4, g4⟩ := keep4 q o h3 nq nbq
                              exact ⟨by rw [upd_ne (ne_of_none hq hD)]; exact h4, fun z => g4 (g3 (g2 z))⟩
                            · obtain ⟨o2, h2⟩ := S.stay q o hq
                              obtain ⟨o3, h3⟩ := m3.stay q o2 h2
                              obtain ⟨o4, h4⟩ := stay4 q o3 h3
                              exact ⟨o4, by rw [upd_ne (ne_of_none hq hD)]; exact h4⟩
                        · cases e2
                    · rintro H2 ⟨G2, b2, v2, dr2, done, rest2, S, e2, hans⟩
                      rw [List.drop_length] at e2
                      simp only [paGo, Option.some.injEq, Prod.mk.injEq] at e2
                      obtain ⟨f1, f2, f3⟩ := e2
                      subst f1
                      subst f2
                      subst f3
                      rw [List.append_nil] at hans
                      subst hans
                      obtain ⟨acc, hacc, racc⟩ := S.lst
                      refine ⟨D, acc, rfl, .inl ⟨SqL.of hacc, fun l hl => ?_⟩⟩
                      have xl : x ≠ l := ne_of_none S.ob hl
                      refine ⟨.ref l, rfl, .ref x, rfl, x, dx, _, rfl, (by rw [upd_ne xl]; exact S.ob), flds_no _ _ (by decide +kernel) (by decide +kernel), x, dx, d, v2, rfl, (by rw [upd_ne xl]; exact S.ob), (by show 2 ≤ sizeLine; decide), fun t ht => ?_⟩
                      obtain ⟨J5, m5⟩ := S.inv.alloc hl (.tup acc)
                      obtain ⟨J6, m6⟩ := J5.alloc ht (.tup [.ref l, v2])
                      have rl : Rp K (upd G2 l (.tup acc)) (.ref l) (.tuple done) := .tup (SqT.of upd_same) (racc.mono m5.sub)
                      refine k (.ref t) _ _ J6 ⟨(S.sub.trans m5.sub).trans m6.sub, fun q o hq nq => ?_, fun q o hq => ?_⟩ (.inl (.tup (SqT.of upd_same) (.cons (rl.mono m6.sub) (.cons (((S.rv.rp nbF).mono m5.sub).mono m6.sub) .nil))))
                      · have nbq : ¬ (Cf.mk K bx).box q := fun z => nq (tch0.mpr z)
                        obtain ⟨h2, g2⟩ := S.keep q o (kp0 q o hq) (ne_of_none hq nx) nbq
                        obtain ⟨h3, g3, _⟩ := m5.keep q o h2 nq
                        obtain ⟨h4, g4, _⟩ := m6.keep q o h3 nq
                        exact ⟨h4, fun z => g4 (g3 (g2 z)), nq⟩
                      · obtain ⟨o2, h2⟩ := S.stay q o (kp0 q o hq)
                        obtain ⟨o3, h3⟩ := m5.stay q o2 h2
                        exact m6.stay q o3 h3
                  cases dsts with
                  | list xs =>
                    cases es
                    obtain ⟨a, us, rfl, ha, ra⟩ := rpLst r2
                    exact .inl ⟨_, rfl, a, rfl, ⟨us, SqL.of (I1.sub _ _ ha)⟩, fun D hD => rest _ D hD (wk_list (J := Itl K a) walk_list ha ra)⟩
                  | tuple xs =>
                    cases es
                    obtain ⟨a, us, rfl, ha, ra⟩ := rpTup r2
                    exact .inr ⟨_, rfl, a, rfl, ⟨us, tup_mono I1.sub ha⟩, fun D hD => rest _ D hD (wk_tup ha ra)⟩
                  | _ => simp [seqD] at es
            · cases e
        · cases e
    · cases e
abbrev s_same_answers : Stmt := top 37
theorem sc_same_answers : FnScope ["one", "other", "a", "b"] ["one", "other"] (defScope s_same_answers) := ⟨rfl, rfl, rfl, by decide +kernel, rfl, by decide +kernel, by decide +kernel⟩
def f_same_answers : Nat → List PyData → Bx → Option (PyData × Bx)
  | 0 => fun _ _ => none
  | fuel + 1 => fnOf 4 2 (sSeq (sIf (tAndM (tst (f1 (fVar 0) (gIsi "tuple"))) (tst (f1 (fVar 1) (gIsi "tuple")))) (sRet (fAnd (fBin (f1 (fPk 0) gLen) (f1 (fPk 1) gLen) gEq) (f1 (fLst (fLc (fRng zipD (aCons (fVar 0) (aCons (fVar 1) aNil))) (tgTup 2 (tgCons (tgName 2) (tgCons (tgName 3) tgNil))) (pur true) (fCall (f_same_answers fuel) (aCons (fVar 2) (aCons (fVar 3) aNil))) [2, 3])) gAll))) sNext) (sRet (fAnd (fBin (f1 (fVar 0) (gIsi "bool")) (f1 (fVar 1) (gIsi "bool")) gEq) (fBin (fVar 0) (fVar 1) gEq))))
theorem ok_same_answers {f : Addr} {fd : FuncData} (F : Fun K "same_answers" "same_answers" s_same_answers f fd) (T : Txt K mg) (hm : mg "same_answers" = some (.ref f)) (hb : Binds K fd ["one", "other"] []) : ∀ fuel : Nat, FnOk P w K mg base CX0 (fuel + 0) f fd ["one", "other"] (spOf K (f_same_answers fuel))
  | 0 => fn_no
  | fuel + 1 => fn_ok F sc_same_answers fun cdv A outer s H E bx hr =>
    have hu65 := hu65 hr
    have hu := hu_of hr
    have c_same_answers := cal_of (ok_same_answers F T hm hb fuel) hm F.kp hb
    (bCons (sIff (tW (tAnd2 (tTru (eIsi (TN := "tuple") T.isinstance T.ty_tuple (by decide +kernel) (eVar 0))) (tAnd1 (tTru (eIsi (TN := "tuple") T.isinstance T.ty_tuple (by decide +kernel) (eVar 1)))))) (bOne (sRt (eAnd (eCm (cEq hu65) (eLenK T.len (kVar 0)) (eLenK T.len (kVar 1))) (eOne (eAll rfl T.all (eLst (eLc rfl sc_same_answers.nd (iZp T.zip (aCn (eVar 0) (aCn (eVar 1) aNl))) (own := [("a", 2), ("b", 3)]) (blkOk_by (N := ["one", "other", "a", "b"]) (sc := defScope s_same_answers) (by decide +kernel)) (fun _ _ _ _ _ => (gTupl rfl (gCn (gNam sc_same_answers.nd (i := 2)) (gCn (gNam sc_same_answers.nd (i := 3)) gNl)) (n := 2))) (fun _ _ _ _ _ => tsNo) (fun _ _ _ _ _ => (eCall c_same_answers hr (Nat.le_refl _) (aCn (eVar 2) (aCn (eVar 3) aNl))))))))))) bNil) (bOne (sRt (eAnd (eCm (cEq hu65) (eIsi (TN := "bool") T.isinstance T.ty_bool (by decide +kernel) (eVar 0)) (eIsi (TN := "bool") T.isinstance T.ty_bool (by decide +kernel) (eVar 1))) (eOne (eCm (cEq hu65) (eVar 0) (eVar 1)))))))

abbrev s_is_told_answer : Stmt := top 43
theorem sc_is_told_answer : FnScope ["value"] ["value"] (defScope s_is_told_answer) := ⟨rfl, rfl, rfl, by decide +kernel, rfl, by decide +kernel, by decide +kernel⟩
def f_is_told_answer : List PyData → Bx → Option (PyData × Bx) := fnOf 1 1 (sSeq (sIf (tOrM (tbl (fBin (fVar 0) (pur .none) gIs)) (tst (f1 (fVar 0) (gIsi "bool")))) (sRet (fBin (fVar 0) (pur (.bool false)) gIsNot)) sNext) (sRet (fOr (fCall f_is_stored (aCons (fVar 0) aNil)) (fOr (fAnd (fCall f_is_whole (aCons (fVar 0) aNil)) (fBin (fVar 0) (pur (.int 0)) gGe)) (lft none)))))
theorem ok_is_told_answer {f : Addr} {fd : FuncData} (F : Fun K "is_told_answer" "is_told_answer" s_is_told_answer f fd) (T : Txt K mg) (c_is_stored : Cal P w K mg base 2 "is_stored" f_is_stored) (c_is_whole : Cal P w K mg base 1 "is_whole" f_is_whole) : FnOk P w K mg base CX0 3 f fd ["value"] (spOf K f_is_told_answer) :=
  fn_ok F sc_is_told_answer fun cdv A outer s H E bx hr =>
    have hu65 := hu65 hr
    have hu := hu_of hr
    (bCons (sIff (tW (tOr2 (tCm cIs (eVar 0) eNone) (tOr1 (tTru (eIsi (TN := "bool") T.isinstance T.ty_bool (by decide +kernel) (eVar 0)))))) (bOne (sRt (eCm cIsNot (eVar 0) eBool))) bNil) (bOne (sRt (eOr (eCall c_is_stored hr (by decide) (aCn (eVar 0) aNl)) (eOr (eAnd (eCall c_is_whole hr (by decide) (aCn (eVar 0) aNl)) (eOne (eCm cGe (eVar 0) eInt))) (eOne eNo))))))

abbrev s_are_inner : Stmt := top 44
theorem sc_are_inner : FnScope ["value", "saved", "row"] ["value"] (defScope s_are_inner) := ⟨rfl, rfl, rfl, by decide +kernel, rfl, by decide +kernel, by decide +kernel⟩
def f_are_inner : List PyData → Bx → Option (PyData × Bx) := fnOf 3 1 (sSeq (sIf (tNotM (tst (f1 (fVar 0) (gIsi "tuple")))) (sRet (pur (.bool false))) sNext) (sSeq (sSet 1 (vImm (fTup aNil))) (sSeq (sFor (fItems (fVar 0)) (tgName 2) (sSeq (sIf (tOrM (tNotM (tst (f1 (fVar 2) (gIsi "tuple")))) (tOrM (tbl (fBin (fVar 2) (fTup aNil) gEq)) (tNotM (tst (f1 (fIxK 2 (pur (.int 0))) (gIsi "str")))))) (sRet (pur (.bool false))) sNext) (sSeq (sIf (tAndM (tNotM (tst (fCall f_is_read (aCons (fVar 2) aNil)))) (tAndM (tNotM (tst (fCall f_is_write (aCons (fVar 2) aNil)))) (tNotM (tAndM (lft none) (tbl (fBin (fIxK 2 (pur (.int 0))) (fTup (aCons (pur (.str "save")) (aCons (pur (.str "back")) aNil))) gIn)))))) (sRet (pur (.bool false))) sNext) (sSeq (sIf (tAndM (tbl (fBin (fIxK 2 (pur (.int 0))) (pur (.str "back")) gEq)) (tbl (fBin (fIxK 2 (pur (.int 1))) (fPk 1) gNotIn))) (sRet (pur (.bool false))) sNext) (sSet 1 (vImm (fIf (tbl (fBin (fIxK 2 (pur (.int 0))) (pur (.str "save")) gEq)) (fBin (fVar 1) (fTup (aCons (fIxK 2 (pur (.int 1))) aNil)) gAdd) (fVar 1)))))))) (sRet (pur (.bool true))))))
theorem ok_are_inner {f : Addr} {fd : FuncData} (F : Fun K "are_inner" "are_inner" s_are_inner f fd) (T : Txt K mg) (c_is_read : Cal P w K mg base 3 "is_read" f_is_read) (c_is_write : Cal P w K mg base 3 "is_write" f_is_write) : FnOk P w K mg base CX0 4 f fd ["value"] (spOf K f_are_inner) :=
  fn_ok F sc_are_inner fun cdv A outer s H E bx hr =>
    have hu65 := hu65 hr
    have hu := hu_of hr
    (bCons (sIff (tNt (tTru (eIsi (TN := "tuple") T.isinstance T.ty_tuple (by decide +kernel) (eVar 0)))) (bOne (sRt eBool)) bNil) (bCons (sAsg sc_are_inner.nd (xImm (eTup aNl)) (i := 1)) (bCons (sForr PassesOwn.never rfl (iAny (eVar 0)) (gNam sc_are_inner.nd (i := 2)) (bCons (sIff (tW (tOr2 (tNt (tTru (eIsi (TN := "tuple") T.isinstance T.ty_tuple (by decide +kernel) (eVar 2)))) (tOr2 (tCm (cEq hu65) (eVar 2) (eTup aNl)) (tOr1 (tNt (tTru (eIsi (TN := "str") T.isinstance T.ty_str (by decide +kernel) (eIxK (i := 2) eInt)))))))) (bOne (sRt eBool)) bNil) (bCons (sIff (tW (tAnd2 (tNt (tTru (eCall c_is_read hr (by decide) (aCn (eVar 2) aNl)))) (tAnd2 (tNt (tTru (eCall c_is_write hr (by decide) (aCn (eVar 2) aNl)))) (tAnd1 (tNt (tW (tAnd2 tNo (tAnd1 (tCm (cIn hu65) (eIxK (i := 2) eInt) (eTup (aCn eStr (aCn eStr aNl)))))))))))) (bOne (sRt eBool)) bNil) (bCons (sIff (tW (tAnd2 (tCm (cEq hu65) (eIxK (i := 2) eInt) eStr) (tAnd1 (tInK (cNotIn hu65) sc_notin (eIxK (i := 2) eInt) (kVar 1))))) (bOne (sRt eBool)) bNil) (bOne (sAsg sc_are_inner.nd (xImm (eIf (tCm (cEq hu65) (eIxK (i := 2) eInt) eStr) (eAdd (eVar 1) (eTup (aCn (eIxK (i := 2) eInt) aNl))) (eVar 1))) (i := 1))))))) (bOne (sRt eBool)))))

abbrev s_is_history_row : Stmt := top 45
theorem sc_is_history_row : FnScope ["value", "began", "ended", "kind", "degree", "statements", "answers", "answer"] ["value"] (defScope s_is_history_row) := ⟨rfl, rfl, rfl, by decide +kernel, rfl, by decide +kernel, by decide +kernel⟩
def f_is_history_row : List PyData → Bx → Option (PyData × Bx) := fnOf 8 1 (sSeq (sIf (tOrM (tNotM (tst (f1 (fVar 0) (gIsi "tuple")))) (tbl (fBin (f1 (fPk 0) gLen) (pur (.int 6)) gNe))) (sRet (pur (.bool false))) sNext) (sSeq (sTg (fVar 0) (tgTup 6 (tgCons (tgName 1) (tgCons (tgName 2) (tgCons (tgName 3) (tgCons (tgName 4) (tgCons (tgName 5) (tgCons (tgName 6) tgNil)))))))) (sSeq (sIf (tOrM (tNotM (tst (fCall f_is_number (aCons (fVar 1) (aCons (pur (.int 0)) (aCons (pur d_GREATEST_TIME) aNil)))))) (tNotM (tst (fCall f_is_number (aCons (fVar 2) (aCons (fBin (fVar 1) (pur (.int 1)) gAdd) (aCons (pur d_GREATEST_TIME) aNil))))))) (sRet (pur (.bool false))) sNext) (sSeq (sIf (tOrM (tNotM (tst (f1 (fVar 3) (gIsi "str")))) (tOrM (tbl (fBin (fVar 3) (pur d_KINDS) gNotIn)) (tOrM (tNotM (tst (f1 (fVar 4) (gIsi "str")))) (tbl (fBin (fVar 4) (pur d_DEGREES) gNotIn))))) (sRet (pur (.bool false))) sNext) (sSeq (sIf (tOrM (tNotM (tst (fCall f_are_inner (aCons (fVar 5) aNil)))) (tOrM (tNotM (tst (f1 (fVar 6) (gIsi "tuple")))) (tbl (fBin (f1 (fPk 6) gLen) (f1 (fPk 5) gLen) gNe)))) (sRet (pur (.bool false))) sNext) (sRet (f1 (fLst (fLc (fItems (fVar 6)) (tgName 7) (pur true) (fCall f_is_told_answer (aCons (fVar 7) aNil)) [7])) gAll)))))))
theorem ok_is_history_row {f : Addr} {fd : FuncData} (F : Fun K "is_history_row" "is_history_row" s_is_history_row f fd) (T : Txt K mg) (g_GREATEST_TIME : GC K mg "GREATEST_TIME" d_GREATEST_TIME) (g_KINDS : GC K mg "KINDS" d_KINDS) (g_DEGREES : GC K mg "DEGREES" d_DEGREES) (c_is_number : Cal P w K mg base 1 "is_number" f_is_number) (c_are_inner : Cal P w K mg base 4 "are_inner" f_are_inner) (c_is_told_answer : Cal P w K mg base 3 "is_told_answer" f_is_told_answer) : FnOk P w K mg base CX0 5 f fd ["value"] (spOf K f_is_history_row) :=
  fn_ok F sc_is_history_row fun cdv A outer s H E bx hr =>
    have hu65 := hu65 hr
    have hu := hu_of hr
    (bCons (sIff (tW (tOr2 (tNt (tTru (eIsi (TN := "tuple") T.isinstance T.ty_tuple (by decide +kernel) (eVar 0)))) (tOr1 (tCm (cNe hu65) (eLenK T.len (kVar 0)) eInt)))) (bOne (sRt eBool)) bNil) (bCons (sAsgT (eVar 0) (gTupl rfl (gCn (gNam sc_is_history_row.nd (i := 1)) (gCn (gNam sc_is_history_row.nd (i := 2)) (gCn (gNam sc_is_history_row.nd (i := 3)) (gCn (gNam sc_is_history_row.nd (i := 4)) (gCn (gNam sc_is_history_row.nd (i := 5)) (gCn (gNam sc_is_history_row.nd (i := 6)) gNl)))))) (n := 6))) (bCons (sIff (tW (tOr2 (tNt (tTru (eCall c_is_number hr (by decide) (aCn (eVar 1) (aCn eInt (aCn (eGl g_GREATEST_TIME) aNl)))))) (tOr1 (tNt (tTru (eCall c_is_number hr (by decide) (aCn (eVar 2) (aCn (eAdd (eVar 1) eInt) (aCn (eGl g_GREATEST_TIME) aNl))))))))) (bOne (sRt eBool)) bNil) (bCons (sIff (tW (tOr2 (tNt (tTru (eIsi (TN := "str") T.isinstance T.ty_str (by decide +kernel) (eVar 3)))) (tOr2 (tCm (cNotIn hu65) (eVar 3) (eGl g_KINDS)) (tOr2 (tNt (tTru (eIsi (TN := "str") T.isinstance T.ty_str (by decide +kernel) (eVar 4)))) (tOr1 (tCm (cNotIn hu65) (eVar 4) (eGl g_DEGREES))))))) (bOne (sRt eBool)) bNil) (bCons (sIff (tW (tOr2 (tNt (tTru (eCall c_are_inner hr (by decide) (aCn (eVar 5) aNl)))) (tOr2 (tNt (tTru (eIsi (TN := "tuple") T.isinstance T.ty_tuple (by decide +kernel) (eVar 6)))) (tOr1 (tCm (cNe hu65) (eLenK T.len (kVar 6)) (eLenK T.len (kVar 5))))))) (bOne (sRt eBool)) bNil) (bOne (sRt (eAll rfl T.all (eLst (eLc rfl sc_is_history_row.nd (iAny (eVar 6)) (own := [("answer", 7)]) (blkOk_by (N := ["value", "began", "ended", "kind", "degree", "statements", "answers", "answer"]) (sc := defScope s_is_history_row) (by decide +kernel)) (fun _ _ _ _ _ => (gNam sc_is_history_row.nd (i := 7))) (fun _ _ _ _ _ => tsNo) (fun _ _ _ _ _ => (eCall c_is_told_answer hr (by decide) (aCn (eVar 7) aNl)))))))))))))

abbrev s_is_history : Stmt := top 46
theorem sc_is_history : FnScope ["value", "row", "times", "time"] ["value"] (defScope s_is_history) := ⟨rfl, rfl, rfl, by decide +kernel, rfl, by decide +kernel, by decide +kernel⟩
def f_is_history : List PyData → Bx → Option (PyData × Bx) := fnOf 4 1 (sSeq (sIf (tOrM (tNotM (tst (f1 (fVar 0) (gIsi "tuple")))) (tOrM (tbl (fBin (f1 (fPk 0) gLen) (pur d_MOST_JUDGED) gGt)) (tNotM (tst (f1 (fLst (fLc (fItems (fVar 0)) (tgName 1) (pur true) (fCall f_is_history_row (aCons (fVar 1) aNil)) [1])) gAll))))) (sRet (pur (.bool false))) sNext) (sSeq (sSet 2 (vMut (fLc2 (fItems (fVar 0)) (tgName 1) (pur true) (fItems (fSl (fVar 1) (pur none) (oSm (pur (.int 2))))) (tgName 3) (pur true) (fVar 3) [1, 3] [3]))) (sRet (fBin (f1 (fVar 2) gLenSet) (f1 (fPk 2) gLen) gEq))))
theorem ok_is_history {f : Addr} {fd : FuncData} (F : Fun K "is_history" "is_history" s_is_history f fd) (T : Txt K mg) (g_MOST_JUDGED : GC K mg "MOST_JUDGED" d_MOST_JUDGED) (c_is_history_row : Cal P w K mg base 5 "is_history_row" f_is_history_row) : FnOk P w K mg base CX0 6 f fd ["value"] (spOf K f_is_history) :=
  fn_ok F sc_is_history fun cdv A outer s H E bx hr =>
    have hu65 := hu65 hr
    have hu := hu_of hr
    (bCons (sIff (tW (tOr2 (tNt (tTru (eIsi (TN := "tuple") T.isinstance T.ty_tuple (by decide +kernel) (eVar 0)))) (tOr2 (tCm cGt (eLenK T.len (kVar 0)) (eGl g_MOST_JUDGED)) (tOr1 (tNt (tTru (eAll rfl T.all (eLst (eLc rfl sc_is_history.nd (iAny (eVar 0)) (own := [("row", 1)]) (blkOk_by (N := ["value", "row", "times", "time"]) (sc := defScope s_is_history) (by decide +kernel)) (fun _ _ _ _ _ => (gNam sc_is_history.nd (i := 1))) (fun _ _ _ _ _ => tsNo) (fun _ _ _ _ _ => (eCall c_is_history_row hr (by decide) (aCn (eVar 1) aNl)))))))))))) (bOne (sRt eBool)) bNil) (bCons (sAsgLc2 rfl sc_is_history.nd (iAny (eVar 0)) (own := [("row", 1), ("time", 3)]) (blkOk_by (N := ["value", "row", "times", "time"]) (sc := defScope s_is_history) (by decide +kernel)) (fun _ _ _ _ _ => (gNam sc_is_history.nd (i := 1))) (fun _ _ _ _ _ => tsNo) (fun _ _ _ _ _ => (iAny (eSl (eVar 1) oNo (oSo eInt)))) (fun _ _ _ _ _ => (gNam sc_is_history.nd (i := 3))) (fun _ _ _ _ _ => tsNo) (fun _ _ _ _ _ => (eVar 3)) (i := 2)) (bOne (sRt (eCm (cEq hu65) (eLenSet rfl T.len T.set (eVar 2)) (eLenK T.len (kVar 2)))))))

abbrev s_rows_by_order : Stmt := top 47
theorem sc_rows_by_order : FnScope ["history", "order", "done", "rows", "j", "statements", "here", "later", "key"] ["history", "order"] (defScope s_rows_by_order) := ⟨rfl, rfl, rfl, by decide +kernel, rfl, by decide +kernel, by decide +kernel⟩
def f_rows_by_order : List PyData → Bx → Option (PyData × Bx) := fnOf 9 2 (sSeq (sPar [2, 3] (vCons (vMut (fDsp aNil)) (vCons (vMut (fDsp (aCons (fTup aNil) aNil))) vNil))) (sSeq (sFor (fItems (fVar 1)) (tgName 4) (sIf (tbl (fBin (fBin (fIxK 0 (fVar 4)) (pur (.int 2)) gIx) (pur (.str "done")) gEq)) (sSeq (sPar [5, 6] (vCons (vImm (fBin (fIxK 0 (fVar 4)) (pur (.int 4)) gIx)) (vCons (vImm (fIxK 3 (fNeg (pur (.int 1))))) vNil))) (sSeq (sSet 7 (vImm (fBin (fCall f_plain_answers (aCons (fVar 6) (aCons (fVar 5) aNil))) (pur (.int 1)) gIx))) (sSeq (sFor (fItems (fCall f_keys_changed (aCons (fVar 5) aNil))) (tgName 8) (sSet 6 (vImm (fCall f_with_value (aCons (fVar 6) (aCons (fVar 8) (aCons (fCall f_value_in (aCons (fVar 7) (aCons (fVar 8) aNil))) aNil))))))) (sSeq (sDrop (fMt 2 gApp (aCons (fVar 4) aNil))) (sDrop (fMt 3 gApp (aCons (fVar 6) aNil))))))) sNext)) (sRet (fTup (aCons (fVar 2) (aCons (fVar 3) aNil))))))
theorem ok_rows_by_order {f : Addr} {fd : FuncData} (F : Fun K "rows_by_order" "rows_by_order" s_rows_by_order f fd) (T : Txt K mg) (c_plain_answers : Cal P w K mg base 4 "plain_answers" f_plain_answers) (c_keys_changed : Cal P w K mg base 1 "keys_changed" f_keys_changed) (c_with_value : Cal P w K mg base 1 "with_value" f_with_value) (c_value_in : Cal P w K mg base 1 "value_in" f_value_in) : FnOk P w K mg base CX0 5 f fd ["history", "order"] (spOf K f_rows_by_order) :=
  fn_ok F sc_rows_by_order fun cdv A outer s H E bx hr =>
    have hu65 := hu65 hr
    have hu := hu_of hr
    (bCons (sAsg2 rfl sc_rows_by_order.nd (xsCons (xMut (fDspE aNl)) (xsCons (xMut (fDspE (aCn (eTup aNl) aNl))) xsNil)) (i := 2) (j := 3)) (bCons (sForr PassesOwn.never rfl (iAny (eVar 1)) (gNam sc_rows_by_order.nd (i := 4)) (bOne (sIff (tCm (cEq hu65) (eIx (eIxK (i := 0) (eVar 4)) eInt) eStr) (bCons (sAsg2 rfl sc_rows_by_order.nd (xsCons (xImm (eIx (eIxK (i := 0) (eVar 4)) eInt)) (xsCons (xImm (eIxK (i := 3) (eNeg eInt))) xsNil)) (i := 5) (j := 6)) (bCons (sAsg sc_rows_by_order.nd (xImm (eIx (eCall c_plain_answers hr (by decide) (aCn (eVar 6) (aCn (eVar 5) aNl))) eInt)) (i := 7)) (bCons (sForr PassesOwn.never rfl (iAny (eCall c_keys_changed hr (by decide) (aCn (eVar 5) aNl))) (gNam sc_rows_by_order.nd (i := 8)) (bOne (sAsg sc_rows_by_order.nd (xImm (eCall c_with_value hr (by decide) (aCn (eVar 6) (aCn (eVar 8) (aCn (eCall c_value_in hr (by decide) (aCn (eVar 7) (aCn (eVar 8) aNl))) aNl))))) (i := 6)))) (bCons (sEx (eAppend (i := 2) (aCn (eVar 4) aNl))) (bOne (sEx (eAppend (i := 3) (aCn (eVar 6) aNl)))))))) bNil))) (bOne (sRt (eTup (aCn (eVar 2) (aCn (eVar 3) aNl)))))))

abbrev s_fits_serial : Stmt := top 48
theorem sc_fits_serial : FnScope ["row", "rows"] ["row", "rows"] (defScope s_fits_serial) := ⟨rfl, rfl, rfl, by decide +kernel, rfl, by decide +kernel, by decide +kernel⟩
def f_fits_serial : List PyData → Bx → Option (PyData × Bx) := fnOf 2 2 (sRet (fCall (f_same_answers 10) (aCons (fBin (fCall f_plain_answers (aCons (fVar 1) (aCons (fIxK 0 (pur (.int 4))) aNil))) (pur (.int 0)) gIx) (aCons (fIxK 0 (pur (.int 5))) aNil))))
theorem ok_fits_serial {f : Addr} {fd : FuncData} (F : Fun K "fits_serial" "fits_serial" s_fits_serial f fd) (T : Txt K mg) (c_same_answers : Cal P w K mg base 10 "same_answers" (f_same_answers 10)) (c_plain_answers : Cal P w K mg base 4 "plain_answers" f_plain_answers) : FnOk P w K mg base CX0 11 f fd ["row", "rows"] (spOf K f_fits_serial) :=
  fn_ok F sc_fits_serial fun cdv A outer s H E bx hr =>
    have hu65 := hu65 hr
    have hu := hu_of hr
    (bOne (sRt (eCall c_same_answers hr (by decide) (aCn (eIx (eCall c_plain_answers hr (by decide) (aCn (eVar 1) (aCn (eIxK (i := 0) eInt) aNl))) eInt) (aCn (eIxK (i := 0) eInt) aNl)))))

abbrev s_can_follow : Stmt := top 51
theorem sc_can_follow : FnScope ["history", "order", "j", "row", "k", "done", "rows"] ["history", "order", "j"] (defScope s_can_follow) := ⟨rfl, rfl, rfl, by decide +kernel, rfl, by decide +kernel, by decide +kernel⟩
def f_can_follow : List PyData → Bx → Option (PyData × Bx) := fnOf 7 3 (sSeq (sSet 3 (vImm (fIxK 0 (fVar 2)))) (sSeq (sIf (tOrM (tbl (fBin (fVar 2) (fPk 1) gIn)) (tst (f1 (fLst (fLc (fRng rngArg1 (aCons (f1 (fPk 0) gLen) aNil)) (tgName 4) (pur true) (fAnd (fBin (fBin (fIxK 0 (fVar 4)) (pur (.int 1)) gIx) (fIxK 3 (pur (.int 0))) gLt) (fBin (fVar 4) (fPk 1) gNotIn)) [4])) gAny))) (sRet (pur (.bool false))) sNext) (sSeq (sTg (fCall f_rows_by_order (aCons (fVar 0) (aCons (fVar 1) aNil))) (tgTup 2 (tgCons (tgName 5) (tgCons (tgName 6) tgNil)))) (sRet (fIf (tbl (fBin (fIxK 3 (pur (.int 3))) (pur (.str "serial")) gEq)) (fCall f_fits_serial (aCons (fVar 3) (aCons (fIxK 6 (fNeg (pur (.int 1)))) aNil))) (lft none))))))
theorem ok_can_follow {f : Addr} {fd : FuncData} (F : Fun K "can_follow" "can_follow" s_can_follow f fd) (T : Txt K mg) (c_rows_by_order : Cal P w K mg base 5 "rows_by_order" f_rows_by_order) (c_fits_serial : Cal P w K mg base 11 "fits_serial" f_fits_serial) : FnOk P w K mg base CX0 12 f fd ["history", "order", "j"] (spOf K f_can_follow) :=
  fn_ok F sc_can_follow fun cdv A outer s H E bx hr =>
    have hu65 := hu65 hr
    have hu := hu_of hr
    (bCons (sAsg sc_can_follow.nd (xImm (eIxK (i := 0) (eVar 2))) (i := 3)) (bCons (sIff (tW (tOr2 (tInK (cIn hu65) sc_in (eVar 2) (kVar 1)) (tOr1 (tTru (eAny rfl T.any (eLst (eLc rfl sc_can_follow.nd (iRng1e T.range (aCn (eLenK T.len (kVar 0)) aNl)) (own := [("k", 4)]) (blkOk_by (N := ["history", "order", "j", "row", "k", "done", "rows"]) (sc := defScope s_can_follow) (by decide +kernel)) (fun _ _ _ _ _ => (gNam sc_can_follow.nd (i := 4))) (fun _ _ _ _ _ => tsNo) (fun _ _ _ _ _ => (eAnd (eCm (cLt hu65) (eIx (eIxK (i := 0) (eVar 4)) eInt) (eIxK (i := 3) eInt)) (eOne (eInK (cNotIn hu65) sc_notin (eVar 4) (kVar 1)))))))))))) (bOne (sRt eBool)) bNil) (bCons (sAsgT (eCall c_rows_by_order hr (by decide) (aCn (eVar 0) (aCn (eVar 1) aNl))) (gTupl rfl (gCn (gNam sc_can_follow.nd (i := 5)) (gCn (gNam sc_can_follow.nd (i := 6)) gNl)) (n := 2))) (bOne (sRt (eIf (tCm (cEq hu65) (eIxK (i := 3) eInt) eStr) (eCall c_fits_serial hr (by decide) (aCn (eVar 3) (aCn (eIxK (i := 6) (eNeg eInt)) aNl))) eNo))))))

abbrev s_followers : Stmt := top 52
theorem sc_followers : FnScope ["history", "order", "j"] ["history", "order"] (defScope s_followers) := ⟨rfl, rfl, rfl, by decide +kernel, rfl, by decide +kernel, by decide +kernel⟩
def f_followers : List PyData → Bx → Option (PyData × Bx) := fnOf 3 2 (sRet (fLst (fLc (fRng rngArg1 (aCons (f1 (fPk 0) gLen) aNil)) (tgName 2) (tst (fCall f_can_follow (aCons (fVar 0) (aCons (fVar 1) (aCons (fVar 2) aNil))))) (fBin (fVar 1) (fTup (aCons (fVar 2) aNil)) gAdd) [2])))
theorem ok_followers {f : Addr} {fd : FuncData} (F : Fun K "followers" "followers" s_followers f fd) (T : Txt K mg) (c_can_follow : Cal P w K mg base 12 "can_follow" f_can_follow) : FnOk P w K mg base CX0 13 f fd ["history", "order"] (spOf K f_followers) :=
  fn_ok F sc_followers fun cdv A outer s H E bx hr =>
    have hu65 := hu65 hr
    have hu := hu_of hr
    (bOne (sRt (eLst (eLc rfl sc_followers.nd (iRng1e T.range (aCn (eLenK T.len (kVar 0)) aNl)) (own := [("j", 2)]) (blkOk_by (N := ["history", "order", "j"]) (sc := defScope s_followers) (by decide +kernel)) (fun _ _ _ _ _ => (gNam sc_followers.nd (i := 2))) (fun _ _ _ _ _ => (tsOne (tTru (eCall c_can_follow hr (by decide) (aCn (eVar 0) (aCn (eVar 1) (aCn (eVar 2) aNl))))))) (fun _ _ _ _ _ => (eAdd (eVar 1) (eTup (aCn (eVar 2) aNl))))))))

abbrev s_is_some_order : Stmt := top 53
theorem sc_is_some_order : FnScope ["history", "value", "j"] ["history", "value"] (defScope s_is_some_order) := ⟨rfl, rfl, rfl, by decide +kernel, rfl, by decide +kernel, by decide +kernel⟩
def f_is_some_order : List PyData → Bx → Option (PyData × Bx) := fnOf 3 2 (sSeq (sIf (tOrM (tNotM (tst (f1 (fVar 1) (gIsi "tuple")))) (tNotM (tst (f1 (fLst (fLc (fItems (fVar 1)) (tgName 2) (pur true) (fCall f_is_number (aCons (fVar 2) (aCons (pur (.int 0)) (aCons (fBin (f1 (fPk 0) gLen) (pur (.int 1)) gSub) aNil)))) [2])) gAll)))) (sRet (pur (.bool false))) sNext) (sRet (fBin (f1 (fVar 1) gLenSet) (f1 (fPk 1) gLen) gEq)))
theorem ok_is_some_order {f : Addr} {fd : FuncData} (F : Fun K "is_some_order" "is_some_order" s_is_some_order f fd) (T : Txt K mg) (c_is_number : Cal P w K mg base 1 "is_number" f_is_number) : FnOk P w K mg base CX0 2 f fd ["history", "value"] (spOf K f_is_some_order) :=
  fn_ok F sc_is_some_order fun cdv A outer s H E bx hr =>
    have hu65 := hu65 hr
    have hu := hu_of hr
    (bCons (sIff (tW (tOr2 (tNt (tTru (eIsi (TN := "tuple") T.isinstance T.ty_tuple (by decide +kernel) (eVar 1)))) (tOr1 (tNt (tTru (eAll rfl T.all (eLst (eLc rfl sc_is_some_order.nd (iAny (eVar 1)) (own := [("j", 2)]) (blkOk_by (N := ["history", "value", "j"]) (sc := defScope s_is_some_order) (by decide +kernel)) (fun _ _ _ _ _ => (gNam sc_is_some_order.nd (i := 2))) (fun _ _ _ _ _ => tsNo) (fun _ _ _ _ _ => (eCall c_is_number hr (by decide) (aCn (eVar 2) (aCn eInt (aCn (eSub (eLenK T.len (kVar 0)) eInt) aNl))))))))))))) (bOne (sRt eBool)) bNil) (bOne (sRt (eCm (cEq hu65) (eLenSet rfl T.len T.set (eVar 1)) (eLenK T.len (kVar 1))))))

abbrev s_is_explaining : Stmt := top 54
theorem sc_is_explaining : FnScope ["history", "value", "k", "j"] ["history", "value"] (defScope s_is_explaining) := ⟨rfl, rfl, rfl, by decide +kernel, rfl, by decide +kernel, by decide +kernel⟩
def f_is_explaining : List PyData → Bx → Option (PyData × Bx) := fnOf 4 2 (sSeq (sIf (tOrM (tNotM (tst (fCall f_is_some_order (aCons (fVar 0) (aCons (fVar 1) aNil))))) (tbl (fBin (f1 (fPk 1) gLen) (f1 (fPk 0) gLen) gLt))) (sRet (pur (.bool false))) sNext) (sRet (f1 (fLst (fLc (fRng enumD (aCons (fVar 1) aNil)) (tgTup 2 (tgCons (tgName 2) (tgCons (tgName 3) tgNil))) (pur true) (fCall f_can_follow (aCons (fVar 0) (aCons (fSl (fVar 1) (pur none) (oSm (fVar 2))) (aCons (fVar 3) aNil)))) [2, 3])) gAll)))
theorem ok_is_explaining {f : Addr} {fd : FuncData} (F : Fun K "is_explaining" "is_explaining" s_is_explaining f fd) (T : Txt K mg) (c_is_some_order : Cal P w K mg base 2 "is_some_order" f_is_some_order) (c_can_follow : Cal P w K mg base 12 "can_follow" f_can_follow) : FnOk P w K mg base CX0 13 f fd ["history", "value"] (spOf K f_is_explaining) :=
  fn_ok F sc_is_explaining fun cdv A outer s H E bx hr =>
    have hu65 := hu65 hr
    have hu := hu_of hr
    (bCons (sIff (tW (tOr2 (tNt (tTru (eCall c_is_some_order hr (by decide) (aCn (eVar 0) (aCn (eVar 1) aNl))))) (tOr1 (tCm (cLt hu65) (eLenK T.len (kVar 1)) (eLenK T.len (kVar 0)))))) (bOne (sRt eBool)) bNil) (bOne (sRt (eAll rfl T.all (eLst (eLc rfl sc_is_explaining.nd (iEn T.enumerate (aCn (eVar 1) aNl)) (own := [("k", 2), ("j", 3)]) (blkOk_by (N := ["history", "value", "k", "j"]) (sc := defScope s_is_explaining) (by decide +kernel)) (fun _ _ _ _ _ => (gTupl rfl (gCn (gNam sc_is_explaining.nd (i := 2)) (gCn (gNam sc_is_explaining.nd (i := 3)) gNl)) (n := 2))) (fun _ _ _ _ _ => tsNo) (fun _ _ _ _ _ => (eCall c_can_follow hr (by decide) (aCn (eVar 0) (aCn (eSl (eVar 1) oNo (oSo (eVar 2))) (aCn (eVar 3) aNl)))))))))))

abbrev s_is_history_paper : Stmt := top 55
theorem sc_is_history_paper : FnScope ["history", "value", "order", "later"] ["history", "value"] (defScope s_is_history_paper) := ⟨rfl, rfl, rfl, by decide +kernel, rfl, by decide +kernel, by decide +kernel⟩
def f_is_history_paper : List PyData → Bx → Option (PyData × Bx) := fnOf 4 2 (sSeq (sIf (tOrM (tNotM (tst (f1 (fVar 1) (gIsi "tuple")))) (tNotM (tst (f1 (fLst (fLc (fItems (fVar 1)) (tgName 2) (pur true) (fCall f_is_some_order (aCons (fVar 0) (aCons (fVar 2) aNil))) [2])) gAll)))) (sRet (pur (.bool false))) sNext) (sSeq (sIf (tOrM (tbl (fBin (fTup aNil) (fPk 1) gNotIn)) (tOrM (tNotM (tst (fCall f_is_ascending (aCons (fVar 1) aNil)))) (tst (f1 (fLst (fLc (fItems (fVar 1)) (tgName 2) (pur true) (fBin (f1 (fPk 2) gLen) (f1 (fPk 0) gLen) gEq) [2])) gAny)))) (sRet (pur (.bool false))) sNext) (sRet (f1 (fLst (fLc2 (fItems (fVar 1)) (tgName 2) (pur true) (fItems (fCall f_followers (aCons (fVar 0) (aCons (fVar 2) aNil)))) (tgName 3) (pur true) (fBin (fVar 3) (fPk 1) gIn) [2, 3] [3])) gAll))))
theorem ok_is_history_paper {f : Addr} {fd : FuncData} (F : Fun K "is_history_paper" "is_history_paper" s_is_history_paper f fd) (T : Txt K mg) (c_is_some_order : Cal P w K mg base 2 "is_some_order" f_is_some_order) (c_is_ascending : Cal P w K mg base 1 "is_ascending" f_is_ascending) (c_followers : Cal P w K mg base 13 "followers" f_followers) : FnOk P w K mg base CX0 14 f fd ["history", "value"] (spOf K f_is_history_paper) :=
  fn_ok F sc_is_history_paper fun cdv A outer s H E bx hr =>
    have hu65 := hu65 hr
    have hu := hu_of hr
    (bCons (sIff (tW (tOr2 (tNt (tTru (eIsi (TN := "tuple") T.isinstance T.ty_tuple (by decide +kernel) (eVar 1)))) (tOr1 (tNt (tTru (eAll rfl T.all (eLst (eLc rfl sc_is_history_paper.nd (iAny (eVar 1)) (own := [("order", 2)]) (blkOk_by (N := ["history", "value", "order", "later"]) (sc := defScope s_is_history_paper) (by decide +kernel)) (fun _ _ _ _ _ => (gNam sc_is_history_paper.nd (i := 2))) (fun _ _ _ _ _ => tsNo) (fun _ _ _ _ _ => (eCall c_is_some_order hr (by decide) (aCn (eVar 0) (aCn (eVar 2) aNl)))))))))))) (bOne (sRt eBool)) bNil) (bCons (sIff (tW (tOr2 (tInK (cNotIn hu65) sc_notin (eTup aNl) (kVar 1)) (tOr2 (tNt (tTru (eCall c_is_ascending hr (by decide) (aCn (eVar 1) aNl)))) (tOr1 (tTru (eAny rfl T.any (eLst (eLc rfl sc_is_history_paper.nd (iAny (eVar 1)) (own := [("order", 2)]) (blkOk_by (N := ["history", "value", "order", "later"]) (sc := defScope s_is_history_paper) (by decide +kernel)) (fun _ _ _ _ _ => (gNam sc_is_history_paper.nd (i := 2))) (fun _ _ _ _ _ => tsNo) (fun _ _ _ _ _ => (eCm (cEq hu65) (eLenK T.len (kVar 2)) (eLenK T.len (kVar 0)))))))))))) (bOne (sRt eBool)) bNil) (bOne (sRt (eAll rfl T.all (eLst (eLc2 rfl sc_is_history_paper.nd (iAny (eVar 1)) (own := [("order", 2), ("later", 3)]) (blkOk_by (N := ["history", "value", "order", "later"]) (sc := defScope s_is_history_paper) (by decide +kernel)) (fun _ _ _ _ _ => (gNam sc_is_history_paper.nd (i := 2))) (fun _ _ _ _ _ => tsNo) (fun _ _ _ _ _ => (iAny (eCall c_followers hr (by decide) (aCn (eVar 0) (aCn (eVar 2) aNl))))) (fun _ _ _ _ _ => (gNam sc_is_history_paper.nd (i := 3))) (fun _ _ _ _ _ => tsNo) (fun _ _ _ _ _ => (eInK (cIn hu65) sc_in (eVar 3) (kVar 1))))))))))

abbrev s_is_course : Stmt := top 59
theorem sc_is_course : FnScope ["value", "page"] ["value"] (defScope s_is_course) := ⟨rfl, rfl, rfl, by decide +kernel, rfl, by decide +kernel, by decide +kernel⟩
def f_is_course : List PyData → Bx → Option (PyData × Bx) := fnOf 2 1 (sSeq (sIf (tOrM (tNotM (tst (f1 (fVar 0) (gIsi "tuple")))) (tbl (fBin (f1 (fPk 0) gLen) (pur d_MOST_COURSE) gGt))) (sRet (pur (.bool false))) sNext) (sRet (f1 (fLst (fLc (fItems (fVar 0)) (tgName 1) (pur true) (fCall f_is_number (aCons (fVar 1) (aCons (pur (.int 1)) (aCons (pur d_GREATEST_PAGE_NUMBER) aNil)))) [1])) gAll)))
theorem ok_is_course {f : Addr} {fd : FuncData} (F : Fun K "is_course" "is_course" s_is_course f fd) (T : Txt K mg) (g_MOST_COURSE : GC K mg "MOST_COURSE" d_MOST_COURSE) (g_GREATEST_PAGE_NUMBER : GC K mg "GREATEST_PAGE_NUMBER" d_GREATEST_PAGE_NUMBER) (c_is_number : Cal P w K mg base 1 "is_number" f_is_number) : FnOk P w K mg base CX0 2 f fd ["value"] (spOf K f_is_course) :=
  fn_ok F sc_is_course fun cdv A outer s H E bx hr =>
    have hu65 := hu65 hr
    have hu := hu_of hr
    (bCons (sIff (tW (tOr2 (tNt (tTru (eIsi (TN := "tuple") T.isinstance T.ty_tuple (by decide +kernel) (eVar 0)))) (tOr1 (tCm cGt (eLenK T.len (kVar 0)) (eGl g_MOST_COURSE))))) (bOne (sRt eBool)) bNil) (bOne (sRt (eAll rfl T.all (eLst (eLc rfl sc_is_course.nd (iAny (eVar 0)) (own := [("page", 1)]) (blkOk_by (N := ["value", "page"]) (sc := defScope s_is_course) (by decide +kernel)) (fun _ _ _ _ _ => (gNam sc_is_course.nd (i := 1))) (fun _ _ _ _ _ => tsNo) (fun _ _ _ _ _ => (eCall c_is_number hr (by decide) (aCn (eVar 1) (aCn eInt (aCn (eGl g_GREATEST_PAGE_NUMBER) aNl)))))))))))

abbrev s_spans_of : Stmt := top 60
theorem sc_spans_of : FnScope ["course", "last", "found", "k", "page"] ["course"] (defScope s_spans_of) := ⟨rfl, rfl, rfl, by decide +kernel, rfl, by decide +kernel, by decide +kernel⟩
def f_spans_of : List PyData → Bx → Option (PyData × Bx) := fnOf 5 1 (sSeq (sPar [1, 2] (vCons vDct (vCons (vMut (fDsp aNil)) vNil))) (sSeq (sFor (fRng enumD (aCons (fVar 0) aNil)) (tgTup 2 (tgCons (tgName 3) (tgCons (tgName 4) tgNil))) (sSeq (sIf (tbl (fBin (fVar 4) (fPk 1) gDin)) (sDrop (fMt 2 gApp (aCons (fTup (aCons (fDg 1 (fVar 4)) (aCons (fVar 3) aNil))) aNil))) sNext) (sPut 1 (fVar 4) (fVar 3)))) (sRet (fVar 2))))
theorem ok_spans_of {f : Addr} {fd : FuncData} (F : Fun K "spans_of" "spans_of" s_spans_of f fd) (T : Txt K mg) : FnOk P w K mg base CX0 1 f fd ["course"] (spOf K f_spans_of) :=
  fn_ok F sc_spans_of fun cdv A outer s H E bx hr =>
    have hu65 := hu65 hr
    have hu := hu_of hr
    (bCons (sAsg2 rfl sc_spans_of.nd (xsCons xDct (xsCons (xMut (fDspE aNl)) xsNil)) (i := 1) (j := 2)) (bCons (sForr PassesOwn.never rfl (iEn T.enumerate (aCn (eVar 0) aNl)) (gTupl rfl (gCn (gNam sc_spans_of.nd (i := 3)) (gCn (gNam sc_spans_of.nd (i := 4)) gNl)) (n := 2)) (bCons (sIff (tDin hu (eVar 4) (kVar 1)) (bOne (sEx (eAppend (i := 2) (aCn (eTup (aCn (eDg hu (eVar 4) (i := 1)) (aCn (eVar 3) aNl))) aNl)))) bNil) (bOne (sDp hu (eVar 4) (eVar 3) (i := 1))))) (bOne (sRt (eVar 2)))))

abbrev s_bare_spans : Stmt := top 61
theorem sc_bare_spans : FnScope ["spans", "begin", "end", "k", "j"] ["spans", "begin", "end"] (defScope s_bare_spans) := ⟨rfl, rfl, rfl, by decide +kernel, rfl, by decide +kernel, by decide +kernel⟩
def f_bare_spans : List PyData → Bx → Option (PyData × Bx) := fnOf 5 3 (sRet (f1 (fLst (fLc (fItems (fVar 0)) (tgTup 2 (tgCons (tgName 3) (tgCons (tgName 4) tgNil))) (tAndM (tbl (fBin (fVar 1) (fVar 3) gLe)) (tbl (fBin (fVar 4) (fVar 2) gLe))) (pur (.int 1)) [3, 4])) gLen))
theorem ok_bare_spans {f : Addr} {fd : FuncData} (F : Fun K "bare_spans" "bare_spans" s_bare_spans f fd) (T : Txt K mg) : FnOk P w K mg base CX0 1 f fd ["spans", "begin", "end"] (spOf K f_bare_spans) :=
  fn_ok F sc_bare_spans fun cdv A outer s H E bx hr =>
    have hu65 := hu65 hr
    have hu := hu_of hr
    (bOne (sRt (eLen T.len (eLst (eLc rfl sc_bare_spans.nd (iAny (eVar 0)) (own := [("k", 3), ("j", 4)]) (blkOk_by (N := ["spans", "begin", "end", "k", "j"]) (sc := defScope s_bare_spans) (by decide +kernel)) (fun _ _ _ _ _ => (gTupl rfl (gCn (gNam sc_bare_spans.nd (i := 3)) (gCn (gNam sc_bare_spans.nd (i := 4)) gNl)) (n := 2))) (fun _ _ _ _ _ => (tsOne (tW (tAnd2 (tCm cLe (eVar 1) (eVar 3)) (tAnd1 (tCm cLe (eVar 4) (eVar 2))))))) (fun _ _ _ _ _ => eInt))))))

abbrev s_most_hits : Stmt := top 62
theorem sc_most_hits : FnScope ["frames", "course", "places", "ends", "spans", "a", "b"] ["frames", "course", "places"] (defScope s_most_hits) := ⟨rfl, rfl, rfl, by decide +kernel, rfl, by decide +kernel, by decide +kernel⟩
def f_most_hits : List PyData → Bx → Option (PyData × Bx) := fnOf 7 3 (sSeq (sSet 3 (vMut (fFr2 (fLst (fFr2 (fLst (fDsp (aCons (pur (.int 0)) aNil))) (fLst (fFr (fVar 2) gLstOf)) gCat)) (fLst (fDsp (aCons (f1 (fPk 1) gLen) aNil))) gCat))) (sSeq (sSet 4 (vImm (fCall f_spans_of (aCons (fVar 1) aNil)))) (sRet (fBin (fBin (fBin (fVar 0) (pur (.int 1)) gSub) (f1 (fPk 2) gLen) gMul) (f1 (fLst (fLc (fRng zipD (aCons (fVar 3) (aCons (fLst (fSlL (fVar 3) (oSm (pur (.int 1))) (pur none))) aNil))) (tgTup 2 (tgCons (tgName 5) (tgCons (tgName 6) tgNil))) (pur true) (fCall f_bare_spans (aCons (fVar 4) (aCons (fVar 5) (aCons (fVar 6) aNil)))) [5, 6])) gSum) gAdd))))
theorem ok_most_hits {f : Addr} {fd : FuncData} (F : Fun K "most_hits" "most_hits" s_most_hits f fd) (T : Txt K mg) (c_spans_of : Cal P w K mg base 1 "spans_of" f_spans_of) (c_bare_spans : Cal P w K mg base 1 "bare_spans" f_bare_spans) : FnOk P w K mg base CX0 2 f fd ["frames", "course", "places"] (spOf K f_most_hits) :=
  fn_ok F sc_most_hits fun cdv A outer s H E bx hr =>
    have hu65 := hu65 hr
    have hu := hu_of hr
    (bCons (sAsg sc_most_hits.nd (xMut (fCat (eLst (fCat (eLst (fDspE (aCn eInt aNl))) (eLst (fLstOf T.list (eVar 2))))) (eLst (fDspE (aCn (eLenK T.len (kVar 1)) aNl))))) (i := 3)) (bCons (sAsg sc_most_hits.nd (xImm (eCall c_spans_of hr (by decide) (aCn (eVar 1) aNl))) (i := 4)) (bOne (sRt (eAdd (eMul (eSub (eVar 0) eInt) (eLenK T.len (kVar 2))) (eSum rfl T.sum (eLst (eLc rfl sc_most_hits.nd (iZp T.zip (aCn (eVar 3) (aCn (eLst (eSlL (eVar 3) (oSo eInt) oNo)) aNl))) (own := [("a", 5), ("b", 6)]) (blkOk_by (N := ["frames", "course", "places", "ends", "spans", "a", "b"]) (sc := defScope s_most_hits) (by decide +kernel)) (fun _ _ _ _ _ => (gTupl rfl (gCn (gNam sc_most_hits.nd (i := 5)) (gCn (gNam sc_most_hits.nd (i := 6)) gNl)) (n := 2))) (fun _ _ _ _ _ => tsNo) (fun _ _ _ _ _ => (eCall c_bare_spans hr (by decide) (aCn (eVar 4) (aCn (eVar 5) (aCn (eVar 6) aNl)))))))))))))

abbrev s_is_course_paper : Stmt := top 63
theorem sc_is_course_paper : FnScope ["frames", "course", "reads", "value", "k"] ["frames", "course", "reads", "value"] (defScope s_is_course_paper) := ⟨rfl, rfl, rfl, by decide +kernel, rfl, by decide +kernel, by decide +kernel⟩
def f_is_course_paper : List PyData → Bx → Option (PyData × Bx) := fnOf 5 4 (sSeq (sIf (tOrM (tNotM (tst (f1 (fVar 3) (gIsi "tuple")))) (tNotM (tst (f1 (fLst (fLc (fItems (fVar 3)) (tgName 4) (pur true) (fCall f_is_number (aCons (fVar 4) (aCons (pur (.int 0)) (aCons (fBin (f1 (fPk 1) gLen) (pur (.int 1)) gSub) aNil)))) [4])) gAll)))) (sRet (pur (.bool false))) sNext) (sRet (fAnd (fCall f_is_ascending (aCons (fVar 3) aNil)) (fBin (fBin (f1 (fPk 1) gLen) (fCall f_most_hits (aCons (fVar 0) (aCons (fVar 1) (aCons (fVar 3) aNil)))) gSub) (fVar 2) gGe))))
theorem ok_is_course_paper {f : Addr} {fd : FuncData} (F : Fun K "is_course_paper" "is_course_paper" s_is_course_paper f fd) (T : Txt K mg) (c_is_number : Cal P w K mg base 1 "is_number" f_is_number) (c_is_ascending : Cal P w K mg base 1 "is_ascending" f_is_ascending) (c_most_hits : Cal P w K mg base 2 "most_hits" f_most_hits) : FnOk P w K mg base CX0 3 f fd ["frames", "course", "reads", "value"] (spOf K f_is_course_paper) :=
  fn_ok F sc_is_course_paper fun cdv A outer s H E bx hr =>
    have hu65 := hu65 hr
    have hu := hu_of hr
    (bCons (sIff (tW (tOr2 (tNt (tTru (eIsi (TN := "tuple") T.isinstance T.ty_tuple (by decide +kernel) (eVar 3)))) (tOr1 (tNt (tTru (eAll rfl T.all (eLst (eLc rfl sc_is_course_paper.nd (iAny (eVar 3)) (own := [("k", 4)]) (blkOk_by (N := ["frames", "course", "reads", "value", "k"]) (sc := defScope s_is_course_paper) (by decide +kernel)) (fun _ _ _ _ _ => (gNam sc_is_course_paper.nd (i := 4))) (fun _ _ _ _ _ => tsNo) (fun _ _ _ _ _ => (eCall c_is_number hr (by decide) (aCn (eVar 4) (aCn eInt (aCn (eSub (eLenK T.len (kVar 1)) eInt) aNl))))))))))))) (bOne (sRt eBool)) bNil) (bOne (sRt (eAnd (eCall c_is_ascending hr (by decide) (aCn (eVar 3) aNl)) (eOne (eCm cGe (eSub (eLenK T.len (kVar 1)) (eCall c_most_hits hr (by decide) (aCn (eVar 0) (aCn (eVar 1) (aCn (eVar 3) aNl))))) (eVar 2)))))))

abbrev s_is_judged : Stmt := top 65
theorem sc_is_judged : FnScope ["parts"] ["parts"] (defScope s_is_judged) := ⟨rfl, rfl, rfl, by decide +kernel, rfl, by decide +kernel, by decide +kernel⟩
def f_is_judged : List PyData → Bx → Option (PyData × Bx) := fnOf 1 1 (sRet (fAnd (fBin (f1 (fPk 0) gLen) (pur (.int 1)) gEq) (fCall f_is_history (aCons (fIxK 0 (pur (.int 0))) aNil))))
theorem ok_is_judged {f : Addr} {fd : FuncData} (F : Fun K "is_judged" "is_judged" s_is_judged f fd) (T : Txt K mg) (c_is_history : Cal P w K mg base 6 "is_history" f_is_history) : FnOk P w K mg base CX0 7 f fd ["parts"] (spOf K f_is_judged) :=
  fn_ok F sc_is_judged fun cdv A outer s H E bx hr =>
    have hu65 := hu65 hr
    have hu := hu_of hr
    (bOne (sRt (eAnd (eCm (cEq hu65) (eLenK T.len (kVar 0)) eInt) (eOne (eCall c_is_history hr (by decide) (aCn (eIxK (i := 0) eInt) aNl))))))

abbrev s_is_framed : Stmt := top 66
theorem sc_is_framed : FnScope ["parts"] ["parts"] (defScope s_is_framed) := ⟨rfl, rfl, rfl, by decide +kernel, rfl, by decide +kernel, by decide +kernel⟩
def f_is_framed : List PyData → Bx → Option (PyData × Bx) := fnOf 1 1 (sRet (fAnd (fBin (f1 (fPk 0) gLen) (pur (.int 2)) gEq) (fAnd (fCall f_is_number (aCons (fIxK 0 (pur (.int 0))) (aCons (pur (.int 1)) (aCons (pur d_MOST_FRAMES) aNil)))) (fCall f_is_course (aCons (fIxK 0 (pur (.int 1))) aNil)))))
theorem ok_is_framed {f : Addr} {fd : FuncData} (F : Fun K "is_framed" "is_framed" s_is_framed f fd) (T : Txt K mg) (g_MOST_FRAMES : GC K mg "MOST_FRAMES" d_MOST_FRAMES) (c_is_number : Cal P w K mg base 1 "is_number" f_is_number) (c_is_course : Cal P w K mg base 2 "is_course" f_is_course) : FnOk P w K mg base CX0 3 f fd ["parts"] (spOf K f_is_framed) :=
  fn_ok F sc_is_framed fun cdv A outer s H E bx hr =>
    have hu65 := hu65 hr
    have hu := hu_of hr
    (bOne (sRt (eAnd (eCm (cEq hu65) (eLenK T.len (kVar 0)) eInt) (eAnd (eCall c_is_number hr (by decide) (aCn (eIxK (i := 0) eInt) (aCn eInt (aCn (eGl g_MOST_FRAMES) aNl)))) (eOne (eCall c_is_course hr (by decide) (aCn (eIxK (i := 0) eInt) aNl)))))))

abbrev s_is_told_reads : Stmt := top 67
theorem sc_is_told_reads : FnScope ["parts"] ["parts"] (defScope s_is_told_reads) := ⟨rfl, rfl, rfl, by decide +kernel, rfl, by decide +kernel, by decide +kernel⟩
def f_is_told_reads : List PyData → Bx → Option (PyData × Bx) := fnOf 1 1 (sRet (fAnd (fBin (f1 (fPk 0) gLen) (pur (.int 3)) gEq) (fAnd (fCall f_is_framed (aCons (fSl (fVar 0) (pur none) (oSm (pur (.int 2)))) aNil)) (fCall f_is_number (aCons (fIxK 0 (pur (.int 2))) (aCons (pur (.int 0)) (aCons (f1 (fIxK 0 (pur (.int 1))) gLen) aNil)))))))
theorem ok_is_told_reads {f : Addr} {fd : FuncData} (F : Fun K "is_told_reads" "is_told_reads" s_is_told_reads f fd) (T : Txt K mg) (c_is_framed : Cal P w K mg base 3 "is_framed" f_is_framed) (c_is_number : Cal P w K mg base 1 "is_number" f_is_number) : FnOk P w K mg base CX0 4 f fd ["parts"] (spOf K f_is_told_reads) :=
  fn_ok F sc_is_told_reads fun cdv A outer s H E bx hr =>
    have hu65 := hu65 hr
    have hu := hu_of hr
    (bOne (sRt (eAnd (eCm (cEq hu65) (eLenK T.len (kVar 0)) eInt) (eAnd (eCall c_is_framed hr (by decide) (aCn (eSl (eVar 0) oNo (oSo eInt)) aNl)) (eOne (eCall c_is_number hr (by decide) (aCn (eIxK (i := 0) eInt) (aCn eInt (aCn (eLen T.len (eIxK (i := 0) eInt)) aNl)))))))))

abbrev s_has_word : Stmt := top 70
theorem sc_has_word : FnScope ["value"] ["value"] (defScope s_has_word) := ⟨rfl, rfl, rfl, by decide +kernel, rfl, by decide +kernel, by decide +kernel⟩
def f_has_word : List PyData → Bx → Option (PyData × Bx) := fnOf 1 1 (sRet (fAnd (f1 (fVar 0) (gIsi "tuple")) (fAnd (fBin (fVar 0) (fTup aNil) gNe) (f1 (fIxK 0 (pur (.int 0))) (gIsi "str")))))
theorem ok_has_word {f : Addr} {fd : FuncData} (F : Fun K "has_word" "has_word" s_has_word f fd) (T : Txt K mg) : FnOk P w K mg base CX0 1 f fd ["value"] (spOf K f_has_word) :=
  fn_ok F sc_has_word fun cdv A outer s H E bx hr =>
    have hu65 := hu65 hr
    have hu := hu_of hr
    (bOne (sRt (eAnd (eIsi (TN := "tuple") T.isinstance T.ty_tuple (by decide +kernel) (eVar 0)) (eAnd (eCm (cNe hu65) (eVar 0) (eTup aNl)) (eOne (eIsi (TN := "str") T.isinstance T.ty_str (by decide +kernel) (eIxK (i := 0) eInt)))))))

abbrev s_reads_with : Stmt := top 74
theorem sc_reads_with : FnScope ["frames", "course", "goes", "held", "left", "reads", "page"] ["frames", "course", "goes"] (defScope s_reads_with) := ⟨rfl, rfl, rfl, by decide +kernel, rfl, by decide +kernel, by decide +kernel⟩
def f_reads_with : List PyData → Bx → Option (PyData × Bx) := fnOf 7 3 (sSeq (sPar [3, 4, 5] (vCons (vMut (fDsp aNil)) (vCons (vMut (fFr (fVar 2) gLstOf)) (vCons (vImm (pur (.int 0))) vNil)))) (sSeq (sFor (fItems (fVar 1)) (tgName 6) (sSeq (sIf (tbl (fBin (fVar 6) (fPk 3) gIn)) (sOut .ct) sNext) (sSeq (sAug 5 (pur (.int 1)) (gAug true)) (sSeq (sIf (tbl (fBin (f1 (fPk 3) gLen) (fVar 0) gEq)) (sSeq (sIf (tOrM (tNotM (tst (fPk 4))) (tbl (fBin (fIxK 4 (pur (.int 0))) (fPk 3) gNotIn))) (sRet (pur .none)) sNext) (sDrop (fMt 3 gRem (aCons (fMt 4 gPopAt (aCons (pur (.int 0)) aNil)) aNil)))) sNext) (sDrop (fMt 3 gApp (aCons (fVar 6) aNil))))))) (sRet (fIf (tst (fPk 4)) (pur .none) (fVar 5)))))
theorem ok_reads_with {f : Addr} {fd : FuncData} (F : Fun K "reads_with" "reads_with" s_reads_with f fd) (T : Txt K mg) : FnOk P w K mg base CX0 1 f fd ["frames", "course", "goes"] (spOf K f_reads_with) :=
  fn_ok F sc_reads_with fun cdv A outer s H E bx hr =>
    have hu65 := hu65 hr
    have hu := hu_of hr
    (bCons (sAsg3 rfl sc_reads_with.nd (xsCons (xMut (fDspE aNl)) (xsCons (xMut (fLstOf T.list (eVar 2))) (xsCons (xImm eInt) xsNil))) (i := 3) (j := 4) (l := 5)) (bCons (sForr PassesOwn.never rfl (iAny (eVar 1)) (gNam sc_reads_with.nd (i := 6)) (bCons (sIff (tInK (cIn hu65) sc_in (eVar 6) (kVar 3)) (bOne sCnt) bNil) (bCons (sAdd1 sc_reads_with.nd eInt (i := 5)) (bCons (sIff (tCm (cEq hu65) (eLenK T.len (kVar 3)) (eVar 0)) (bCons (sIff (tW (tOr2 (tNt (tTruK (kVar 4))) (tOr1 (tInK (cNotIn hu65) sc_notin (eIxK (i := 4) eInt) (kVar 3))))) (bOne (sRt eNone)) bNil) (bOne (sEx (eRemove (i := 3) (aCn (ePopAt (i := 4) (aCn eInt aNl)) aNl))))) bNil) (bOne (sEx (eAppend (i := 3) (aCn (eVar 6) aNl)))))))) (bOne (sRt (eIf (tTruK (kVar 4)) eNone (eVar 5))))))

abbrev s_are_pages_out : Stmt := top 75
theorem sc_are_pages_out : FnScope ["value", "n"] ["value"] (defScope s_are_pages_out) := ⟨rfl, rfl, rfl, by decide +kernel, rfl, by decide +kernel, by decide +kernel⟩
def f_are_pages_out : List PyData → Bx → Option (PyData × Bx) := fnOf 2 1 (sRet (fAnd (f1 (fVar 0) (gIsi "tuple")) (f1 (fLst (fLc (fItems (fVar 0)) (tgName 1) (pur true) (fAnd (f1 (fVar 1) (gIsi "int")) (fNot (f1 (fVar 1) (gIsi "bool")))) [1])) gAll)))
theorem ok_are_pages_out {f : Addr} {fd : FuncData} (F : Fun K "are_pages_out" "are_pages_out" s_are_pages_out f fd) (T : Txt K mg) : FnOk P w K mg base CX0 1 f fd ["value"] (spOf K f_are_pages_out) :=
  fn_ok F sc_are_pages_out fun cdv A outer s H E bx hr =>
    have hu65 := hu65 hr
    have hu := hu_of hr
    (bOne (sRt (eAnd (eIsi (TN := "tuple") T.isinstance T.ty_tuple (by decide +kernel) (eVar 0)) (eOne (eAll rfl T.all (eLst (eLc rfl sc_are_pages_out.nd (iAny (eVar 0)) (own := [("n", 1)]) (blkOk_by (N := ["value", "n"]) (sc := defScope s_are_pages_out) (by decide +kernel)) (fun _ _ _ _ _ => (gNam sc_are_pages_out.nd (i := 1))) (fun _ _ _ _ _ => tsNo) (fun _ _ _ _ _ => (eAnd (eIsi (TN := "int") T.isinstance T.ty_int (by decide +kernel) (eVar 1)) (eOne (eNot (eIsi (TN := "bool") T.isinstance T.ty_bool (by decide +kernel) (eVar 1)))))))))))))

abbrev s_proves_reads : Stmt := top 76
theorem sc_proves_reads : FnScope ["frames", "course", "reads", "paper", "found"] ["frames", "course", "reads", "paper"] (defScope s_proves_reads) := ⟨rfl, rfl, rfl, by decide +kernel, rfl, by decide +kernel, by decide +kernel⟩
def f_proves_reads : List PyData → Bx → Option (PyData × Bx) := fnOf 5 4 (sSeq (sIf (tNotM (tst (fCall f_are_pages_out (aCons (fVar 3) aNil)))) (sRet (pur (.bool false))) sNext) (sSeq (sSet 4 (vImm (fCall f_reads_with (aCons (fVar 0) (aCons (fVar 1) (aCons (fVar 3) aNil)))))) (sRet (fAnd (fBin (fVar 4) (pur .none) gIsNot) (fBin (fVar 4) (fVar 2) gLe)))))
theorem ok_proves_reads {f : Addr} {fd : FuncData} (F : Fun K "proves_reads" "proves_reads" s_proves_reads f fd) (T : Txt K mg) (c_are_pages_out : Cal P w K mg base 1 "are_pages_out" f_are_pages_out) (c_reads_with : Cal P w K mg base 1 "reads_with" f_reads_with) : FnOk P w K mg base CX0 2 f fd ["frames", "course", "reads", "paper"] (spOf K f_proves_reads) :=
  fn_ok F sc_proves_reads fun cdv A outer s H E bx hr =>
    have hu65 := hu65 hr
    have hu := hu_of hr
    (bCons (sIff (tNt (tTru (eCall c_are_pages_out hr (by decide) (aCn (eVar 3) aNl)))) (bOne (sRt eBool)) bNil) (bCons (sAsg sc_proves_reads.nd (xImm (eCall c_reads_with hr (by decide) (aCn (eVar 0) (aCn (eVar 1) (aCn (eVar 3) aNl))))) (i := 4)) (bOne (sRt (eAnd (eCm cIsNot (eVar 4) eNone) (eOne (eCm cLe (eVar 4) (eVar 2))))))))

end
end K70
end
section
set_option Elab.async false
set_option linter.all false
set_option maxRecDepth 100000
namespace K70
open PySem PySem.Spec L2 Ev
set_option autoImplicit false
section
variable {P : Program} {w : World} {K : PySem.W.Frag} {mg : Str → Option Value} {base : Heap}

/-! ### the law's box, by hand -/
abbrev s_box : Stmt := top 79
abbrev s_load : Stmt := top 80
abbrev s_draw : Stmt := top 81
def spBoxMk (K : PySem.W.Frag) : Sp := fun vs H Q _ => ∃ (a : Addr) (ns : List Int), vs = [.ref a] ∧ SqL K H a (ns.map V.int) ∧ ns.length ≤ 63 ∧ ∀ (B C : Addr) (H' : Hp), H B = none → H C = none → B ≠ C → H' B = some (.lst [.ref C, .int 0, .int (4711 + ns.length)]) → H' C = some (.lst (ns.map V.int)) → (∀ b o, H b = some o → H' b = some o) → Q (.ref B) H'
def spLoad : Sp := fun vs H Q _ => ∃ (B C : Addr) (t : BoxSt), vs = [.ref B] ∧ H B = some (.lst [.ref C, .int t.b1, .int t.b2]) ∧ H C = some (.lst (t.cells.map V.int)) ∧ B ≠ C ∧
  ∀ H' : Hp, H' B = some (.lst [.ref C, .int t.b1, .int (loadA t.cells t.b2).2.2]) → H' C = some (.lst ((loadA t.cells t.b2).2.1.map V.int)) → (∀ b, b ≠ B → b ≠ C → H' b = H b) → Q (.int (loadA t.cells t.b2).1) H'
theorem sc_load : FnScope ["box", "cells", "cell", "size", "first", "second"] ["box"] (defScope s_load) := ⟨rfl, rfl, rfl, by decide +kernel, rfl, by decide +kernel, by decide +kernel⟩
theorem ok_load {f : Addr} {fd : FuncData} (F : Fun K "_law_load" "_law_load" s_load f fd) (T : Txt K mg) : FnOk P w K mg base CX0 1 f fd ["box"] spLoad := by
  refine F.ok sc_load (fun vs H Q E h => ?_) (fun cdv A outer s H vs Q E hr h => ?_)
  · obtain ⟨B, C, t, rfl, _⟩ := h; rfl
  · obtain ⟨B, C, t, rfl, hB, hC, hBC, k⟩ := h
    refine ⟨_, pss_cons (ps_set (i := 1) sc_load.nd rfl (Or.inl rfl) (pe_ix ix_seq (pv 0) pe_int fun _ _ => rfl))
      (pss_cons (ps_if (pt_cmpR op_gt (pe_callB call_len (by rfl) T.len PySem.boot_len (pa_cons (pv 1) pa_nil)) pe_int (nomark _))
        (pss_cons (ps_set (i := 2) sc_load.nd rfl (Or.inl rfl) (pe_callTy call_int1 (by rfl) T.ty_int (by decide +kernel) (pa_cons (pe_bm PySem.F.plainAttrs_list PySem.F.slot_list_pop PySem.F.type_list_pop mt_popAt (pv 1) (pa_cons pe_int pa_nil)) pa_nil)))
        (pss_cons (ps_set (i := 3) sc_load.nd rfl (Or.inl rfl) (pe_ifExp (pt_cmpR op_ge (pv 2) pe_int (nomark _)) (pe_op op_mul pe_int (pv 2)) (pe_op op_sub (pe_op op_mul (pe_un un_neg pe_int) (pv 2)) pe_int)))
        (pss_cons (ps_if (pt_cmpR op_ge (pv 3) pe_int (nomark _)) (pss_one (ps_ret (pv 3))) pss_nil)
        (pss_one (ps_asg (pe_op op_mod (pe_callTy call_int1 (by rfl) T.ty_int (by decide +kernel) (pa_cons (pe_op op_add (pe_op op_add (pe_op op_mul (pe_ix ix_seq (pv 0) pe_int fun _ _ => rfl) pe_int) (pe_op op_mul (pv 3) pe_int)) pe_int) pa_nil)) pe_int) (pg_sub (pv 0) pe_int set_list))))))
        pss_nil)
      (pss_cons (ps_set (i := 4) sc_load.nd rfl (Or.inl rfl) (pe_op op_mod (pe_callTy call_int1 (by rfl) T.ty_int (by decide +kernel) (pa_cons (pe_op op_add (pe_op op_mul (pe_ix ix_seq (pv 0) pe_int fun _ _ => rfl) pe_int) pe_int) pa_nil)) pe_int))
      (pss_cons (ps_set (i := 5) sc_load.nd rfl (Or.inl rfl) (pe_op op_mod (pe_callTy call_int1 (by rfl) T.ty_int (by decide +kernel) (pa_cons (pe_op op_add (pe_op op_mul (pv 4) pe_int) pe_int) pa_nil)) pe_int))
      (pss_cons (ps_asg (pe_op op_mod (pe_callTy call_int1 (by rfl) T.ty_int (by decide +kernel) (pa_cons (pe_op op_add (pe_op op_mul (pv 5) pe_int) pe_int) pa_nil)) pe_int) (pg_sub (pv 0) pe_int set_list))
      (pss_one (ps_ret (pe_op op_add (pe_op op_add (pe_op op_mul (pv 4) pe_int) (pe_op op_mul (pv 5) pe_int)) (pe_ix ix_seq (pv 0) pe_int fun _ _ => rfl)))))))), ?_⟩
    refine ⟨_, rfl, .inl ⟨B, _, 0, .ref C, rfl, rfl, SqL.of hB, rfl, ?_⟩⟩
    refine ⟨_, rfl, _, _, rfl, .inl ⟨_, SqL.of hC, rfl⟩, _, _, rfl, rfl, _, rfl, ?_⟩
    cases ec : t.cells with
    | nil =>
      rw [ec] at hC k
      refine iteF ?_
      have hB1 := hB
      have hC1 := hC
      have oth : ∀ b, b ≠ B → b ≠ C → H b = H b := fun _ _ _ => rfl
      have k1 := k
      refine ⟨_, rfl, .inl ⟨B, _, 2, _, rfl, rfl, SqL.of hB1, rfl, _, _, rfl, rfl, .inr (by decide), _, _, rfl, rfl, .inl ⟨_, rfl, _, _, rfl, rfl, (by show (0 : Int) < _; decide), ?_⟩⟩⟩
      refine ⟨_, rfl, _, _, rfl, rfl, .inr (by decide), _, _, rfl, rfl, .inl ⟨_, rfl, _, _, rfl, rfl, (by show (0 : Int) < _; decide), ?_⟩⟩
      refine ⟨_, rfl, _, _, rfl, rfl, .inr (by decide), _, _, rfl, rfl, .inl ⟨_, rfl, _, _, rfl, rfl, (by show (0 : Int) < _; decide), ?_⟩⟩
      refine ⟨_, rfl, B, _, 2, 2, rfl, rfl, hB1, rfl, ?_⟩
      refine ⟨_, rfl, _, _, rfl, rfl, .inr (by decide), _, rfl, _, _, rfl, rfl, .inr (by decide), _, _, rfl, rfl, _, rfl, .inl ⟨B, _, 2, _, rfl, rfl, SqL.of upd_same, rfl, _, _, rfl, rfl, ?_⟩⟩
      exact k1 _ upd_same (by first | (rw [upd_ne hBC.symm]; exact hC1) | rw [upd_ne hBC.symm]) fun b n1 n2 => by first | (rw [upd_ne n1]; exact oth b n1 n2) | rw [upd_ne n1]
    | cons cell r =>
      rw [ec] at hC k
      have hpos : decide ((0 : Int) < (((cell :: r).map V.int).length : Nat)) = true := decide_eq_true (by simp)
      rw [hpos]
      refine iteT ?_
      have hsq : seqIndex? 0 (((cell :: r).map V.int).length) = some 0 := by simp [seqIndex?]
      refine ⟨_, rfl, .inl ⟨rfl, _, SqL.of hC⟩, C, _, 0, 0, .int cell, rfl, rfl, hC, by decide, by decide, hsq, rfl, .inl ⟨cell, rfl, ?_⟩⟩
      have hB0 : (upd H C (.lst (((cell :: r).map V.int).eraseIdx 0))) B = some (.lst [.ref C, .int t.b1, .int t.b2]) := by rw [upd_ne hBC]; exact hB
      have size : ∀ Q' : VK, Q' (.int (sizeA cell)) (upd H C (.lst (((cell :: r).map V.int).eraseIdx 0))) → tIf (tTest (tOp (rI0 fun i j => .bl (decide (j ≤ i))) (tVar 2) (tC (.int 0)))) (tOp (rI CMul fun i j => .int (i * j)) (tC (.int 2)) (tVar 2)) (tOp (rI0 fun i j => .int (i - j)) (tOp (rI CMul fun i j => .int (i * j)) (tUn (rU fun i => .int (-i)) (tC (.int 2))) (tVar 2)) (tC (.int 1))) [some (.ref B), some (.ref C), some (.int cell), none, none, none] (upd H C (.lst (((cell :: r).map V.int).eraseIdx 0))) Q' := by
        intro Q' q
        refine ⟨_, rfl, _, _, rfl, rfl, _, rfl, ?_⟩
        by_cases hc : 0 ≤ cell
        · rw [decide_eq_true hc]
          refine iteT ⟨_, rfl, _, _, rfl, rfl, .inl (by decide), ?_⟩
          rw [sizeA, if_pos hc] at q
          exact q
        · rw [decide_eq_false hc]
          refine iteF ⟨_, rfl, _, rfl, _, _, rfl, rfl, .inl (by decide), _, _, rfl, rfl, ?_⟩
          rw [sizeA, if_neg hc] at q
          exact q
      refine size _ ?_
      refine ⟨_, rfl, _, _, rfl, rfl, _, rfl, ?_⟩
      by_cases hc : 1000000000000000000 ≤ sizeA cell
      · rw [decide_eq_true hc]
        refine iteT ⟨_, rfl, ?_⟩
        have e : loadA (cell :: r) t.b2 = (sizeA cell, r, t.b2) := by show (if _ then _ else _) = _; rw [if_pos hc]
        rw [e] at k
        exact k _ hB0 upd_same fun b n1 n2 => upd_ne n2
      · rw [decide_eq_false hc]
        refine iteF ?_
        have e : loadA (cell :: r) t.b2 = tailA ((t.b2 * 69621 + sizeA cell * 48271 + 11) % 2147483647) r := by show (if _ then _ else _) = _; rw [if_neg hc]
        rw [e] at k
        refine ⟨_, rfl, .inl ⟨B, _, 2, _, rfl, rfl, SqL.of hB0, rfl, _, _, rfl, rfl, .inr (by decide), _, rfl, _, _, rfl, rfl, .inr (by decide), _, _, rfl, rfl, _, _, rfl, rfl, .inl ⟨_, rfl, _, _, rfl, rfl, (by show (0 : Int) < _; decide), ?_⟩⟩⟩
        refine ⟨_, rfl, B, _, 2, 2, rfl, rfl, hB0, rfl, ?_⟩
        have hB1 : (upd (upd H C (.lst (((cell :: r).map V.int).eraseIdx 0))) B (.lst [.ref C, .int t.b1, .int ((t.b2 * 69621 + sizeA cell * 48271 + 11) % 2147483647)])) B = _ := upd_same
        have hC1 : (upd (upd H C (.lst (((cell :: r).map V.int).eraseIdx 0))) B (.lst [.ref C, .int t.b1, .int ((t.b2 * 69621 + sizeA cell * 48271 + 11) % 2147483647)])) C = some (.lst (r.map V.int)) := by rw [upd_ne hBC.symm]; exact upd_same
        have oth : ∀ b, b ≠ B → b ≠ C → (upd (upd H C (.lst (((cell :: r).map V.int).eraseIdx 0))) B (.lst [.ref C, .int t.b1, .int ((t.b2 * 69621 + sizeA cell * 48271 + 11) % 2147483647)])) b = H b := fun b n1 n2 => by rw [upd_ne n1, upd_ne n2]
        have k1 := k
        refine ⟨_, rfl, .inl ⟨B, _, 2, _, rfl, rfl, SqL.of hB1, rfl, _, _, rfl, rfl, .inr (by decide), _, _, rfl, rfl, .inl ⟨_, rfl, _, _, rfl, rfl, (by show (0 : Int) < _; decide), ?_⟩⟩⟩
        refine ⟨_, rfl, _, _, rfl, rfl, .inr (by decide), _, _, rfl, rfl, .inl ⟨_, rfl, _, _, rfl, rfl, (by show (0 : Int) < _; decide), ?_⟩⟩
        refine ⟨_, rfl, _, _, rfl, rfl, .inr (by decide), _, _, rfl, rfl, .inl ⟨_, rfl, _, _, rfl, rfl, (by show (0 : Int) < _; decide), ?_⟩⟩
        refine ⟨_, rfl, B, _, 2, 2, rfl, rfl, hB1, rfl, ?_⟩
        refine ⟨_, rfl, _, _, rfl, rfl, .inr (by decide), _, rfl, _, _, rfl, rfl, .inr (by decide), _, _, rfl, rfl, _, rfl, .inl ⟨B, _, 2, _, rfl, rfl, SqL.of upd_same, rfl, _, _, rfl, rfl, ?_⟩⟩
        exact k1 _ upd_same (by first | (rw [upd_ne hBC.symm]; exact hC1) | rw [upd_ne hBC.symm]) fun b n1 n2 => by first | (rw [upd_ne n1]; exact oth b n1 n2) | rw [upd_ne n1]
theorem kvs_keysOk {K : PySem.W.Frag} {G : Hp} : ∀ {kvs : List (Key × V)} {es : List (PyData × PyData)}, RpKvs K G kvs es → (es.all fun e => (Ev.keyOf e.1).isSome) = true
  | _, _, .nil => rfl
  | _, _, @RpKvs.cons _ _ k v kvs d es r t => by
    rw [List.all_cons, kvs_keysOk t, Bool.and_true]
    cases k <;> rfl
theorem sc_draw : FnScope ["box", "many", "digit"] ["box", "many"] (defScope s_draw) := ⟨rfl, rfl, rfl, by decide +kernel, rfl, by decide +kernel, by decide +kernel⟩
/-- a digit is drawn -/
def f_draw : List PyData → Bx → Option (PyData × Bx) := fun ds s => match ds, s.fut with
  | [.dict [(.none, .none)], .int m], (m', d) :: r => if m' = m ∧ 0 < m ∧ m < 1000000 then some (.int d, ⟨r⟩) else none
  | _, _ => none
theorem ok_draw {f : Addr} {fd : FuncData} (F : Fun K "_law_draw" "_law_draw" s_draw f fd) (T : Txt K mg) {fL : Addr} {fdL : FuncData} (GL : FnOk P w K mg base CX0 1 fL fdL ["box"] spLoad) (mL : mg "_law_load" = some (.ref fL)) (kL : PySem.W.keepIn K (.ref fL) = true) (bL : Binds K fdL ["box"] []) :
    FnOk P w K mg base CX0 2 f fd ["box", "many"] (spOf K f_draw) := by
  refine F.ok sc_draw (fun vs H Q E h => ?_) (fun cdv A outer s H vs Q E hr h => ?_)
  · obtain ⟨bx, G, b, ds, d, b', I, r, e, _⟩ := h
    unfold f_draw at e
    split at e
    · rw [r.length]; rfl
    · cases e
  · obtain ⟨bx, G, b, ds, dres, b', I, r, e, k⟩ := h
    refine ⟨_, pss_cons (ps_if (pt_cmpR op_lt (pe_ix ix_seq (pv 0) pe_int fun _ _ => rfl) (pv 1) (nomark _))
        (pss_one (ps_asg (pe_call GL hr rfl mL kL bL .nil pass0 (pa_cons (pv 0) pa_nil)) (pg_sub (pv 0) pe_int set_list))) pss_nil)
      (pss_cons (ps_set (i := 2) sc_draw.nd rfl (Or.inl rfl) (pe_op op_mod (pe_callTy call_int1 (by rfl) T.ty_int (by decide +kernel) (pa_cons (pe_ix ix_seq (pv 0) pe_int fun _ _ => rfl) pa_nil)) (pv 1)))
      (pss_cons (ps_asg (pe_op op_fdiv (pe_ix ix_seq (pv 0) pe_int fun _ _ => rfl) (pv 1)) (pg_sub (pv 0) pe_int set_list))
      (pss_one (ps_ret (pv 2))))), ?_⟩
    unfold f_draw at e
    split at e
    · rename_i m m' d rr eb
      split at e
      · rename_i hc
        obtain ⟨hmm, hm0, hm1⟩ := hc
        subst hmm
        cases e
        cases r with
        | cons r1 t1 =>
          cases t1 with
          | cons r2 t2 =>
            cases t2
            cases rpInt r2
            rcases r1 with r1 | ⟨_, B, C, hbx, rfl⟩
            · cases r1 with
              | dct _ hk => exact absurd (kvs_keysOk hk) (by simp [Ev.keyOf])
            · obtain ⟨t, hf, hB, hC, hBC⟩ := I.box B C hbx
              rw [eb] at hf
              obtain ⟨hd, hf2⟩ := hf
              -- from the heap H1 with the first number v, the cells cs, the second number b2
              have go : ∀ (H1 : Hp) (v : Int) (cs : List Int) (b2 : Int), H1 B = some (.lst [.ref C, .int v, .int b2]) → H1 C = some (.lst (cs.map V.int)) → (∀ b, b ≠ B → b ≠ C → H1 b = H b) → v % m' = d → Fut ⟨cs, v / m', b2⟩ rr →
                  Q (.int d) (upd H1 B (.lst [.ref C, .int (v / m'), .int b2])) := by
                intro H1 v cs b2 h1 h2 oth ev ef
                have nB : G B = none := I.bfree B ⟨B, C, hbx, .inl rfl⟩
                have nC : G C = none := I.bfree C ⟨B, C, hbx, .inr rfl⟩
                refine k (.int d) G _ ⟨fun a u hu => ?_, fun B' C' e' => ?_, I.bfree, rfl, fun i d e => by simp at e, fun i l e => by simp at e, fun i l e => by simp at e, fun i j a h => by obtain ⟨⟨l, e⟩ | ⟨es, e⟩, _⟩ := h <;> simp at e⟩ ⟨Same.refl _, fun b o hb n => ?_, fun b o hb => ?_⟩ (.inl (.int _))
                · have n1 := ne_of_none hu nB
                  have n2 := ne_of_none hu nC
                  rw [upd_ne n1, oth a n1 n2]
                  exact I.sub a u hu
                · rw [hbx] at e'
                  cases e'
                  exact ⟨⟨cs, v / m', b2⟩, ef, upd_same, by rw [upd_ne hBC.symm]; exact h2, hBC⟩
                · have n1 : b ≠ B := fun z => n (.inl ⟨B, C, hbx, .inl z⟩)
                  have n2 : b ≠ C := fun z => n (.inl ⟨B, C, hbx, .inr z⟩)
                  exact ⟨by rw [upd_ne n1, oth b n1 n2]; exact hb, id, n⟩
                · by_cases n1 : b = B
                  · exact ⟨_, by rw [n1]; exact upd_same⟩
                  · by_cases n2 : b = C
                    · exact ⟨_, by rw [upd_ne n1, n2]; exact h2⟩
                    · exact ⟨o, by rw [upd_ne n1, oth b n1 n2]; exact hb⟩
              have tail : ∀ (H1 : Hp) (v : Int) (cs : List Int) (b2 : Int), H1 B = some (.lst [.ref C, .int v, .int b2]) → Q (.int (v % m')) (upd H1 B (.lst [.ref C, .int (v / m'), .int b2])) → True := fun _ _ _ _ _ _ => trivial
              refine ⟨_, rfl, .inl ⟨B, _, 1, _, rfl, rfl, SqL.of hB, rfl, _, rfl, _, _, rfl, rfl, _, rfl, ?_⟩⟩
              have hdr := hd
              unfold drawA at hdr hf2
              by_cases hlt : t.b1 < m'
              · rw [if_pos hlt] at hdr hf2
                rw [decide_eq_true hlt]
                refine iteT ⟨_, rfl, B, C, t, rfl, hB, hC, hBC, fun H2 h2B h2C oth => ?_⟩
                refine ⟨_, rfl, B, _, 1, 1, rfl, rfl, h2B, rfl, ?_⟩
                refine ⟨_, rfl, .inl ⟨B, _, 1, _, rfl, rfl, SqL.of upd_same, rfl, .inl ⟨_, rfl, _, rfl, _, _, rfl, rfl, hm0, ?_⟩⟩⟩
                refine ⟨_, rfl, .inl ⟨B, _, 1, _, rfl, rfl, SqL.of upd_same, rfl, _, rfl, _, _, rfl, rfl, ⟨hm0, by show m' < 1073741824; omega⟩, ?_⟩⟩
                refine ⟨_, rfl, B, _, 1, 1, rfl, rfl, upd_same, rfl, ?_⟩
                have e1 : (loadA t.cells t.b2).1 % m' = d := hdr
                refine ⟨_, rfl, ?_⟩
                have q := go (upd H2 B (HO.lst [.ref C, .int (loadA t.cells t.b2).1, .int (loadA t.cells t.b2).2.2])) (loadA t.cells t.b2).1 (loadA t.cells t.b2).2.1 (loadA t.cells t.b2).2.2 upd_same (by rw [upd_ne hBC.symm]; exact h2C) (fun b n1 n2 => by rw [upd_ne n1, oth b n1 n2]) e1 hf2
                rw [← e1] at q
                exact q
              · rw [if_neg hlt] at hdr hf2
                rw [decide_eq_false hlt]
                refine iteF ?_
                refine ⟨_, rfl, .inl ⟨B, _, 1, _, rfl, rfl, SqL.of hB, rfl, .inl ⟨_, rfl, _, rfl, _, _, rfl, rfl, hm0, ?_⟩⟩⟩
                refine ⟨_, rfl, .inl ⟨B, _, 1, _, rfl, rfl, SqL.of hB, rfl, _, rfl, _, _, rfl, rfl, ⟨hm0, by show m' < 1073741824; omega⟩, ?_⟩⟩
                refine ⟨_, rfl, B, _, 1, 1, rfl, rfl, hB, rfl, ?_⟩
                have e1 : t.b1 % m' = d := hdr
                refine ⟨_, rfl, ?_⟩
                have q := go H t.b1 _ _ hB hC (fun b _ _ => rfl) e1 hf2
                rw [← e1] at q
                exact q
      · cases e
    · cases e
theorem sc_box : FnScope ["script"] ["script"] (defScope s_box) := ⟨rfl, rfl, rfl, by decide +kernel, rfl, by decide +kernel, by decide +kernel⟩
theorem ok_box {f : Addr} {fd : FuncData} (F : Fun K "_law_box" "_law_box" s_box f fd) (T : Txt K mg) : FnOk P w K mg base CX0 1 f fd ["script"] (spBoxMk K) := by
  refine F.ok sc_box (fun vs H Q E h => ?_) (fun cdv A outer s H vs Q E hr h => ?_)
  · obtain ⟨a, ns, rfl, _⟩ := h; rfl
  · obtain ⟨a, ns, rfl, hs, hl, k⟩ := h
    refine ⟨_, pss_one (ps_ret (pe_lst (pa_cons (pe_callTy call_list_of (by rfl) T.list (by decide +kernel) (pa_cons (pe_slice sl_list (pv 0) po_none (po_some pe_int)) pa_nil)) (pa_cons pe_int (pa_cons (pe_op op_add pe_int (pe_callB call_len (by rfl) T.len PySem.boot_len (pa_cons (pv 0) pa_nil))) pa_nil))))), ?_⟩
    have hcut : cutV (ns.map V.int) none (some 63) = ns.map V.int := by
      show ((ns.map V.int).drop 0).take ((if (63 : Int) < 0 then ((63 : Int) + (((ns.map V.int).length : Nat) : Int)).toNat else min (63 : Int).toNat (ns.map V.int).length) - 0) = ns.map V.int
      rw [List.drop_zero]
      refine List.take_of_length_le ?_
      rw [if_neg (by decide), List.length_map]
      show ns.length ≤ min 63 ns.length - 0
      omega
    refine ⟨.ref a, rfl, ⟨_, rfl, a, _, rfl, hs, fun p hp => ?_⟩⟩
    rw [hcut]
    have s1 : Same H (upd H p (.lst (ns.map V.int))) := fun b o e => by rw [upd_ne (ne_of_none e hp)]; exact e
    refine ⟨p, _, rfl, .inl (SqL.of upd_same), fun C hC => ?_⟩
    have nCp : C ≠ p := fun z => by rw [z, upd_same] at hC; cases hC
    have hC0 : H C = none := by rw [upd_ne nCp] at hC; exact hC
    have s2 : Same H (upd (upd H p (.lst (ns.map V.int))) C (.lst (ns.map V.int))) := fun b o e => by rw [upd_ne (ne_of_none e hC0)]; exact s1 b o e
    refine ⟨_, rfl, _, _, rfl, .inl ⟨_, s2.seq hs, rfl⟩, _, _, rfl, rfl, by show 3 ≤ sizeLine; decide, fun B hB => ?_⟩
    have nBC : B ≠ C := fun z => by rw [z, upd_same] at hB; cases hB
    have hB1 : upd H p (.lst (ns.map V.int)) B = none := by rw [upd_ne nBC] at hB; exact hB
    have nBp : B ≠ p := fun z => by rw [z, upd_same] at hB1; cases hB1
    have hB0 : H B = none := by rw [upd_ne nBp] at hB1; exact hB1
    refine k B C _ hB0 hC0 nBC ?_ (by rw [upd_ne nBC.symm]; exact upd_same) (fun b o e => by rw [upd_ne (ne_of_none e hB0)]; exact s2 b o e)
    rw [upd_same]
    simp
/-! ### the tables -/
def S_FORMS : List (Str × FF) := [("explained", f_is_judged), ("unexplained", f_is_judged), ("never fewer", f_is_told_reads), ("can be read", f_is_told_reads)]
def no_FORMS : List Str := ["explainedz", "unexplainedz", "never fewerz", "can be readz"]
def S_ASKED : List (Str × FF) := [("explain", f_is_judged), ("fewest", f_is_framed), ("read", f_is_framed)]
def no_ASKED : List Str := ["explainz", "fewestz", "readz"]
abbrev s_is_claim : Stmt := top 71
theorem sc_is_claim : FnScope ["value"] ["value"] (defScope s_is_claim) := ⟨rfl, rfl, rfl, by decide +kernel, rfl, by decide +kernel, by decide +kernel⟩
def f_is_claim : List PyData → Bx → Option (PyData × Bx) := fnOf 1 1 (sRet (fAnd (fCall f_has_word (aCons (fVar 0) aNil)) (fAnd (f1 (fIxK 0 (pur (.int 0))) (gTab S_FORMS no_FORMS)) (fCallT S_FORMS (fIxK 0 (pur (.int 0))) (aCons (fSl (fVar 0) (oSm (pur (.int 1))) (pur none)) aNil)))))
theorem ok_is_claim {f : Addr} {fd : FuncData} (F : Fun K "is_claim" "is_claim" s_is_claim f fd) (T : Txt K mg) (t_FORMS : TabK P w K mg base 7 "FORMS" S_FORMS no_FORMS) (c_has_word : Cal P w K mg base 1 "has_word" f_has_word) : FnOk P w K mg base CX0 8 f fd ["value"] (spOf K f_is_claim) :=
  fn_ok F sc_is_claim fun cdv A outer s H E bx hr =>
    have hu65 := hu65 hr
    have hu := hu_of hr
    (bOne (sRt (eAnd (eCall c_has_word hr (by decide) (aCn (eVar 0) aNl)) (eAnd (eInT t_FORMS (eIxK (i := 0) eInt)) (eOne (eCallT t_FORMS hr (by decide) (eIxK (i := 0) eInt) (aCn (eSl (eVar 0) (oSo eInt) oNo) aNl)))))))

abbrev s_is_question : Stmt := top 72
theorem sc_is_question : FnScope ["value"] ["value"] (defScope s_is_question) := ⟨rfl, rfl, rfl, by decide +kernel, rfl, by decide +kernel, by decide +kernel⟩
def f_is_question : List PyData → Bx → Option (PyData × Bx) := fnOf 1 1 (sRet (fAnd (fCall f_has_word (aCons (fVar 0) aNil)) (fAnd (f1 (fIxK 0 (pur (.int 0))) (gTab S_ASKED no_ASKED)) (fCallT S_ASKED (fIxK 0 (pur (.int 0))) (aCons (fSl (fVar 0) (oSm (pur (.int 1))) (pur none)) aNil)))))
theorem ok_is_question {f : Addr} {fd : FuncData} (F : Fun K "is_question" "is_question" s_is_question f fd) (T : Txt K mg) (t_ASKED : TabK P w K mg base 7 "ASKED" S_ASKED no_ASKED) (c_has_word : Cal P w K mg base 1 "has_word" f_has_word) : FnOk P w K mg base CX0 8 f fd ["value"] (spOf K f_is_question) :=
  fn_ok F sc_is_question fun cdv A outer s H E bx hr =>
    have hu65 := hu65 hr
    have hu := hu_of hr
    (bOne (sRt (eAnd (eCall c_has_word hr (by decide) (aCn (eVar 0) aNl)) (eAnd (eInT t_ASKED (eIxK (i := 0) eInt)) (eOne (eCallT t_ASKED hr (by decide) (eIxK (i := 0) eInt) (aCn (eSl (eVar 0) (oSo eInt) oNo) aNl)))))))

abbrev s_proves : Stmt := top 77
theorem sc_proves : FnScope ["claim", "paper", "word", "parts"] ["claim", "paper"] (defScope s_proves) := ⟨rfl, rfl, rfl, by decide +kernel, rfl, by decide +kernel, by decide +kernel⟩
def f_proves : List PyData → Bx → Option (PyData × Bx) := fnOf 4 2 (sSeq (sIf (tNotM (tst (fCall f_is_claim (aCons (fVar 0) aNil)))) (sRet (pur (.bool false))) sNext) (sSeq (sPar [2, 3] (vCons (vImm (fIxK 0 (pur (.int 0)))) (vCons (vImm (fSl (fVar 0) (oSm (pur (.int 1))) (pur none))) vNil))) (sSeq (sIf (tbl (fBin (fVar 2) (pur (.str "explained")) gEq)) (sRet (fCall f_is_explaining (aCons (fIxK 3 (pur (.int 0))) (aCons (fVar 1) aNil)))) sNext) (sSeq (sIf (tbl (fBin (fVar 2) (pur (.str "unexplained")) gEq)) (sRet (fCall f_is_history_paper (aCons (fIxK 3 (pur (.int 0))) (aCons (fVar 1) aNil)))) sNext) (sSeq (sIf (tbl (fBin (fVar 2) (pur (.str "never fewer")) gEq)) (sRet (fCall f_is_course_paper (aCons (fIxK 3 (pur (.int 0))) (aCons (fIxK 3 (pur (.int 1))) (aCons (fIxK 3 (pur (.int 2))) (aCons (fVar 1) aNil)))))) sNext) (sRet (fCall f_proves_reads (aCons (fIxK 3 (pur (.int 0))) (aCons (fIxK 3 (pur (.int 1))) (aCons (fIxK 3 (pur (.int 2))) (aCons (fVar 1) aNil)))))))))))
theorem ok_proves {f : Addr} {fd : FuncData} (F : Fun K "proves" "proves" s_proves f fd) (T : Txt K mg) (c_is_claim : Cal P w K mg base 8 "is_claim" f_is_claim) (c_is_explaining : Cal P w K mg base 13 "is_explaining" f_is_explaining) (c_is_history_paper : Cal P w K mg base 14 "is_history_paper" f_is_history_paper) (c_is_course_paper : Cal P w K mg base 3 "is_course_paper" f_is_course_paper) (c_proves_reads : Cal P w K mg base 2 "proves_reads" f_proves_reads) : FnOk P w K mg base CX0 15 f fd ["claim", "paper"] (spOf K f_proves) :=
  fn_ok F sc_proves fun cdv A outer s H E bx hr =>
    have hu65 := hu65 hr
    have hu := hu_of hr
    (bCons (sIff (tNt (tTru (eCall c_is_claim hr (by decide) (aCn (eVar 0) aNl)))) (bOne (sRt eBool)) bNil) (bCons (sAsg2 rfl sc_proves.nd (xsCons (xImm (eIxK (i := 0) eInt)) (xsCons (xImm (eSl (eVar 0) (oSo eInt) oNo)) xsNil)) (i := 2) (j := 3)) (bCons (sIff (tCm (cEq hu65) (eVar 2) eStr) (bOne (sRt (eCall c_is_explaining hr (by decide) (aCn (eIxK (i := 3) eInt) (aCn (eVar 1) aNl))))) bNil) (bCons (sIff (tCm (cEq hu65) (eVar 2) eStr) (bOne (sRt (eCall c_is_history_paper hr (by decide) (aCn (eIxK (i := 3) eInt) (aCn (eVar 1) aNl))))) bNil) (bCons (sIff (tCm (cEq hu65) (eVar 2) eStr) (bOne (sRt (eCall c_is_course_paper hr (by decide) (aCn (eIxK (i := 3) eInt) (aCn (eIxK (i := 3) eInt) (aCn (eIxK (i := 3) eInt) (aCn (eVar 1) aNl))))))) bNil) (bOne (sRt (eCall c_proves_reads hr (by decide) (aCn (eIxK (i := 3) eInt) (aCn (eIxK (i := 3) eInt) (aCn (eIxK (i := 3) eInt) (aCn (eVar 1) aNl))))))))))))

abbrev s__law_same : Stmt := top 82
theorem sc__law_same : FnScope ["a", "b", "k"] ["a", "b"] (defScope s__law_same) := ⟨rfl, rfl, rfl, by decide +kernel, rfl, by decide +kernel, by decide +kernel⟩
def f__law_same : Nat → List PyData → Bx → Option (PyData × Bx)
  | 0 => fun _ _ => none
  | fuel + 1 => fnOf 3 2 (sSeq (sIf (tOrM (tAndM (tst (f1 (fVar 0) (gIsi "tuple"))) (tst (f1 (fVar 1) (gIsi "tuple")))) (tAndM (tst (f1 (fVar 0) (gIsi "list"))) (tst (f1 (fVar 1) (gIsi "list"))))) (sRet (fAnd (fBin (f1 (fPk 0) gLen) (f1 (fPk 1) gLen) gEq) (f1 (fLst (fLc (fRng rngArg1 (aCons (f1 (fPk 0) gLen) aNil)) (tgName 2) (pur true) (fCall (f__law_same fuel) (aCons (fIxK 0 (fVar 2)) (aCons (fIxK 1 (fVar 2)) aNil))) [2])) gAll))) sNext) (sSeq (sIf (tOrM (tst (f1 (fVar 0) (gIsi "bool"))) (tst (f1 (fVar 1) (gIsi "bool")))) (sRet (fAnd (f1 (fVar 0) (gIsi "bool")) (fAnd (f1 (fVar 1) (gIsi "bool")) (fBin (fVar 0) (fVar 1) gEq)))) sNext) (sSeq (sIf (tOrM (tAndM (tst (f1 (fVar 0) (gIsi "int"))) (tst (f1 (fVar 1) (gIsi "int")))) (tAndM (tst (f1 (fVar 0) (gIsi "str"))) (tst (f1 (fVar 1) (gIsi "str"))))) (sRet (fBin (fVar 0) (fVar 1) gEq)) sNext) (sRet (fAnd (fBin (fVar 0) (pur .none) gIs) (fBin (fVar 1) (pur .none) gIs))))))
theorem ok__law_same {f : Addr} {fd : FuncData} (F : Fun K "_law_same" "_law_same" s__law_same f fd) (T : Txt K mg) (hm : mg "_law_same" = some (.ref f)) (hb : Binds K fd ["a", "b"] []) : ∀ fuel : Nat, FnOk P w K mg base CX0 (fuel + 0) f fd ["a", "b"] (spOf K (f__law_same fuel))
  | 0 => fn_no
  | fuel + 1 => fn_ok F sc__law_same fun cdv A outer s H E bx hr =>
    have hu65 := hu65 hr
    have hu := hu_of hr
    have c__law_same := cal_of (ok__law_same F T hm hb fuel) hm F.kp hb
    (bCons (sIff (tW (tOr2 (tW (tAnd2 (tTru (eIsi (TN := "tuple") T.isinstance T.ty_tuple (by decide +kernel) (eVar 0))) (tAnd1 (tTru (eIsi (TN := "tuple") T.isinstance T.ty_tuple (by decide +kernel) (eVar 1)))))) (tOr1 (tW (tAnd2 (tTru (eIsi (TN := "list") T.isinstance T.ty_list (by decide +kernel) (eVar 0))) (tAnd1 (tTru (eIsi (TN := "list") T.isinstance T.ty_list (by decide +kernel) (eVar 1))))))))) (bOne (sRt (eAnd (eCm (cEq hu65) (eLenK T.len (kVar 0)) (eLenK T.len (kVar 1))) (eOne (eAll rfl T.all (eLst (eLc rfl sc__law_same.nd (iRng1e T.range (aCn (eLenK T.len (kVar 0)) aNl)) (own := [("k", 2)]) (blkOk_by (N := ["a", "b", "k"]) (sc := defScope s__law_same) (by decide +kernel)) (fun _ _ _ _ _ => (gNam sc__law_same.nd (i := 2))) (fun _ _ _ _ _ => tsNo) (fun _ _ _ _ _ => (eCall c__law_same hr (Nat.le_refl _) (aCn (eIxK (i := 0) (eVar 2)) (aCn (eIxK (i := 1) (eVar 2)) aNl))))))))))) bNil) (bCons (sIff (tW (tOr2 (tTru (eIsi (TN := "bool") T.isinstance T.ty_bool (by decide +kernel) (eVar 0))) (tOr1 (tTru (eIsi (TN := "bool") T.isinstance T.ty_bool (by decide +kernel) (eVar 1)))))) (bOne (sRt (eAnd (eIsi (TN := "bool") T.isinstance T.ty_bool (by decide +kernel) (eVar 0)) (eAnd (eIsi (TN := "bool") T.isinstance T.ty_bool (by decide +kernel) (eVar 1)) (eOne (eCm (cEq hu65) (eVar 0) (eVar 1))))))) bNil) (bCons (sIff (tW (tOr2 (tW (tAnd2 (tTru (eIsi (TN := "int") T.isinstance T.ty_int (by decide +kernel) (eVar 0))) (tAnd1 (tTru (eIsi (TN := "int") T.isinstance T.ty_int (by decide +kernel) (eVar 1)))))) (tOr1 (tW (tAnd2 (tTru (eIsi (TN := "str") T.isinstance T.ty_str (by decide +kernel) (eVar 0))) (tAnd1 (tTru (eIsi (TN := "str") T.isinstance T.ty_str (by decide +kernel) (eVar 1))))))))) (bOne (sRt (eCm (cEq hu65) (eVar 0) (eVar 1)))) bNil) (bOne (sRt (eAnd (eCm cIs (eVar 0) eNone) (eOne (eCm cIs (eVar 1) eNone))))))))

abbrev s__law_history : Stmt := top 83
theorem sc__law_history : FnScope ["put", "read", "early"] [] (defScope s__law_history) := ⟨rfl, rfl, rfl, by decide +kernel, rfl, by decide +kernel, by decide +kernel⟩
def f__law_history : List PyData → Bx → Option (PyData × Bx) := fnOf 3 0 (sSeq (sSet 0 (vImm (fTup (aCons (pur (.int 1)) (aCons (pur (.int 4)) (aCons (pur (.str "done")) (aCons (pur (.str "serial")) (aCons (fTup (aCons (fTup (aCons (pur (.str "put")) (aCons (pur (.str "a")) (aCons (pur (.str "x")) aNil)))) aNil)) (aCons (fTup (aCons (pur (.bool true)) aNil)) aNil))))))))) (sSeq (sSet 1 (vImm (fTup (aCons (pur (.int 5)) (aCons (pur (.int 8)) (aCons (pur (.str "done")) (aCons (pur (.str "serial")) (aCons (fTup (aCons (fTup (aCons (pur (.str "get")) (aCons (pur (.str "a")) aNil))) aNil)) (aCons (fTup (aCons (pur (.str "x")) aNil)) aNil))))))))) (sSeq (sSet 2 (vImm (fTup (aCons (pur (.int 0)) (aCons (pur (.int 9)) (aCons (pur (.str "done")) (aCons (pur (.str "serial")) (aCons (fTup (aCons (fTup (aCons (pur (.str "get")) (aCons (pur (.str "a")) aNil))) aNil)) (aCons (fTup (aCons (pur .none) aNil)) aNil))))))))) (sRet (fTup (aCons (fVar 0) (aCons (fVar 1) (aCons (fVar 2) aNil))))))))
theorem ok__law_history {f : Addr} {fd : FuncData} (F : Fun K "_law_history" "_law_history" s__law_history f fd) (T : Txt K mg) : FnOk P w K mg base CX0 1 f fd [] (spOf K f__law_history) :=
  fn_ok F sc__law_history fun cdv A outer s H E bx hr =>
    have hu65 := hu65 hr
    have hu := hu_of hr
    (bCons (sAsg sc__law_history.nd (xImm (eTup (aCn eInt (aCn eInt (aCn eStr (aCn eStr (aCn (eTup (aCn (eTup (aCn eStr (aCn eStr (aCn eStr aNl)))) aNl)) (aCn (eTup (aCn eBool aNl)) aNl)))))))) (i := 0)) (bCons (sAsg sc__law_history.nd (xImm (eTup (aCn eInt (aCn eInt (aCn eStr (aCn eStr (aCn (eTup (aCn (eTup (aCn eStr (aCn eStr aNl))) aNl)) (aCn (eTup (aCn eStr aNl)) aNl)))))))) (i := 1)) (bCons (sAsg sc__law_history.nd (xImm (eTup (aCn eInt (aCn eInt (aCn eStr (aCn eStr (aCn (eTup (aCn (eTup (aCn eStr (aCn eStr aNl))) aNl)) (aCn (eTup (aCn eNone aNl)) aNl)))))))) (i := 2)) (bOne (sRt (eTup (aCn (eVar 0) (aCn (eVar 1) (aCn (eVar 2) aNl)))))))))

abbrev s__law_odd : Stmt := top 84
theorem sc__law_odd : FnScope [] [] (defScope s__law_odd) := ⟨rfl, rfl, rfl, by decide +kernel, rfl, by decide +kernel, by decide +kernel⟩
def f__law_odd : List PyData → Bx → Option (PyData × Bx) := fnOf 0 0 (sRet (fTup (aCons (fTup (aCons (pur (.int 0)) (aCons (pur (.int 5)) (aCons (pur (.str "done")) (aCons (pur (.str "serial")) (aCons (fTup (aCons (fTup (aCons (pur (.str "put")) (aCons (pur (.str "a")) (aCons (pur (.str "x")) aNil)))) (aCons (fTup (aCons (pur (.str "get")) (aCons (pur (.str "b")) aNil))) aNil))) (aCons (fTup (aCons (pur (.bool true)) (aCons (pur (.str "y")) aNil))) aNil))))))) (aCons (fTup (aCons (pur (.int 1)) (aCons (pur (.int 6)) (aCons (pur (.str "done")) (aCons (pur (.str "serial")) (aCons (fTup (aCons (fTup (aCons (pur (.str "get")) (aCons (pur (.str "a")) aNil))) (aCons (fTup (aCons (pur (.str "put")) (aCons (pur (.str "b")) (aCons (pur (.str "y")) aNil)))) aNil))) (aCons (fTup (aCons (pur (.str "x")) (aCons (pur (.bool true)) aNil))) aNil))))))) aNil))))
theorem ok__law_odd {f : Addr} {fd : FuncData} (F : Fun K "_law_odd" "_law_odd" s__law_odd f fd) (T : Txt K mg) : FnOk P w K mg base CX0 1 f fd [] (spOf K f__law_odd) :=
  fn_ok F sc__law_odd fun cdv A outer s H E bx hr =>
    have hu65 := hu65 hr
    have hu := hu_of hr
    (bOne (sRt (eTup (aCn (eTup (aCn eInt (aCn eInt (aCn eStr (aCn eStr (aCn (eTup (aCn (eTup (aCn eStr (aCn eStr (aCn eStr aNl)))) (aCn (eTup (aCn eStr (aCn eStr aNl))) aNl))) (aCn (eTup (aCn eBool (aCn eStr aNl))) aNl))))))) (aCn (eTup (aCn eInt (aCn eInt (aCn eStr (aCn eStr (aCn (eTup (aCn (eTup (aCn eStr (aCn eStr aNl))) (aCn (eTup (aCn eStr (aCn eStr (aCn eStr aNl)))) aNl))) (aCn (eTup (aCn eStr (aCn eBool aNl))) aNl))))))) aNl)))))

abbrev s__law_kinds : Stmt := top 85
theorem sc__law_kinds : FnScope ["told"] [] (defScope s__law_kinds) := ⟨rfl, rfl, rfl, by decide +kernel, rfl, by decide +kernel, by decide +kernel⟩
def f__law_kinds : List PyData → Bx → Option (PyData × Bx) := fnOf 1 0 (sSeq (sSet 0 (vImm (fDisp (pCons (pur (.str "explained")) (pur (.str "h")) (pCons (pur (.str "unexplained")) (pur (.str "h")) (pCons (pur (.str "never fewer")) (pur (.str "fcr")) (pCons (pur (.str "can be read")) (pur (.str "fcr")) pNil))))))) (sRet (fTup (aCons (fVar 0) (aCons (fDisp (pCons (pur (.str "explain")) (pur (.str "h")) (pCons (pur (.str "fewest")) (pur (.str "fc")) (pCons (pur (.str "read")) (pur (.str "fc")) pNil)))) aNil)))))
theorem ok__law_kinds {f : Addr} {fd : FuncData} (F : Fun K "_law_kinds" "_law_kinds" s__law_kinds f fd) (T : Txt K mg) : FnOk P w K mg base CX0 1 f fd [] (spOf K f__law_kinds) :=
  fn_ok F sc__law_kinds fun cdv A outer s H E bx hr =>
    have hu65 := hu65 hr
    have hu := hu_of hr
    (bCons (sAsg sc__law_kinds.nd (xImm (eDisp (pCn eStr eStr (pCn eStr eStr (pCn eStr eStr (pCn eStr eStr pNl)))))) (i := 0)) (bOne (sRt (eTup (aCn (eVar 0) (aCn (eDisp (pCn eStr eStr (pCn eStr eStr (pCn eStr eStr pNl)))) aNl))))))

abbrev s__law_good : Stmt := top 86
theorem sc__law_good : FnScope [] [] (defScope s__law_good) := ⟨rfl, rfl, rfl, by decide +kernel, rfl, by decide +kernel, by decide +kernel⟩
def f__law_good : List PyData → Bx → Option (PyData × Bx) := fnOf 0 0 (sRet (fDisp (pCons (pur (.str "h")) (fLst (fDsp (aCons (fCall f__law_history aNil) (aCons (fTup aNil) aNil)))) (pCons (pur (.str "f")) (fLst (fDsp (aCons (pur (.int 1)) (aCons (pur (.int 1000)) aNil)))) (pCons (pur (.str "c")) (fLst (fDsp (aCons (fTup aNil) (aCons (fTup (aCons (pur (.int 1)) (aCons (pur (.int 2)) (aCons (pur (.int 1)) aNil)))) (aCons (fBin (fTup (aCons (pur (.int 7)) aNil)) (pur (.int 120)) gRep) aNil))))) (pCons (pur (.str "r")) (fLst (fDsp (aCons (pur (.int 0)) aNil))) pNil))))))
theorem ok__law_good {f : Addr} {fd : FuncData} (F : Fun K "_law_good" "_law_good" s__law_good f fd) (T : Txt K mg) (c__law_history : Cal P w K mg base 1 "_law_history" f__law_history) : FnOk P w K mg base CX0 2 f fd [] (spOf K f__law_good) :=
  fn_ok F sc__law_good fun cdv A outer s H E bx hr =>
    have hu65 := hu65 hr
    have hu := hu_of hr
    (bOne (sRt (eDisp (pCn eStr (eLst (fDspE (aCn (eCall0 c__law_history hr (by decide)) (aCn (eTup aNl) aNl)))) (pCn eStr (eLst (fDspE (aCn eInt (aCn eInt aNl)))) (pCn eStr (eLst (fDspE (aCn (eTup aNl) (aCn (eTup (aCn eInt (aCn eInt (aCn eInt aNl)))) (aCn (eRep (eTup (aCn eInt aNl)) eInt) aNl))))) (pCn eStr (eLst (fDspE (aCn eInt aNl))) pNl)))))))

abbrev s__law_bad : Stmt := top 87
theorem sc__law_bad : FnScope ["one"] [] (defScope s__law_bad) := ⟨rfl, rfl, rfl, by decide +kernel, rfl, by decide +kernel, by decide +kernel⟩
def f__law_bad : List PyData → Bx → Option (PyData × Bx) := fnOf 1 0 (sSeq (sSet 0 (vImm (fBin (fCall f__law_history aNil) (pur (.int 0)) gIx))) (sRet (fDisp (pCons (pur (.str "h")) (fLst (fDsp (aCons (pur .none) (aCons (fTup (aCons (pur .none) aNil)) (aCons (fTup (aCons (fSl (fVar 0) (pur none) (oSm (pur (.int 5)))) aNil)) (aCons (fTup (aCons (fBin (fTup (aCons (pur (.int 4)) (aCons (pur (.int 1)) aNil))) (fSl (fVar 0) (oSm (pur (.int 2))) (pur none)) gAdd) aNil)) (aCons (fTup (aCons (fVar 0) (aCons (fVar 0) aNil))) aNil))))))) (pCons (pur (.str "f")) (fLst (fDsp (aCons (pur (.int 0)) (aCons (pur (.int 1001)) (aCons (pur (.bool true)) (aCons (pur .none) (aCons (pur (.str "2")) aNil))))))) (pCons (pur (.str "c")) (fLst (fDsp (aCons (pur .none) (aCons (fTup (aCons (pur (.int 0)) aNil)) (aCons (fTup (aCons (pur (.bool true)) aNil)) (aCons (fBin (fTup (aCons (pur (.int 1)) aNil)) (pur (.int 121)) gRep) (aCons (pur (.str "12")) aNil))))))) (pCons (pur (.str "r")) (fLst (fDsp (aCons (fNeg (pur (.int 1))) (aCons (pur (.int 500)) (aCons (pur .none) (aCons (pur (.bool true)) aNil)))))) pNil)))))))
theorem ok__law_bad {f : Addr} {fd : FuncData} (F : Fun K "_law_bad" "_law_bad" s__law_bad f fd) (T : Txt K mg) (c__law_history : Cal P w K mg base 1 "_law_history" f__law_history) : FnOk P w K mg base CX0 2 f fd [] (spOf K f__law_bad) :=
  fn_ok F sc__law_bad fun cdv A outer s H E bx hr =>
    have hu65 := hu65 hr
    have hu := hu_of hr
    (bCons (sAsg sc__law_bad.nd (xImm (eIx (eCall0 c__law_history hr (by decide)) eInt)) (i := 0)) (bOne (sRt (eDisp (pCn eStr (eLst (fDspE (aCn eNone (aCn (eTup (aCn eNone aNl)) (aCn (eTup (aCn (eSl (eVar 0) oNo (oSo eInt)) aNl)) (aCn (eTup (aCn (eAdd (eTup (aCn eInt (aCn eInt aNl))) (eSl (eVar 0) (oSo eInt) oNo)) aNl)) (aCn (eTup (aCn (eVar 0) (aCn (eVar 0) aNl))) aNl))))))) (pCn eStr (eLst (fDspE (aCn eInt (aCn eInt (aCn eBool (aCn eNone (aCn eStr aNl))))))) (pCn eStr (eLst (fDspE (aCn eNone (aCn (eTup (aCn eInt aNl)) (aCn (eTup (aCn eBool aNl)) (aCn (eRep (eTup (aCn eInt aNl)) eInt) (aCn eStr aNl))))))) (pCn eStr (eLst (fDspE (aCn (eNeg eInt) (aCn eInt (aCn eNone (aCn eBool aNl)))))) pNl))))))))

abbrev s__law_rows : Stmt := top 88
theorem sc__law_rows : FnScope ["good", "odd", "course", "rows"] [] (defScope s__law_rows) := ⟨rfl, rfl, rfl, by decide +kernel, rfl, by decide +kernel, by decide +kernel⟩
def f__law_rows : List PyData → Bx → Option (PyData × Bx) := fnOf 4 0 (sSeq (sPar [0, 1, 2] (vCons (vImm (fCall f__law_history aNil)) (vCons (vImm (fCall f__law_odd aNil)) (vCons (vImm (fTup (aCons (pur (.int 1)) (aCons (pur (.int 2)) (aCons (pur (.int 3)) (aCons (pur (.int 1)) (aCons (pur (.int 2)) (aCons (pur (.int 3)) aNil)))))))) vNil)))) (sSeq (sSet 3 (vMut (fDsp (aCons (fTup (aCons (fTup (aCons (pur (.str "explained")) (aCons (fVar 0) aNil))) (aCons (fTup (aCons (pur (.int 2)) (aCons (pur (.int 0)) (aCons (pur (.int 1)) aNil)))) (aCons (pur (.bool true)) aNil)))) (aCons (fTup (aCons (fTup (aCons (pur (.str "explained")) (aCons (fVar 0) aNil))) (aCons (fTup (aCons (pur (.int 0)) (aCons (pur (.int 1)) (aCons (pur (.int 2)) aNil)))) (aCons (pur (.bool false)) aNil)))) (aCons (fTup (aCons (fTup (aCons (pur (.str "explained")) (aCons (fVar 0) aNil))) (aCons (fTup (aCons (pur (.int 2)) (aCons (pur (.int 0)) aNil))) (aCons (pur (.bool false)) aNil)))) (aCons (fTup (aCons (fTup (aCons (pur (.str "explained")) (aCons (fVar 0) aNil))) (aCons (fTup (aCons (pur (.int 0)) (aCons (pur (.int 2)) (aCons (pur (.int 1)) aNil)))) (aCons (pur (.bool false)) aNil)))) (aCons (fTup (aCons (fTup (aCons (pur (.str "explained")) (aCons (fTup aNil) aNil))) (aCons (fTup aNil) (aCons (pur (.bool true)) aNil)))) (aCons (fTup (aCons (fTup (aCons (pur (.str "explained")) (aCons (fVar 0) aNil))) (aCons (fTup (aCons (pur (.int 2)) (aCons (pur (.int 1)) (aCons (pur (.int 0)) aNil)))) (aCons (pur (.bool false)) aNil)))) aNil))))))))) (sSeq (sSet 3 (vMut (fFr2 (fVar 3) (fLst (fDsp (aCons (fTup (aCons (fTup (aCons (pur (.str "unexplained")) (aCons (fVar 1) aNil))) (aCons (fTup (aCons (fTup aNil) aNil)) (aCons (pur (.bool true)) aNil)))) (aCons (fTup (aCons (fTup (aCons (pur (.str "unexplained")) (aCons (fVar 1) aNil))) (aCons (fTup aNil) (aCons (pur (.bool false)) aNil)))) (aCons (fTup (aCons (fTup (aCons (pur (.str "unexplained")) (aCons (fVar 0) aNil))) (aCons (fTup (aCons (fTup aNil) (aCons (fTup (aCons (pur (.int 2)) aNil)) aNil))) (aCons (pur (.bool false)) aNil)))) (aCons (fTup (aCons (fTup (aCons (pur (.str "unexplained")) (aCons (fVar 0) aNil))) (aCons (fTup (aCons (fTup aNil) aNil)) (aCons (pur (.bool false)) aNil)))) (aCons (fTup (aCons (fTup (aCons (pur (.str "explained")) (aCons (fVar 1) aNil))) (aCons (fTup (aCons (pur (.int 0)) (aCons (pur (.int 1)) aNil))) (aCons (pur (.bool false)) aNil)))) (aCons (fTup (aCons (fTup (aCons (pur (.str "explained")) (aCons (fVar 1) aNil))) (aCons (fTup (aCons (pur (.int 1)) (aCons (pur (.int 0)) aNil))) (aCons (pur (.bool false)) aNil)))) aNil)))))))) gCat))) (sSeq (sSet 3 (vMut (fFr2 (fVar 3) (fLst (fDsp (aCons (fTup (aCons (fTup (aCons (pur (.str "can be read")) (aCons (pur (.int 2)) (aCons (fVar 2) (aCons (pur (.int 4)) aNil))))) (aCons (fTup (aCons (pur (.int 2)) (aCons (pur (.int 1)) aNil))) (aCons (pur (.bool true)) aNil)))) (aCons (fTup (aCons (fTup (aCons (pur (.str "can be read")) (aCons (pur (.int 2)) (aCons (fVar 2) (aCons (pur (.int 3)) aNil))))) (aCons (fTup (aCons (pur (.int 2)) (aCons (pur (.int 1)) aNil))) (aCons (pur (.bool false)) aNil)))) (aCons (fTup (aCons (fTup (aCons (pur (.str "can be read")) (aCons (pur (.int 2)) (aCons (fVar 2) (aCons (pur (.int 6)) aNil))))) (aCons (fTup (aCons (pur (.int 1)) (aCons (pur (.int 2)) (aCons (pur (.int 3)) (aCons (pur (.int 1)) aNil))))) (aCons (pur (.bool true)) aNil)))) (aCons (fTup (aCons (fTup (aCons (pur (.str "can be read")) (aCons (pur (.int 2)) (aCons (fVar 2) (aCons (pur (.int 5)) aNil))))) (aCons (fTup (aCons (pur (.int 1)) (aCons (pur (.int 2)) (aCons (pur (.int 3)) (aCons (pur (.int 1)) aNil))))) (aCons (pur (.bool false)) aNil)))) (aCons (fTup (aCons (fTup (aCons (pur (.str "can be read")) (aCons (pur (.int 3)) (aCons (fVar 2) (aCons (pur (.int 3)) aNil))))) (aCons (fTup aNil) (aCons (pur (.bool true)) aNil)))) (aCons (fTup (aCons (fTup (aCons (pur (.str "can be read")) (aCons (pur (.int 3)) (aCons (fVar 2) (aCons (pur (.int 3)) aNil))))) (aCons (fTup (aCons (pur (.int 1)) aNil)) (aCons (pur (.bool false)) aNil)))) (aCons (fTup (aCons (fTup (aCons (pur (.str "can be read")) (aCons (pur (.int 2)) (aCons (fVar 2) (aCons (pur (.int 4)) aNil))))) (aCons (fTup (aCons (pur (.int 2)) aNil)) (aCons (pur (.bool false)) aNil)))) (aCons (fTup (aCons (fTup (aCons (pur (.str "can be read")) (aCons (pur (.int 2)) (aCons (fVar 2) (aCons (pur (.int 4)) aNil))))) (aCons (fTup (aCons (pur (.int 9)) (aCons (pur (.int 1)) aNil))) (aCons (pur (.bool false)) aNil)))) (aCons (fTup (aCons (fTup (aCons (pur (.str "can be read")) (aCons (pur (.int 1)) (aCons (fTup aNil) (aCons (pur (.int 0)) aNil))))) (aCons (fTup aNil) (aCons (pur (.bool true)) aNil)))) aNil))))))))))) gCat))) (sRet (fLst (fFr2 (fVar 3) (fLst (fDsp (aCons (fTup (aCons (fTup (aCons (pur (.str "never fewer")) (aCons (pur (.int 3)) (aCons (fVar 2) (aCons (pur (.int 3)) aNil))))) (aCons (fTup aNil) (aCons (pur (.bool true)) aNil)))) (aCons (fTup (aCons (fTup (aCons (pur (.str "never fewer")) (aCons (pur (.int 3)) (aCons (fVar 2) (aCons (pur (.int 4)) aNil))))) (aCons (fTup aNil) (aCons (pur (.bool false)) aNil)))) (aCons (fTup (aCons (fTup (aCons (pur (.str "never fewer")) (aCons (pur (.int 2)) (aCons (fVar 2) (aCons (pur (.int 0)) aNil))))) (aCons (fTup aNil) (aCons (pur (.bool true)) aNil)))) (aCons (fTup (aCons (fTup (aCons (pur (.str "never fewer")) (aCons (pur (.int 1)) (aCons (fTup (aCons (pur (.int 5)) (aCons (pur (.int 5)) (aCons (pur (.int 5)) aNil)))) (aCons (pur (.int 1)) aNil))))) (aCons (fTup aNil) (aCons (pur (.bool true)) aNil)))) (aCons (fTup (aCons (fTup (aCons (pur (.str "never fewer")) (aCons (pur (.int 1)) (aCons (fTup (aCons (pur (.int 5)) (aCons (pur (.int 5)) (aCons (pur (.int 5)) aNil)))) (aCons (pur (.int 2)) aNil))))) (aCons (fTup aNil) (aCons (pur (.bool false)) aNil)))) (aCons (fTup (aCons (fTup (aCons (pur (.str "never fewer")) (aCons (pur (.int 2)) (aCons (fVar 2) (aCons (pur (.int 6)) aNil))))) (aCons (fTup (aCons (pur (.int 1)) (aCons (pur (.int 2)) (aCons (pur (.int 3)) (aCons (pur (.int 4)) aNil))))) (aCons (pur (.bool false)) aNil)))) aNil)))))))) gCat)))))))
theorem ok__law_rows {f : Addr} {fd : FuncData} (F : Fun K "_law_rows" "_law_rows" s__law_rows f fd) (T : Txt K mg) (c__law_odd : Cal P w K mg base 1 "_law_odd" f__law_odd) (c__law_history : Cal P w K mg base 1 "_law_history" f__law_history) : FnOk P w K mg base CX0 2 f fd [] (spOf K f__law_rows) :=
  fn_ok F sc__law_rows fun cdv A outer s H E bx hr =>
    have hu65 := hu65 hr
    have hu := hu_of hr
    (bCons (sAsg3 rfl sc__law_rows.nd (xsCons (xImm (eCall0 c__law_history hr (by decide))) (xsCons (xImm (eCall0 c__law_odd hr (by decide))) (xsCons (xImm (eTup (aCn eInt (aCn eInt (aCn eInt (aCn eInt (aCn eInt (aCn eInt aNl)))))))) xsNil))) (i := 0) (j := 1) (l := 2)) (bCons (sAsg sc__law_rows.nd (xMut (fDspE (aCn (eTup (aCn (eTup (aCn eStr (aCn (eVar 0) aNl))) (aCn (eTup (aCn eInt (aCn eInt (aCn eInt aNl)))) (aCn eBool aNl)))) (aCn (eTup (aCn (eTup (aCn eStr (aCn (eVar 0) aNl))) (aCn (eTup (aCn eInt (aCn eInt (aCn eInt aNl)))) (aCn eBool aNl)))) (aCn (eTup (aCn (eTup (aCn eStr (aCn (eVar 0) aNl))) (aCn (eTup (aCn eInt (aCn eInt aNl))) (aCn eBool aNl)))) (aCn (eTup (aCn (eTup (aCn eStr (aCn (eVar 0) aNl))) (aCn (eTup (aCn eInt (aCn eInt (aCn eInt aNl)))) (aCn eBool aNl)))) (aCn (eTup (aCn (eTup (aCn eStr (aCn (eTup aNl) aNl))) (aCn (eTup aNl) (aCn eBool aNl)))) (aCn (eTup (aCn (eTup (aCn eStr (aCn (eVar 0) aNl))) (aCn (eTup (aCn eInt (aCn eInt (aCn eInt aNl)))) (aCn eBool aNl)))) aNl)))))))) (i := 3)) (bCons (sAsg sc__law_rows.nd (xMut (fCat (eVar 3) (eLst (fDspE (aCn (eTup (aCn (eTup (aCn eStr (aCn (eVar 1) aNl))) (aCn (eTup (aCn (eTup aNl) aNl)) (aCn eBool aNl)))) (aCn (eTup (aCn (eTup (aCn eStr (aCn (eVar 1) aNl))) (aCn (eTup aNl) (aCn eBool aNl)))) (aCn (eTup (aCn (eTup (aCn eStr (aCn (eVar 0) aNl))) (aCn (eTup (aCn (eTup aNl) (aCn (eTup (aCn eInt aNl)) aNl))) (aCn eBool aNl)))) (aCn (eTup (aCn (eTup (aCn eStr (aCn (eVar 0) aNl))) (aCn (eTup (aCn (eTup aNl) aNl)) (aCn eBool aNl)))) (aCn (eTup (aCn (eTup (aCn eStr (aCn (eVar 1) aNl))) (aCn (eTup (aCn eInt (aCn eInt aNl))) (aCn eBool aNl)))) (aCn (eTup (aCn (eTup (aCn eStr (aCn (eVar 1) aNl))) (aCn (eTup (aCn eInt (aCn eInt aNl))) (aCn eBool aNl)))) aNl)))))))))) (i := 3)) (bCons (sAsg sc__law_rows.nd (xMut (fCat (eVar 3) (eLst (fDspE (aCn (eTup (aCn (eTup (aCn eStr (aCn eInt (aCn (eVar 2) (aCn eInt aNl))))) (aCn (eTup (aCn eInt (aCn eInt aNl))) (aCn eBool aNl)))) (aCn (eTup (aCn (eTup (aCn eStr (aCn eInt (aCn (eVar 2) (aCn eInt aNl))))) (aCn (eTup (aCn eInt (aCn eInt aNl))) (aCn eBool aNl)))) (aCn (eTup (aCn (eTup (aCn eStr (aCn eInt (aCn (eVar 2) (aCn eInt aNl))))) (aCn (eTup (aCn eInt (aCn eInt (aCn eInt (aCn eInt aNl))))) (aCn eBool aNl)))) (aCn (eTup (aCn (eTup (aCn eStr (aCn eInt (aCn (eVar 2) (aCn eInt aNl))))) (aCn (eTup (aCn eInt (aCn eInt (aCn eInt (aCn eInt aNl))))) (aCn eBool aNl)))) (aCn (eTup (aCn (eTup (aCn eStr (aCn eInt (aCn (eVar 2) (aCn eInt aNl))))) (aCn (eTup aNl) (aCn eBool aNl)))) (aCn (eTup (aCn (eTup (aCn eStr (aCn eInt (aCn (eVar 2) (aCn eInt aNl))))) (aCn (eTup (aCn eInt aNl)) (aCn eBool aNl)))) (aCn (eTup (aCn (eTup (aCn eStr (aCn eInt (aCn (eVar 2) (aCn eInt aNl))))) (aCn (eTup (aCn eInt aNl)) (aCn eBool aNl)))) (aCn (eTup (aCn (eTup (aCn eStr (aCn eInt (aCn (eVar 2) (aCn eInt aNl))))) (aCn (eTup (aCn eInt (aCn eInt aNl))) (aCn eBool aNl)))) (aCn (eTup (aCn (eTup (aCn eStr (aCn eInt (aCn (eTup aNl) (aCn eInt aNl))))) (aCn (eTup aNl) (aCn eBool aNl)))) aNl))))))))))))) (i := 3)) (bOne (sRt (eLst (fCat (eVar 3) (eLst (fDspE (aCn (eTup (aCn (eTup (aCn eStr (aCn eInt (aCn (eVar 2) (aCn eInt aNl))))) (aCn (eTup aNl) (aCn eBool aNl)))) (aCn (eTup (aCn (eTup (aCn eStr (aCn eInt (aCn (eVar 2) (aCn eInt aNl))))) (aCn (eTup aNl) (aCn eBool aNl)))) (aCn (eTup (aCn (eTup (aCn eStr (aCn eInt (aCn (eVar 2) (aCn eInt aNl))))) (aCn (eTup aNl) (aCn eBool aNl)))) (aCn (eTup (aCn (eTup (aCn eStr (aCn eInt (aCn (eTup (aCn eInt (aCn eInt (aCn eInt aNl)))) (aCn eInt aNl))))) (aCn (eTup aNl) (aCn eBool aNl)))) (aCn (eTup (aCn (eTup (aCn eStr (aCn eInt (aCn (eTup (aCn eInt (aCn eInt (aCn eInt aNl)))) (aCn eInt aNl))))) (aCn (eTup aNl) (aCn eBool aNl)))) (aCn (eTup (aCn (eTup (aCn eStr (aCn eInt (aCn (eVar 2) (aCn eInt aNl))))) (aCn (eTup (aCn eInt (aCn eInt (aCn eInt (aCn eInt aNl))))) (aCn eBool aNl)))) aNl))))))))))))))))

end
end K70
end
section
set_option Elab.async false
set_option linter.all false
set_option maxRecDepth 100000
namespace K70
open PySem PySem.Spec L2 Ev
set_option autoImplicit false
section
variable {P : Program} {w : World} {K : PySem.W.Frag} {mg : Str → Option Value} {base : Heap}
abbrev s_law : Stmt := top 89
theorem sc_law : FnScope ["script", "box", "told", "asked", "good", "bad", "turn", "kinds", "judge", "word", "sorts", "parts", "sort", "k", "others", "wrong", "value", "paper", "claim", "due", "other"] ["script"] (defScope s_law) := ⟨rfl, rfl, rfl, by decide +kernel, rfl, by decide +kernel, by decide +kernel⟩
def forBody : Stmt → List Stmt
  | .For _ _ b _ _ => b
  | _ => []
abbrev N_law : List Str := ["script", "box", "told", "asked", "good", "bad", "turn", "kinds", "judge", "word", "sorts", "parts", "sort", "k", "others", "wrong", "value", "paper", "claim", "due", "other"]
def S_judge : List (Str × FF) := [("is_claim", f_is_claim), ("is_question", f_is_question)]
def l_s1 : SM := (sTg (fCall f__law_kinds aNil) (tgTup 2 (tgCons (tgName 2) (tgCons (tgName 3) tgNil))))
def l_s2 : SM := (sTg (fTup (aCons (fCall f__law_good aNil) (aCons (fCall f__law_bad aNil) aNil))) (tgTup 2 (tgCons (tgName 4) (tgCons (tgName 5) tgNil))))
def l_last : SM := (sFor (fItems (fCall f__law_rows aNil)) (tgTup 3 (tgCons (tgName 18) (tgCons (tgName 17) (tgCons (tgName 19) tgNil)))) (sSeq (sIf (tNotM (tst (fCall (f__law_same 10) (aCons (fCall f_proves (aCons (fVar 18) (aCons (fVar 17) aNil))) (aCons (fVar 19) aNil))))) (sRet (pur (.bool false))) sNext) (sIf (tst (f1 (fLst (fLc (fItems (fTup (aCons (fNeg (pur (.int 5))) (aCons (pur (.bool true)) (aCons (pur (.str "paper")) (aCons (fTup (aCons (fVar 17) (aCons (fVar 17) (aCons (fVar 17) (aCons (fVar 17) aNil))))) (aCons (fTup (aCons (fTup (aCons (fVar 17) aNil)) (aCons (fVar 17) (aCons (pur .none) aNil)))) aNil))))))) (tgName 20) (pur true) (fBin (fCall f_proves (aCons (fVar 18) (aCons (fVar 20) aNil))) (pur (.bool false)) gIsNot) [20])) gAny)) (sRet (pur (.bool false))) sNext)))
def l_pairs : M (List PyData) := (fItems (fTup (aCons (fTup (aCons (fVar 2) (aCons (pur (fnD "is_claim")) aNil))) (aCons (fTup (aCons (fVar 3) (aCons (pur (fnD "is_question")) aNil))) aNil))))
def l_kj : TgF := (tgTup 2 (tgCons (tgName 7) (tgCons (tgName 8) tgNil)))
def l_turn : SM := (sSeq (sSet 9 (vImm (fBin (fLst (fFr (fPk 7) gSortK)) (fCall f_draw (aCons (fVar 1) (aCons (f1 (fPk 7) gLen) aNil))) gIx))) (sSeq (sSet 10 (vImm (fDg 7 (fVar 9)))) (sSeq (sSet 11 (vImm (f1 (fLst (fLc (fItems (fVar 10)) (tgName 12) (pur true) (fBin (fDg 4 (fVar 12)) (fCall f_draw (aCons (fVar 1) (aCons (f1 (fDg 4 (fVar 12)) gLen) aNil))) gIx) [12])) gTupOf))) (sSeq (sIf (tbl (fBin (fCallS 8 S_judge (aCons (fBin (fTup (aCons (fVar 9) aNil)) (fVar 11) gAdd) aNil)) (pur (.bool true)) gIsNot)) (sRet (pur (.bool false))) sNext) (sSeq (sSet 13 (vImm (fCall f_draw (aCons (fVar 1) (aCons (f1 (fPk 11) gLen) aNil))))) (sSeq (sSet 14 (vImm (fDg 5 (fIxK 10 (fVar 13))))) (sSeq (sSet 15 (vMut (fDsp (aCons (fBin (fBin (fBin (fTup (aCons (fVar 9) aNil)) (fSl (fVar 11) (pur none) (oSm (fVar 13))) gAdd) (fTup (aCons (fIxK 14 (fCall f_draw (aCons (fVar 1) (aCons (f1 (fPk 14) gLen) aNil)))) aNil)) gAdd) (fSl (fVar 11) (oSm (fBin (fVar 13) (pur (.int 1)) gAdd)) (pur none)) gAdd) (aCons (fBin (fBin (fTup (aCons (fVar 9) aNil)) (fVar 11) gAdd) (fTup (aCons (pur .none) aNil)) gAdd) (aCons (fBin (fTup (aCons (fVar 9) aNil)) (fSl (fVar 11) (oSm (pur (.int 1))) (pur none)) gAdd) (aCons (fBin (fTup (aCons (fBin (fVar 9) (pur (.str "z")) gAdd) aNil)) (fVar 11) gAdd) (aCons (fBin (fTup (aCons (pur .none) aNil)) (fVar 11) gAdd) (aCons (pur .none) (aCons (fTup aNil) (aCons (fVar 9) aNil))))))))))) (sFor (fItems (fTup (aCons (fIxK 15 (pur (.int 0))) (aCons (fIxK 15 (fBin (pur (.int 1)) (fCall f_draw (aCons (fVar 1) (aCons (pur (.int 7)) aNil))) gAdd)) aNil)))) (tgName 16) (sSeq (sIf (tbl (fBin (fCallS 8 S_judge (aCons (fVar 16) aNil)) (pur (.bool false)) gIsNot)) (sRet (pur (.bool false))) sNext) (sIf (tAndM (tbl (fBin (f1 (fPk 7) gLen) (pur (.int 4)) gEq)) (tst (f1 (fLst (fLc (fItems (fTup (aCons (fTup aNil) (aCons (pur (.int 0)) (aCons (pur .none) (aCons (fTup (aCons (fTup aNil) (aCons (fTup aNil) aNil))) aNil)))))) (tgName 17) (pur true) (fBin (fCall f_proves (aCons (fVar 16) (aCons (fVar 17) aNil))) (pur (.bool false)) gIsNot) [17])) gAny))) (sRet (pur (.bool false))) sNext))))))))))
theorem es_s1 {f : Addr} (T : Txt K mg) (c__law_kinds : Cal P w K mg base 1 "_law_kinds" f__law_kinds) (c__law_bad : Cal P w K mg base 2 "_law_bad" f__law_bad) (c__law_good : Cal P w K mg base 2 "_law_good" f__law_good) (v_is_question : FV K mg "is_question") (v_is_claim : FV K mg "is_claim") (c__law_draw : Cal P w K mg base 2 "_law_draw" f_draw) (D_judge : Defs P w K mg base 8 S_judge) (c_proves : Cal P w K mg base 15 "proves" f_proves) (c__law_rows : Cal P w K mg base 2 "_law_rows" f__law_rows) (c__law_same : Cal P w K mg base 10 "_law_same" (f__law_same 10)) (cdv : Value) (A : Around) (outer : List Env) (s : Shared) (H : Hp) (E : XK) (bx : Option (Addr × Addr)) (hr : Room 15 (A.deeper (PyProof.Rows.envOfC "law" (defScope s_law) s.heap.objs.size f cdv))) : ES (cxOf CX0 P w K mg base N_law "law" (defScope s_law) f cdv A outer s H E).nox bx ((defBody s_law).getD 1 (.Pass ⟨0, 0, 0, 0⟩)) l_s1 := by
  have hu65 := hu65 hr
  have hu := hu_of hr
  exact (sAsgT (eCall0 c__law_kinds hr (by decide)) (gTupl rfl (gCn (gNam sc_law.nd (i := 2)) (gCn (gNam sc_law.nd (i := 3)) gNl)) (n := 2)))

theorem es_s2 {f : Addr} (T : Txt K mg) (c__law_kinds : Cal P w K mg base 1 "_law_kinds" f__law_kinds) (c__law_bad : Cal P w K mg base 2 "_law_bad" f__law_bad) (c__law_good : Cal P w K mg base 2 "_law_good" f__law_good) (v_is_question : FV K mg "is_question") (v_is_claim : FV K mg "is_claim") (c__law_draw : Cal P w K mg base 2 "_law_draw" f_draw) (D_judge : Defs P w K mg base 8 S_judge) (c_proves : Cal P w K mg base 15 "proves" f_proves) (c__law_rows : Cal P w K mg base 2 "_law_rows" f__law_rows) (c__law_same : Cal P w K mg base 10 "_law_same" (f__law_same 10)) (cdv : Value) (A : Around) (outer : List Env) (s : Shared) (H : Hp) (E : XK) (bx : Option (Addr × Addr)) (hr : Room 15 (A.deeper (PyProof.Rows.envOfC "law" (defScope s_law) s.heap.objs.size f cdv))) : ES (cxOf CX0 P w K mg base N_law "law" (defScope s_law) f cdv A outer s H E).nox bx ((defBody s_law).getD 2 (.Pass ⟨0, 0, 0, 0⟩)) l_s2 := by
  have hu65 := hu65 hr
  have hu := hu_of hr
  exact (sAsgT (eTup (aCn (eCall0 c__law_good hr (by decide)) (aCn (eCall0 c__law_bad hr (by decide)) aNl))) (gTupl rfl (gCn (gNam sc_law.nd (i := 4)) (gCn (gNam sc_law.nd (i := 5)) gNl)) (n := 2)))

theorem es_last {f : Addr} (T : Txt K mg) (c__law_kinds : Cal P w K mg base 1 "_law_kinds" f__law_kinds) (c__law_bad : Cal P w K mg base 2 "_law_bad" f__law_bad) (c__law_good : Cal P w K mg base 2 "_law_good" f__law_good) (v_is_question : FV K mg "is_question") (v_is_claim : FV K mg "is_claim") (c__law_draw : Cal P w K mg base 2 "_law_draw" f_draw) (D_judge : Defs P w K mg base 8 S_judge) (c_proves : Cal P w K mg base 15 "proves" f_proves) (c__law_rows : Cal P w K mg base 2 "_law_rows" f__law_rows) (c__law_same : Cal P w K mg base 10 "_law_same" (f__law_same 10)) (cdv : Value) (A : Around) (outer : List Env) (s : Shared) (H : Hp) (E : XK) (bx : Option (Addr × Addr)) (hr : Room 15 (A.deeper (PyProof.Rows.envOfC "law" (defScope s_law) s.heap.objs.size f cdv))) : ES (cxOf CX0 P w K mg base N_law "law" (defScope s_law) f cdv A outer s H E).nox bx ((defBody s_law).getD 4 (.Pass ⟨0, 0, 0, 0⟩)) l_last := by
  have hu65 := hu65 hr
  have hu := hu_of hr
  exact (sForr PassesOwn.never rfl (iAny (eCall0 c__law_rows hr (by decide))) (gTupl rfl (gCn (gNam sc_law.nd (i := 18)) (gCn (gNam sc_law.nd (i := 17)) (gCn (gNam sc_law.nd (i := 19)) gNl))) (n := 3)) (bCons (sIff (tNt (tTru (eCall c__law_same hr (by decide) (aCn (eCall c_proves hr (by decide) (aCn (eVar 18) (aCn (eVar 17) aNl))) (aCn (eVar 19) aNl))))) (bOne (sRt eBool)) bNil) (bOne (sIff (tTru (eAny rfl T.any (eLst (eLc rfl sc_law.nd (iAny (eTup (aCn (eNeg eInt) (aCn eBool (aCn eStr (aCn (eTup (aCn (eVar 17) (aCn (eVar 17) (aCn (eVar 17) (aCn (eVar 17) aNl))))) (aCn (eTup (aCn (eTup (aCn (eVar 17) aNl)) (aCn (eVar 17) (aCn eNone aNl)))) aNl))))))) (own := [("other", 20)]) (blkOk_by (N := ["script", "box", "told", "asked", "good", "bad", "turn", "kinds", "judge", "word", "sorts", "parts", "sort", "k", "others", "wrong", "value", "paper", "claim", "due", "other"]) (sc := defScope s_law) (by decide +kernel)) (fun _ _ _ _ _ => (gNam sc_law.nd (i := 20))) (fun _ _ _ _ _ => tsNo) (fun _ _ _ _ _ => (eCm cIsNot (eCall c_proves hr (by decide) (aCn (eVar 18) (aCn (eVar 20) aNl))) eBool)))))) (bOne (sRt eBool)) bNil))))

abbrev s_in : Stmt := (forBody ((defBody s_law).getD 3 (.Pass ⟨0, 0, 0, 0⟩))).getD 0 (.Pass ⟨0, 0, 0, 0⟩)
theorem eb_turn {f : Addr} (T : Txt K mg) (c__law_kinds : Cal P w K mg base 1 "_law_kinds" f__law_kinds) (c__law_bad : Cal P w K mg base 2 "_law_bad" f__law_bad) (c__law_good : Cal P w K mg base 2 "_law_good" f__law_good) (v_is_question : FV K mg "is_question") (v_is_claim : FV K mg "is_claim") (c__law_draw : Cal P w K mg base 2 "_law_draw" f_draw) (D_judge : Defs P w K mg base 8 S_judge) (c_proves : Cal P w K mg base 15 "proves" f_proves) (c__law_rows : Cal P w K mg base 2 "_law_rows" f__law_rows) (c__law_same : Cal P w K mg base 10 "_law_same" (f__law_same 10)) (cdv : Value) (A : Around) (outer : List Env) (s : Shared) (H : Hp) (E : XK) (bx : Option (Addr × Addr)) (hr : Room 15 (A.deeper (PyProof.Rows.envOfC "law" (defScope s_law) s.heap.objs.size f cdv))) : EB (cxOf CX0 P w K mg base N_law "law" (defScope s_law) f cdv A outer s H E).nox bx (forBody s_in) l_turn := by
  have hu65 := hu65 hr
  have hu := hu_of hr
  exact (bCons (sAsg sc_law.nd (xImm (eIx (eLst (fSortK rfl T.sorted (kVar 7))) (eCall c__law_draw hr (by decide) (aCn (eVar 1) (aCn (eLenK T.len (kVar 7)) aNl))))) (i := 9)) (bCons (sAsg sc_law.nd (xImm (eDg hu (eVar 9) (i := 7))) (i := 10)) (bCons (sAsg sc_law.nd (xImm (eTupOf T.tuple (eLst (eLc rfl sc_law.nd (iAny (eVar 10)) (own := [("sort", 12)]) (blkOk_by (N := ["script", "box", "told", "asked", "good", "bad", "turn", "kinds", "judge", "word", "sorts", "parts", "sort", "k", "others", "wrong", "value", "paper", "claim", "due", "other"]) (sc := defScope s_law) (by decide +kernel)) (fun _ _ _ _ _ => (gNam sc_law.nd (i := 12))) (fun _ _ _ _ _ => tsNo) (fun _ _ _ _ _ => (eIx (eDg hu (eVar 12) (i := 4)) (eCall c__law_draw hr (by decide) (aCn (eVar 1) (aCn (eLen T.len (eDg hu (eVar 12) (i := 4))) aNl))))))))) (i := 11)) (bCons (sIff (tCm cIsNot (eCallS (i := 8) D_judge hr (by decide) (aCn (eAdd (eTup (aCn (eVar 9) aNl)) (eVar 11)) aNl)) eBool) (bOne (sRt eBool)) bNil) (bCons (sAsg sc_law.nd (xImm (eCall c__law_draw hr (by decide) (aCn (eVar 1) (aCn (eLenK T.len (kVar 11)) aNl)))) (i := 13)) (bCons (sAsg sc_law.nd (xImm (eDg hu (eIxK (i := 10) (eVar 13)) (i := 5))) (i := 14)) (bCons (sAsg sc_law.nd (xMut (fDspE (aCn (eAdd (eAdd (eAdd (eTup (aCn (eVar 9) aNl)) (eSl (eVar 11) oNo (oSo (eVar 13)))) (eTup (aCn (eIxK (i := 14) (eCall c__law_draw hr (by decide) (aCn (eVar 1) (aCn (eLenK T.len (kVar 14)) aNl)))) aNl))) (eSl (eVar 11) (oSo (eAdd (eVar 13) eInt)) oNo)) (aCn (eAdd (eAdd (eTup (aCn (eVar 9) aNl)) (eVar 11)) (eTup (aCn eNone aNl))) (aCn (eAdd (eTup (aCn (eVar 9) aNl)) (eSl (eVar 11) (oSo eInt) oNo)) (aCn (eAdd (eTup (aCn (eAdd (eVar 9) eStr) aNl)) (eVar 11)) (aCn (eAdd (eTup (aCn eNone aNl)) (eVar 11)) (aCn eNone (aCn (eTup aNl) (aCn (eVar 9) aNl)))))))))) (i := 15)) (bOne (sForr PassesOwn.never rfl (iAny (eTup (aCn (eIxK (i := 15) eInt) (aCn (eIxK (i := 15) (eAdd eInt (eCall c__law_draw hr (by decide) (aCn (eVar 1) (aCn eInt aNl))))) aNl)))) (gNam sc_law.nd (i := 16)) (bCons (sIff (tCm cIsNot (eCallS (i := 8) D_judge hr (by decide) (aCn (eVar 16) aNl)) eBool) (bOne (sRt eBool)) bNil) (bOne (sIff (tW (tAnd2 (tCm (cEq hu65) (eLenK T.len (kVar 7)) eInt) (tAnd1 (tTru (eAny rfl T.any (eLst (eLc rfl sc_law.nd (iAny (eTup (aCn (eTup aNl) (aCn eInt (aCn eNone (aCn (eTup (aCn (eTup aNl) (aCn (eTup aNl) aNl))) aNl)))))) (own := [("paper", 17)]) (blkOk_by (N := ["script", "box", "told", "asked", "good", "bad", "turn", "kinds", "judge", "word", "sorts", "parts", "sort", "k", "others", "wrong", "value", "paper", "claim", "due", "other"]) (sc := defScope s_law) (by decide +kernel)) (fun _ _ _ _ _ => (gNam sc_law.nd (i := 17))) (fun _ _ _ _ _ => tsNo) (fun _ _ _ _ _ => (eCm cIsNot (eCall c_proves hr (by decide) (aCn (eVar 16) (aCn (eVar 17) aNl))) eBool))))))))) (bOne (sRt eBool)) bNil))))))))))))

def forIter : Stmt → Expr
  | .For _ i _ _ _ => i
  | _ => .Constant .none 0 ⟨0, 0, 0, 0⟩
def forTg : Stmt → Expr
  | .For t _ _ _ _ => t
  | _ => .Constant .none 0 ⟨0, 0, 0, 0⟩
theorem ei_pairs {f : Addr} (T : Txt K mg) (c__law_kinds : Cal P w K mg base 1 "_law_kinds" f__law_kinds) (c__law_bad : Cal P w K mg base 2 "_law_bad" f__law_bad) (c__law_good : Cal P w K mg base 2 "_law_good" f__law_good) (v_is_question : FV K mg "is_question") (v_is_claim : FV K mg "is_claim") (c__law_draw : Cal P w K mg base 2 "_law_draw" f_draw) (D_judge : Defs P w K mg base 8 S_judge) (c_proves : Cal P w K mg base 15 "proves" f_proves) (c__law_rows : Cal P w K mg base 2 "_law_rows" f__law_rows) (c__law_same : Cal P w K mg base 10 "_law_same" (f__law_same 10)) (cdv : Value) (A : Around) (outer : List Env) (s : Shared) (H : Hp) (E : XK) (bx : Option (Addr × Addr)) (hr : Room 15 (A.deeper (PyProof.Rows.envOfC "law" (defScope s_law) s.heap.objs.size f cdv))) : EI (cxOf CX0 P w K mg base N_law "law" (defScope s_law) f cdv A outer s H E).nox bx (forTg s_in) (forIter s_in) l_pairs := by
  have hu65 := hu65 hr
  have hu := hu_of hr
  exact (iAny (eTup (aCn (eTup (aCn (eVar 2) (aCn (eFn v_is_claim) aNl))) (aCn (eTup (aCn (eVar 3) (aCn (eFn v_is_question) aNl))) aNl))))

theorem tg_kj {f : Addr} (T : Txt K mg) (c__law_kinds : Cal P w K mg base 1 "_law_kinds" f__law_kinds) (c__law_bad : Cal P w K mg base 2 "_law_bad" f__law_bad) (c__law_good : Cal P w K mg base 2 "_law_good" f__law_good) (v_is_question : FV K mg "is_question") (v_is_claim : FV K mg "is_claim") (c__law_draw : Cal P w K mg base 2 "_law_draw" f_draw) (D_judge : Defs P w K mg base 8 S_judge) (c_proves : Cal P w K mg base 15 "proves" f_proves) (c__law_rows : Cal P w K mg base 2 "_law_rows" f__law_rows) (c__law_same : Cal P w K mg base 10 "_law_same" (f__law_same 10)) (cdv : Value) (A : Around) (outer : List Env) (s : Shared) (H : Hp) (E : XK) (bx : Option (Addr × Addr)) (hr : Room 15 (A.deeper (PyProof.Rows.envOfC "law" (defScope s_law) s.heap.objs.size f cdv))) : ETg (cxOf CX0 P w K mg base N_law "law" (defScope s_law) f cdv A outer s H E).nox bx (forTg s_in) [7, 8] l_kj := by
  have hu65 := hu65 hr
  have hu := hu_of hr
  exact (gTupl rfl (gCn (gNam sc_law.nd (i := 7)) (gCn (gNam sc_law.nd (i := 8)) gNl)) (n := 2))

end
end K70
end
section
set_option Elab.async false
set_option linter.all false
set_option maxRecDepth 100000
namespace K70
open PySem PySem.Spec L2 Ev
set_option autoImplicit false
def d_told : PyData := .dict [(.str "explained", .str "h"), (.str "unexplained", .str "h"), (.str "never fewer", .str "fcr"), (.str "can be read", .str "fcr")]
def d_asked : PyData := .dict [(.str "explain", .str "h"), (.str "fewest", .str "fc"), (.str "read", .str "fc")]
def d_good : PyData := .dict [(.str "h", .list [.tuple [.tuple [.int 1, .int 4, .str "done", .str "serial", .tuple [.tuple [.str "put", .str "a", .str "x"]], .tuple [.bool true]], .tuple [.int 5, .int 8, .str "done", .str "serial", .tuple [.tuple [.str "get", .str "a"]], .tuple [.str "x"]], .tuple [.int 0, .int 9, .str "done", .str "serial", .tuple [.tuple [.str "get", .str "a"]], .tuple [.none]]], .tuple []]), (.str "f", .list [.int 1, .int 1000]), (.str "c", .list [.tuple [], .tuple [.int 1, .int 2, .int 1], .tuple (List.replicate 120 (.int 7))]), (.str "r", .list [.int 0])]
def d_bad : PyData := .dict [(.str "h", .list [.none, .tuple [.none], .tuple [.tuple [.int 1, .int 4, .str "done", .str "serial", .tuple [.tuple [.str "put", .str "a", .str "x"]]]], .tuple [.tuple [.int 4, .int 1, .str "done", .str "serial", .tuple [.tuple [.str "put", .str "a", .str "x"]], .tuple [.bool true]]], .tuple [.tuple [.int 1, .int 4, .str "done", .str "serial", .tuple [.tuple [.str "put", .str "a", .str "x"]], .tuple [.bool true]], .tuple [.int 1, .int 4, .str "done", .str "serial", .tuple [.tuple [.str "put", .str "a", .str "x"]], .tuple [.bool true]]]]), (.str "f", .list [.int 0, .int 1001, .bool true, .none, .str "2"]), (.str "c", .list [.none, .tuple [.int 0], .tuple [.bool true], .tuple (List.replicate 121 (.int 1)), .str "12"]), (.str "r", .list [.int (-1), .int 500, .none, .bool true])]
def T_told : Tr := .node 3 fun w => match w with | 0 => (.node 1 fun _ => .node 2 fun _ => .node 0 fun _ => .node 2 fun k => .node (match k with | 0 => 4 | 1 => 4 | 2 => 3 | _ => 0) fun _ => .node 6 fun _ => .leaf) | 1 => (.node 1 fun _ => .node 0 fun k => .node (match k with | 0 => 4 | _ => 0) fun _ => .node 6 fun _ => .leaf) | 2 => (.node 1 fun _ => .node 2 fun _ => .node 0 fun _ => .node 2 fun k => .node (match k with | 0 => 4 | 1 => 4 | 2 => 3 | _ => 0) fun _ => .node 6 fun _ => .leaf) | 3 => (.node 1 fun _ => .node 0 fun k => .node (match k with | 0 => 4 | _ => 0) fun _ => .node 6 fun _ => .leaf) | _ => .leaf
def T_asked : Tr := .node 2 fun w => match w with | 0 => (.node 1 fun _ => .node 0 fun k => .node (match k with | 0 => 4 | _ => 0) fun _ => .node 6 fun _ => .leaf) | 1 => (.node 1 fun _ => .node 2 fun _ => .node 1 fun k => .node (match k with | 0 => 4 | 1 => 4 | _ => 0) fun _ => .node 6 fun _ => .leaf) | 2 => (.node 1 fun _ => .node 2 fun _ => .node 1 fun k => .node (match k with | 0 => 4 | 1 => 4 | _ => 0) fun _ => .node 6 fun _ => .leaf) | _ => .leaf
def e0 : En := [none, some (.imm boxD)] ++ List.replicate 19 none
def eF : En := [none, some (.imm boxD), some (.imm d_told), some (.imm d_asked), some (.imm d_good), some (.imm d_bad)] ++ List.replicate 15 none
def chk (a : En) : Option (Out × En × Bx) → Bool
  | some (.nx, e, _) => knownE a e
  | _ => false
def dT : PyData := .tuple [d_told, fnD "is_claim"]
def dA : PyData := .tuple [d_asked, fnD "is_question"]
theorem k0 : chk eF (sSeq l_s1 l_s2 e0 ⟨[]⟩) = true := by decide +kernel
def eqL (r : Option (List PyData × En × Bx)) (ds : List PyData) (e : En) : Bool := match r with
  | some (l, e', _) => eqAll ds l && knownE e e'
  | _ => false
theorem k1 : eqL (l_pairs eF ⟨[]⟩) [dT, dA] eF = true := by decide +kernel
theorem k5 : chk e0 (l_last eF ⟨[]⟩) = true := by decide +kernel
def turnE (d : PyData) (p : List (Int × Int)) : Bool := match l_kj d eF with
  | some e => chk eF (l_turn e ⟨p⟩)
  | none => false
theorem all_chunks {α : Type} (f : α → Bool) (c : Nat) : ∀ (n : Nat) (l : List α), l.length ≤ c * n → (∀ i, i < n → ((l.drop (c * i)).take c).all f = true) → l.all f = true
  | 0, l, h, _ => by
    have : l = [] := List.eq_nil_of_length_eq_zero (by omega)
    rw [this]; rfl
  | n + 1, l, h, H => by
    rw [← List.take_append_drop c l, List.all_append, Bool.and_eq_true]
    refine ⟨?_, all_chunks f c n (l.drop c) ?_ ?_⟩
    · have := H 0 (by omega)
      rwa [Nat.mul_zero, List.drop_zero] at this
    · rw [List.length_drop]; rw [Nat.mul_succ] at h; omega
    · intro i hi
      have := H (i + 1) (by omega)
      rwa [List.drop_drop, show c + c * i = c * (i + 1) from by rw [Nat.mul_succ]; omega]
theorem kt0 : ((T_told.paths.drop (50 * 0)).take 50).all (turnE dT) = true := by decide +kernel
theorem kt1 : ((T_told.paths.drop (50 * 1)).take 50).all (turnE dT) = true := by decide +kernel
theorem kt2 : ((T_told.paths.drop (50 * 2)).take 50).all (turnE dT) = true := by decide +kernel
theorem kt3 : ((T_told.paths.drop (50 * 3)).take 50).all (turnE dT) = true := by decide +kernel
theorem kt4 : ((T_told.paths.drop (50 * 4)).take 50).all (turnE dT) = true := by decide +kernel
theorem kt5 : ((T_told.paths.drop (50 * 5)).take 50).all (turnE dT) = true := by decide +kernel
theorem kt6 : ((T_told.paths.drop (50 * 6)).take 50).all (turnE dT) = true := by decide +kernel
theorem kt7 : ((T_told.paths.drop (50 * 7)).take 50).all (turnE dT) = true := by decide +kernel
theorem kt8 : ((T_told.paths.drop (50 * 8)).take 50).all (turnE dT) = true := by decide +kernel
theorem kt9 : ((T_told.paths.drop (50 * 9)).take 50).all (turnE dT) = true := by decide +kernel
theorem kt10 : ((T_told.paths.drop (50 * 10)).take 50).all (turnE dT) = true := by decide +kernel
theorem kt11 : ((T_told.paths.drop (50 * 11)).take 50).all (turnE dT) = true := by decide +kernel
theorem kt12 : ((T_told.paths.drop (50 * 12)).take 50).all (turnE dT) = true := by decide +kernel
theorem kt13 : ((T_told.paths.drop (50 * 13)).take 50).all (turnE dT) = true := by decide +kernel
theorem kt14 : ((T_told.paths.drop (50 * 14)).take 50).all (turnE dT) = true := by decide +kernel
theorem kt15 : ((T_told.paths.drop (50 * 15)).take 50).all (turnE dT) = true := by decide +kernel
theorem kt16 : ((T_told.paths.drop (50 * 16)).take 50).all (turnE dT) = true := by decide +kernel
theorem kt17 : ((T_told.paths.drop (50 * 17)).take 50).all (turnE dT) = true := by decide +kernel
theorem kt18 : ((T_told.paths.drop (50 * 18)).take 50).all (turnE dT) = true := by decide +kernel
theorem kt19 : ((T_told.paths.drop (50 * 19)).take 50).all (turnE dT) = true := by decide +kernel
theorem kt20 : ((T_told.paths.drop (50 * 20)).take 50).all (turnE dT) = true := by decide +kernel
theorem kt21 : ((T_told.paths.drop (50 * 21)).take 50).all (turnE dT) = true := by decide +kernel
theorem kt22 : ((T_told.paths.drop (50 * 22)).take 50).all (turnE dT) = true := by decide +kernel
theorem kt23 : ((T_told.paths.drop (50 * 23)).take 50).all (turnE dT) = true := by decide +kernel
theorem kt24 : ((T_told.paths.drop (50 * 24)).take 50).all (turnE dT) = true := by decide +kernel
theorem kt25 : ((T_told.paths.drop (50 * 25)).take 50).all (turnE dT) = true := by decide +kernel
theorem kt26 : ((T_told.paths.drop (50 * 26)).take 50).all (turnE dT) = true := by decide +kernel
theorem kt_len : T_told.paths.length ≤ 50 * 27 := by decide +kernel
theorem k2 : T_told.paths.all (turnE dT) = true := all_chunks _ 50 27 _ kt_len fun i hi => match i, hi with
  | 0, _ => kt0
  | 1, _ => kt1
  | 2, _ => kt2
  | 3, _ => kt3
  | 4, _ => kt4
  | 5, _ => kt5
  | 6, _ => kt6
  | 7, _ => kt7
  | 8, _ => kt8
  | 9, _ => kt9
  | 10, _ => kt10
  | 11, _ => kt11
  | 12, _ => kt12
  | 13, _ => kt13
  | 14, _ => kt14
  | 15, _ => kt15
  | 16, _ => kt16
  | 17, _ => kt17
  | 18, _ => kt18
  | 19, _ => kt19
  | 20, _ => kt20
  | 21, _ => kt21
  | 22, _ => kt22
  | 23, _ => kt23
  | 24, _ => kt24
  | 25, _ => kt25
  | 26, _ => kt26
  | i + 27, h => absurd h (by omega)
theorem ka0 : ((T_asked.paths.drop (50 * 0)).take 50).all (turnE dA) = true := by decide +kernel
theorem ka1 : ((T_asked.paths.drop (50 * 1)).take 50).all (turnE dA) = true := by decide +kernel
theorem ka2 : ((T_asked.paths.drop (50 * 2)).take 50).all (turnE dA) = true := by decide +kernel
theorem ka3 : ((T_asked.paths.drop (50 * 3)).take 50).all (turnE dA) = true := by decide +kernel
theorem ka4 : ((T_asked.paths.drop (50 * 4)).take 50).all (turnE dA) = true := by decide +kernel
theorem ka5 : ((T_asked.paths.drop (50 * 5)).take 50).all (turnE dA) = true := by decide +kernel
theorem ka6 : ((T_asked.paths.drop (50 * 6)).take 50).all (turnE dA) = true := by decide +kernel
theorem ka7 : ((T_asked.paths.drop (50 * 7)).take 50).all (turnE dA) = true := by decide +kernel
theorem ka8 : ((T_asked.paths.drop (50 * 8)).take 50).all (turnE dA) = true := by decide +kernel
theorem ka9 : ((T_asked.paths.drop (50 * 9)).take 50).all (turnE dA) = true := by decide +kernel
theorem ka10 : ((T_asked.paths.drop (50 * 10)).take 50).all (turnE dA) = true := by decide +kernel
theorem ka11 : ((T_asked.paths.drop (50 * 11)).take 50).all (turnE dA) = true := by decide +kernel
theorem ka12 : ((T_asked.paths.drop (50 * 12)).take 50).all (turnE dA) = true := by decide +kernel
theorem ka13 : ((T_asked.paths.drop (50 * 13)).take 50).all (turnE dA) = true := by decide +kernel
theorem ka14 : ((T_asked.paths.drop (50 * 14)).take 50).all (turnE dA) = true := by decide +kernel
theorem ka15 : ((T_asked.paths.drop (50 * 15)).take 50).all (turnE dA) = true := by decide +kernel
theorem ka16 : ((T_asked.paths.drop (50 * 16)).take 50).all (turnE dA) = true := by decide +kernel
theorem ka17 : ((T_asked.paths.drop (50 * 17)).take 50).all (turnE dA) = true := by decide +kernel
theorem ka18 : ((T_asked.paths.drop (50 * 18)).take 50).all (turnE dA) = true := by decide +kernel
theorem ka_len : T_asked.paths.length ≤ 50 * 19 := by decide +kernel
theorem k3 : T_asked.paths.all (turnE dA) = true := all_chunks _ 50 19 _ ka_len fun i hi => match i, hi with
  | 0, _ => ka0
  | 1, _ => ka1
  | 2, _ => ka2
  | 3, _ => ka3
  | 4, _ => ka4
  | 5, _ => ka5
  | 6, _ => ka6
  | 7, _ => ka7
  | 8, _ => ka8
  | 9, _ => ka9
  | 10, _ => ka10
  | 11, _ => ka11
  | 12, _ => ka12
  | 13, _ => ka13
  | 14, _ => ka14
  | 15, _ => ka15
  | 16, _ => ka16
  | 17, _ => ka17
  | 18, _ => ka18
  | i + 19, h => absurd h (by omega)
end K70
end
section
set_option Elab.async false
set_option linter.all false
set_option maxRecDepth 100000
namespace K70
open PySem PySem.Spec L2 Ev
set_option autoImplicit false
section
variable {X : Cx} {st : Stmt} {tg it : Expr} {sts : List Stmt} {α : Type}
theorem psE {t : α → TS} (h : ∀ b, PS X st (t b)) : PS X st (fun D σ H => ∃ b, t b D σ H) := ⟨fun pins s σ H D I ⟨b, q⟩ => (h b).run pins s σ H D I q⟩
theorem pssE {t : α → TS} (h : ∀ b, PSs X sts (t b)) : PSs X sts (fun D σ H => ∃ b, t b D σ H) := ⟨fun pins s σ H D I ⟨b, q⟩ => (h b).run pins s σ H D I q⟩
theorem piE {t : α → TI} (h : ∀ b, PI X tg it (t b)) : PI X tg it (fun σ H R => ∃ b, t b σ H R) := ⟨fun pins s σ H R I ⟨b, q⟩ => (h b).run pins s σ H R I q⟩
theorem pgE {t : α → TG} (h : ∀ b, PG X tg (t b)) : PG X tg (fun v σ H Q => ∃ b, t b v σ H Q) := ⟨fun pins s σ H v u Q I r ⟨b, q⟩ => (h b).run pins s σ H v u Q I r q⟩
end
section
variable {K : PySem.W.Frag} {bx : Option (Addr × Addr)} {σ : L2.St} {e e' : En} {s s' : Bx} {G H : Hp} {f g : SM} {rest : TS} {D : Ends}
theorem two_run (I : INV ⟨K, bx⟩ σ e s G H) (h : sSeq f g e s = some (.nx, e', s')) (k : ∀ σ' G' H', INV ⟨K, bx⟩ σ' e' s' G' H' → rest D σ' H') : tSeq (fun D σ H => ∃ b, rdS ⟨K, b⟩ f D σ H) (tSeq (fun D σ H => ∃ b, rdS ⟨K, b⟩ g D σ H) rest) D σ H := by
  cases ef : f e s with
  | none => simp [sSeq, ef] at h
  | some q =>
    obtain ⟨o, e1, s1⟩ := q
    refine ⟨bx, G, e, s, o, e1, s1, I, ef, fun σ1 G1 H1 J m => ?_⟩
    cases o with
    | nx =>
      simp only [sSeq, ef] at h
      exact ⟨bx, G1, e1, s1, .nx, e', s', J, h, fun σ2 G2 H2 J2 m2 => k σ2 G2 H2 J2⟩
    | bk => simp [sSeq, ef] at h
    | ct => simp [sSeq, ef] at h
    | rt d => simp [sSeq, ef] at h
theorem inv_skip (I : INV ⟨K, bx⟩ σ e s G H) {i : Nat} (hi : e[i]? = some none) (v : Option V) : INV ⟨K, bx⟩ (σ.set i v) e s G H := by
  have ne : ∀ {j : Nat} {x : EV}, e[j]? = some (some x) → i ≠ j := fun {j x} h z => by rw [z, h] at hi; cases hi
  have back : ∀ {j : Nat} {x : EV}, e[j]? = some (some x) → (σ.set i v)[j]? = σ[j]? := fun h => List.getElem?_set_ne (ne h)
  have mt : ∀ {j a}, IsMut e (σ.set i v) j a → IsMut e σ j a := fun {j a} ⟨h1, h2⟩ => ⟨h1, by
    rcases h1 with ⟨l, h1⟩ | ⟨l, h1⟩ <;> · rw [back h1] at h2; exact h2⟩
  refine ⟨I.sub, I.box, I.bfree, by rw [List.length_set]; exact I.len, fun j d h => ?_, fun j l h => ?_, fun j l h => ?_, fun j k a h1 h2 => I.sep j k a (mt h1) (mt h2)⟩
  · rw [back h]; exact I.val j d h
  · rw [back h]; exact I.mt j l h
  · rw [back h]; exact I.dm j l h
theorem box_nil (I : INV ⟨K, bx⟩ σ e s G H) : INV ⟨K, bx⟩ σ e ⟨[]⟩ G H := I.rebox fun B C hb => by
  obtain ⟨t, _, h1, h2, h3⟩ := I.box B C hb
  exact ⟨t, trivial, h1, h2, h3⟩
theorem chk_ok {a : En} {r : Option (Out × En × Bx)} (h : chk a r = true) : ∃ e s, r = some (.nx, e, s) ∧ knownE a e = true := by
  unfold chk at h
  split at h
  · exact ⟨_, _, rfl, h⟩
  · cases h
theorem INV.known (I : INV ⟨K, bx⟩ σ e' s G H) (h : knownE e e' = true) : INV ⟨K, bx⟩ σ e s G H := I.forget (knownE_ok h).1 (knownE_ok h).2
theorem eqL_ok {r : Option (List PyData × En × Bx)} {ds : List PyData} {e : En} (h : eqL r ds e = true) : ∃ e' s', r = some (ds, e', s') ∧ knownE e e' = true := by
  unfold eqL at h
  split at h
  · rw [Bool.and_eq_true] at h
    have := eqAll_eq _ _ h.1
    subst this
    exact ⟨_, _, rfl, h.2⟩
  · cases h
theorem turn_ok {d : PyData} {T : Tr} (h : T.paths.all (turnE d) = true) (hT : T.paths ≠ []) : ∃ e, l_kj d eF = some e ∧ ∀ p ∈ T.paths, ∃ e' s', l_turn e ⟨p⟩ = some (.nx, e', s') ∧ knownE eF e' = true := by
  cases ek : l_kj d eF with
  | none =>
    obtain ⟨p, hp⟩ := List.exists_mem_of_ne_nil _ hT
    have := List.all_eq_true.mp h p hp
    unfold turnE at this
    rw [ek] at this
    cases this
  | some e =>
    refine ⟨e, rfl, fun p hp => ?_⟩
    have := List.all_eq_true.mp h p hp
    unfold turnE at this
    rw [ek] at this
    exact chk_ok this
end
theorem e0_only {i : Nat} {x : EV} (h : e0[i]? = some (some x)) : i = 1 ∧ x = .imm boxD := by
  match i, h with
  | 0, h => simp [e0] at h
  | 1, h => exact ⟨rfl, by simpa [e0] using h.symm⟩
  | n + 2, h =>
    simp only [e0, List.cons_append, List.nil_append, List.getElem?_cons_succ, List.getElem?_replicate] at h
    split at h <;> cases h
theorem inv0 {K : PySem.W.Frag} {B C a : Addr} {t : BoxSt} {H : Hp} (hB : H B = some (.lst [.ref C, .int t.b1, .int t.b2])) (hC : H C = some (.lst (t.cells.map V.int))) (hBC : B ≠ C) :
    INV ⟨K, some (B, C)⟩ ([some (.ref a), some (.ref B)] ++ List.replicate 19 none) e0 ⟨[]⟩ (fun _ => none) H := by
  refine ⟨(fun b u e => nomatch e), (fun B' C' e => by
    cases e
    exact ⟨t, trivial, hB, hC, hBC⟩), fun b h => rfl, rfl, fun i d e => ?_, fun i l e => ?_, fun i l e => ?_, fun i j b h1 h2 => ?_⟩
  · obtain ⟨rfl, e2⟩ := e0_only e
    cases e2
    exact ⟨.ref B, rfl, .inr ⟨rfl, B, C, rfl, rfl⟩⟩
  · obtain ⟨_, e2⟩ := e0_only e; cases e2
  · obtain ⟨_, e2⟩ := e0_only e; cases e2
  · obtain ⟨⟨l, e⟩ | ⟨l, e⟩, _⟩ := h1 <;> · obtain ⟨_, e2⟩ := e0_only e; cases e2
def spLaw (K : PySem.W.Frag) : Sp := fun vs H Q _ => ∃ (a : Addr) (ns : List Int), vs = [.ref a] ∧ SqL K H a (ns.map V.int) ∧ ns.length ≤ 63 ∧ ∀ H', Q (.bl true) H'
section
variable {P : Program} {w : World} {K : PySem.W.Frag} {mg : Str → Option Value} {base : Heap}
theorem ok_law {f fB : Addr} {fd fdB : FuncData} (F : Fun K "law" "law" s_law f fd) (T : Txt K mg) (c__law_kinds : Cal P w K mg base 1 "_law_kinds" f__law_kinds) (c__law_bad : Cal P w K mg base 2 "_law_bad" f__law_bad) (c__law_good : Cal P w K mg base 2 "_law_good" f__law_good) (v_is_question : FV K mg "is_question") (v_is_claim : FV K mg "is_claim") (c__law_draw : Cal P w K mg base 2 "_law_draw" f_draw) (D_judge : Defs P w K mg base 8 S_judge) (c_proves : Cal P w K mg base 15 "proves" f_proves) (c__law_rows : Cal P w K mg base 2 "_law_rows" f__law_rows) (c__law_same : Cal P w K mg base 10 "_law_same" (f__law_same 10))
    (GB : FnOk P w K mg base CX0 1 fB fdB ["script"] (spBoxMk K)) (mB : mg "_law_box" = some (.ref fB)) (kB : PySem.W.keepIn K (.ref fB) = true) (bB : Binds K fdB ["script"] []) : FnOk P w K mg base CX0 16 f fd ["script"] (spLaw K) := by
  refine F.ok sc_law (fun vs H Q E h => ?_) (fun cdv A outer s H vs Q E hr h => ?_)
  · obtain ⟨a, ns, rfl, _⟩ := h; rfl
  · obtain ⟨a, ns, rfl, hs, hl, k⟩ := h
    have hr1 : Room 1 _ := hr.mono (by decide)
    refine ⟨_, pss_cons (ps_set (i := 1) sc_law.nd rfl (by first | exact Or.inl rfl | exact Or.inr rfl) (pe_call GB hr1 rfl mB kB bB .nil pass0 (pa_cons (pv 0) pa_nil)))
      (pss_cons (psE fun bx => es_s1 (base := base) T c__law_kinds c__law_bad c__law_good v_is_question v_is_claim c__law_draw D_judge c_proves c__law_rows c__law_same cdv A outer s H E bx hr)
      (pss_cons (psE fun bx => es_s2 (base := base) T c__law_kinds c__law_bad c__law_good v_is_question v_is_claim c__law_draw D_judge c_proves c__law_rows c__law_same cdv A outer s H E bx hr)
      (pss_cons (ps_for PassesOwn.never rfl (pi_range1 (by rfl) T.range (pa_cons pe_int pa_nil)) (pg_name (i := 6) sc_law.nd rfl (by first | exact Or.inl rfl | exact Or.inr rfl))
        (pss_one (ps_for PassesOwn.never rfl (piE fun bx => ei_pairs (base := base) T c__law_kinds c__law_bad c__law_good v_is_question v_is_claim c__law_draw D_judge c_proves c__law_rows c__law_same cdv A outer s H E bx hr) (pgE fun bx => tg_kj (base := base) T c__law_kinds c__law_bad c__law_good v_is_question v_is_claim c__law_draw D_judge c_proves c__law_rows c__law_same cdv A outer s H E bx hr) (pssE fun bx => eb_turn (base := base) T c__law_kinds c__law_bad c__law_good v_is_question v_is_claim c__law_draw D_judge c_proves c__law_rows c__law_same cdv A outer s H E bx hr))))
      (pss_cons (psE fun bx => es_last (base := base) T c__law_kinds c__law_bad c__law_good v_is_question v_is_claim c__law_draw D_judge c_proves c__law_rows c__law_same cdv A outer s H E bx hr)
      (pss_one (ps_ret pe_bl)))))), ?_⟩
    refine ⟨.ref a, rfl, a, ns, rfl, hs, hl, fun B C H1 hB hC hBC h1B h1C keep => ?_⟩
    have I0 : INV ⟨K, some (B, C)⟩ _ e0 ⟨[]⟩ (fun _ => none) H1 := inv0 (K := K) (a := a) (t := ⟨ns, 0, 4711 + ns.length⟩) h1B h1C hBC
    obtain ⟨e1, s1, q0, kn0⟩ := chk_ok k0
    refine two_run I0 q0 fun σ2 G2 H2 I2 => ?_
    have I3 := box_nil (INV.known I2 kn0)
    refine ⟨6, rfl, by decide, by decide, for_it (walk_range (lo := 0) (n := 6)) (fun i σ H => ∃ G, INV ⟨K, some (B, C)⟩ σ eF ⟨[]⟩ G H) ⟨G2, I3⟩ (fun _ _ _ _ _ => trivial) ?_ ?_⟩
    · rintro i x σ4 H4 H5 hi ⟨G4, I4⟩ ⟨rfl, rfl⟩
      have I5 := inv_skip I4 (i := 6) rfl (some (.int (0 + (i : Nat))))
      obtain ⟨e6, s6, q6, kn6⟩ := eqL_ok k1
      refine ⟨some (B, C), G4, eF, ⟨[]⟩, [dT, dA], e6, s6, I5, q6, fun J G7 H7 I7 m7 wk => ?_⟩
      obtain ⟨Gd, Y, wk, hGd, hY⟩ := wk
      have I8 := box_nil (INV.known I7 kn6)
      have one : ∀ (d : PyData) (T : Tr), T.paths.all (turnE d) = true → T.paths ≠ [] → ∀ (x : V) (σ9 : L2.St) (H9 H10 : Hp) (G9 G10 : Hp), INV ⟨K, some (B, C)⟩ σ9 eF ⟨[]⟩ G9 H9 → INV0 ⟨K, some (B, C)⟩ ⟨[]⟩ G10 H10 → Mv0 ⟨K, some (B, C)⟩ G9 H9 G10 H10 → RpX ⟨K, some (B, C)⟩ G10 x d →
          ∀ D' : Ends, (∀ σ' G' H', INV ⟨K, some (B, C)⟩ σ' eF ⟨[]⟩ G' H' → Same G9 G' → D'.nx σ' H') → ∃ b, rdTg ⟨K, b⟩ [7, 8] l_kj x σ9 H10 fun σ2 H2 => ∃ b, rdS ⟨K, b⟩ l_turn D' σ2 H2 := by
        intro d Tt hall hne x σ9 H9 H10 G9 G10 I9 J10 m10 rx D' hD
        obtain ⟨e, ekj, hturn⟩ := turn_ok hall hne
        refine ⟨some (B, C), G10, eF, ⟨[]⟩, d, e, I9.lift J10 m10, rx, ekj, fun σ11 I11 m11 _ => ?_⟩
        obtain ⟨p, hp, hbox⟩ := I11.box.path Tt
        obtain ⟨e', s', qt, knt⟩ := hturn p hp
        exact ⟨some (B, C), G10, e, ⟨p⟩, .nx, e', s', I11.rebox hbox, qt, fun σ12 G12 H12 I12 m12 => hD σ12 G12 H12 (box_nil (INV.known I12 knt)) (m10.sub.trans m12.sub)⟩
      refine for_it (g := fun v σ H Q => ∃ b, rdTg ⟨K, b⟩ [7, 8] l_kj v σ H Q) (tb := fun D σ H => ∃ b, rdS ⟨K, b⟩ l_turn D σ H) (D := ⟨fun σ H => ∃ G, INV ⟨K, some (B, C)⟩ σ eF ⟨[]⟩ G H, Q, fun _ _ => False, fun _ _ => False⟩) wk (fun i σ H => ∃ G, INV ⟨K, some (B, C)⟩ σ eF ⟨[]⟩ G H ∧ Same G7 G) ⟨G7, I8, Same.refl _⟩ (fun i σ H hi ⟨G, I, sub⟩ => hGd H (sub.trans I.sub)) ?_ ?_
      · rintro j y σ9 H9 H10 hj ⟨G9, I9, sub9⟩ yy
        match j, hj, yy with
        | 0, hj, yy =>
          obtain ⟨G10, J10, m10, rx⟩ := hY 0 y _ G9 H9 H10 dT rfl sub9 I9.base yy
          exact one dT T_told k2 (by intro z; have := congrArg List.length z; revert this; decide +kernel) y σ9 H9 H10 G9 G10 I9 J10 m10 rx _ fun σ' G' H' I' sub' => ⟨G', I', sub9.trans sub'⟩
        | 1, hj, yy =>
          obtain ⟨G10, J10, m10, rx⟩ := hY 1 y _ G9 H9 H10 dA rfl sub9 I9.base yy
          exact one dA T_asked k3 (by intro z; have := congrArg List.length z; revert this; decide +kernel) y σ9 H9 H10 G9 G10 I9 J10 m10 rx _ fun σ' G' H' I' sub' => ⟨G', I', sub9.trans sub'⟩
        | n + 2, hj, yy => exact absurd hj (by simp)
      · rintro σ H ⟨G, I, _⟩
        exact ⟨G, I⟩
    · rintro σ4 H4 ⟨G4, I4⟩
      obtain ⟨e5, s5, q5, kn5⟩ := chk_ok k5
      exact ⟨some (B, C), G4, eF, ⟨[]⟩, .nx, e5, s5, I4, q5, fun σ6 G6 H6 I6 m6 => k H6⟩
end
end K70
end
section
set_option Elab.async false
set_option linter.all false
set_option maxRecDepth 100000
namespace K70
open PySem PySem.Spec L2 Ev
set_option autoImplicit false
theorem lk_cons {α : Type} {n x : Str} {f g : α} {r : List (Str × α)} (h : List.lookup n ((x, g) :: r) = some f) : (n = x ∧ g = f) ∨ List.lookup n r = some f := by
  rw [List.lookup_cons] at h
  split at h
  · rename_i e
    exact .inl ⟨LawfulBEq.eq_of_beq e, Option.some.inj h⟩
  · exact .inr h
theorem gc_int {K : PySem.W.Frag} {h : Heap} {mg : Str → Option Value} {x : Str} {i : Int} {t : Tok} (X : K.In h) (G : h.Ns mainGlobals mg) (e : PySem.W.nsIn K mainGlobals x = some (some (.int i t))) : GC K mg x (.int i) :=
  ⟨⟨_, .int i, PySem.W.mg_of X G e, ⟨t, rfl⟩, fun G => .int i⟩⟩
theorem gc_str {K : PySem.W.Frag} {h : Heap} {mg : Str → Option Value} {x z : Str} {t : Tok} (X : K.In h) (G : h.Ns mainGlobals mg) (e : PySem.W.nsIn K mainGlobals x = some (some (.str z t))) : GC K mg x (.str z) :=
  ⟨⟨_, .str z, PySem.W.mg_of X G e, ⟨t, rfl⟩, fun G => .str z⟩⟩
theorem gc_tup2 {K : PySem.W.Frag} {h : Heap} {mg : Str → Option Value} {x a b : Str} {u : Addr} {o : Obj} {its : Array Value} {m : Nat} {ta tb : Tok} (X : K.In h) (G : h.Ns mainGlobals mg) (e : PySem.W.nsIn K mainGlobals x = some (some (.ref u)))
    (l : K.lookup u = some o) (c : o.cls = .type "tuple") (d : o.data = .seq its m) (i : its.toList = [.str a ta, .str b tb]) : GC K mg x (.tuple [.str a, .str b]) :=
  ⟨⟨_, .ref u, PySem.W.mg_of X G e, rfl, fun G => .tup (xs := [.str a, .str b]) (.inr ⟨o, its, m, l, c, d, by
    have z : its.size = 2 := by rw [← Array.length_toList, i]; rfl
    rw [z]; decide, by rw [i]; exact .cons ⟨ta, rfl⟩ (.cons ⟨tb, rfl⟩ .nil)⟩) (.cons (.str a) (.cons (.str b) .nil))⟩⟩

set_option maxHeartbeats 0 in
theorem all_mk {l : PySem.W.OpenLaw} {w : World} {K : PySem.W.Frag} {h : Heap} {mg : Str → Option Value} {fa C f_is_whole f_is_number f_is_ascending f_are_signs f_is_key f_is_stored f_is_read f_is_write f_keys_changed f_value_in f_with_value f_read_answer f_init f_rows f_answer f_plain_answers f_same_answers f_is_told_answer f_are_inner f_is_history_row f_is_history f_rows_by_order f_fits_serial f_can_follow f_followers f_is_some_order f_is_explaining f_is_history_paper f_is_course f_spans_of f_bare_spans f_most_hits f_is_course_paper f_is_judged f_is_framed f_is_told_reads f_has_word f_reads_with f_are_pages_out f_proves_reads f_load f_draw f_box f_is_claim f_is_question f_proves f__law_same f__law_history f__law_odd f__law_kinds f__law_good f__law_bad f__law_rows f_law u_DEGREES u_KINDS u_FORMS u_ASKED : Addr} (X : K.In h) (G : h.Ns mainGlobals mg) (hfa : mg "law" = some (.ref fa))
    {od_is_whole an_is_whole od_is_number an_is_number od_is_ascending an_is_ascending od_are_signs an_are_signs od_is_key an_is_key od_is_stored an_is_stored od_is_read an_is_read od_is_write an_is_write od_keys_changed an_keys_changed od_value_in an_value_in od_with_value an_with_value od_read_answer an_read_answer od_init an_init od_rows an_rows od_answer an_answer od_plain_answers an_plain_answers od_same_answers an_same_answers od_is_told_answer an_is_told_answer od_are_inner an_are_inner od_is_history_row an_is_history_row od_is_history an_is_history od_rows_by_order an_rows_by_order od_fits_serial an_fits_serial od_can_follow an_can_follow od_followers an_followers od_is_some_order an_is_some_order od_is_explaining an_is_explaining od_is_history_paper an_is_history_paper od_is_course an_is_course od_spans_of an_spans_of od_bare_spans an_bare_spans od_most_hits an_most_hits od_is_course_paper an_is_course_paper od_is_judged an_is_judged od_is_framed an_is_framed od_is_told_reads an_is_told_reads od_has_word an_has_word od_reads_with an_reads_with od_are_pages_out an_are_pages_out od_proves_reads an_proves_reads od_load an_load od_draw an_draw od_box an_box od_is_claim an_is_claim od_is_question an_is_question od_proves an_proves od__law_same an__law_same od__law_history an__law_history od__law_odd an__law_odd od__law_kinds an__law_kinds od__law_good an__law_good od__law_bad an__law_bad od__law_rows an__law_rows od_law an_law : Option Addr} {sl_is_whole sl_is_number sl_is_ascending sl_are_signs sl_is_key sl_is_stored sl_is_read sl_is_write sl_keys_changed sl_value_in sl_with_value sl_read_answer sl_init sl_rows sl_answer sl_plain_answers sl_same_answers sl_is_told_answer sl_are_inner sl_is_history_row sl_is_history sl_rows_by_order sl_fits_serial sl_can_follow sl_followers sl_is_some_order sl_is_explaining sl_is_history_paper sl_is_course sl_spans_of sl_bare_spans sl_most_hits sl_is_course_paper sl_is_judged sl_is_framed sl_is_told_reads sl_has_word sl_reads_with sl_are_pages_out sl_proves_reads sl_load sl_draw sl_box sl_is_claim sl_is_question sl_proves sl__law_same sl__law_history sl__law_odd sl__law_kinds sl__law_good sl__law_bad sl__law_rows sl_law : Array (Option Value)} {oc_is_whole kV_is_whole dc_is_whole pm_is_whole cd_is_whole ct_is_whole oc_is_number kV_is_number dc_is_number pm_is_number cd_is_number ct_is_number oc_is_ascending kV_is_ascending dc_is_ascending pm_is_ascending cd_is_ascending ct_is_ascending oc_are_signs kV_are_signs dc_are_signs pm_are_signs cd_are_signs ct_are_signs oc_is_key kV_is_key dc_is_key pm_is_key cd_is_key ct_is_key oc_is_stored kV_is_stored dc_is_stored pm_is_stored cd_is_stored ct_is_stored oc_is_read kV_is_read dc_is_read pm_is_read cd_is_read ct_is_read oc_is_write kV_is_write dc_is_write pm_is_write cd_is_write ct_is_write oc_keys_changed kV_keys_changed dc_keys_changed pm_keys_changed cd_keys_changed ct_keys_changed oc_value_in kV_value_in dc_value_in pm_value_in cd_value_in ct_value_in oc_with_value kV_with_value dc_with_value pm_with_value cd_with_value ct_with_value oc_read_answer kV_read_answer dc_read_answer pm_read_answer cd_read_answer ct_read_answer oc_init kV_init dc_init pm_init cd_init ct_init oc_rows kV_rows dc_rows pm_rows cd_rows ct_rows oc_answer kV_answer dc_answer pm_answer cd_answer ct_answer oc_plain_answers kV_plain_answers dc_plain_answers pm_plain_answers cd_plain_answers ct_plain_answers oc_same_answers kV_same_answers dc_same_answers pm_same_answers cd_same_answers ct_same_answers oc_is_told_answer kV_is_told_answer dc_is_told_answer pm_is_told_answer cd_is_told_answer ct_is_told_answer oc_are_inner kV_are_inner dc_are_inner pm_are_inner cd_are_inner ct_are_inner oc_is_history_row kV_is_history_row dc_is_history_row pm_is_history_row cd_is_history_row ct_is_history_row oc_is_history kV_is_history dc_is_history pm_is_history cd_is_history ct_is_history oc_rows_by_order kV_rows_by_order dc_rows_by_order pm_rows_by_order cd_rows_by_order ct_rows_by_order oc_fits_serial kV_fits_serial dc_fits_serial pm_fits_serial cd_fits_serial ct_fits_serial oc_can_follow kV_can_follow dc_can_follow pm_can_follow cd_can_follow ct_can_follow oc_followers kV_followers dc_followers pm_followers cd_followers ct_followers oc_is_some_order kV_is_some_order dc_is_some_order pm_is_some_order cd_is_some_order ct_is_some_order oc_is_explaining kV_is_explaining dc_is_explaining pm_is_explaining cd_is_explaining ct_is_explaining oc_is_history_paper kV_is_history_paper dc_is_history_paper pm_is_history_paper cd_is_history_paper ct_is_history_paper oc_is_course kV_is_course dc_is_course pm_is_course cd_is_course ct_is_course oc_spans_of kV_spans_of dc_spans_of pm_spans_of cd_spans_of ct_spans_of oc_bare_spans kV_bare_spans dc_bare_spans pm_bare_spans cd_bare_spans ct_bare_spans oc_most_hits kV_most_hits dc_most_hits pm_most_hits cd_most_hits ct_most_hits oc_is_course_paper kV_is_course_paper dc_is_course_paper pm_is_course_paper cd_is_course_paper ct_is_course_paper oc_is_judged kV_is_judged dc_is_judged pm_is_judged cd_is_judged ct_is_judged oc_is_framed kV_is_framed dc_is_framed pm_is_framed cd_is_framed ct_is_framed oc_is_told_reads kV_is_told_reads dc_is_told_reads pm_is_told_reads cd_is_told_reads ct_is_told_reads oc_has_word kV_has_word dc_has_word pm_has_word cd_has_word ct_has_word oc_reads_with kV_reads_with dc_reads_with pm_reads_with cd_reads_with ct_reads_with oc_are_pages_out kV_are_pages_out dc_are_pages_out pm_are_pages_out cd_are_pages_out ct_are_pages_out oc_proves_reads kV_proves_reads dc_proves_reads pm_proves_reads cd_proves_reads ct_proves_reads oc_load kV_load dc_load pm_load cd_load ct_load oc_draw kV_draw dc_draw pm_draw cd_draw ct_draw oc_box kV_box dc_box pm_box cd_box ct_box oc_is_claim kV_is_claim dc_is_claim pm_is_claim cd_is_claim ct_is_claim oc_is_question kV_is_question dc_is_question pm_is_question cd_is_question ct_is_question oc_proves kV_proves dc_proves pm_proves cd_proves ct_proves oc__law_same kV__law_same dc__law_same pm__law_same cd__law_same ct__law_same oc__law_history kV__law_history dc__law_history pm__law_history cd__law_history ct__law_history oc__law_odd kV__law_odd dc__law_odd pm__law_odd cd__law_odd ct__law_odd oc__law_kinds kV__law_kinds dc__law_kinds pm__law_kinds cd__law_kinds ct__law_kinds oc__law_good kV__law_good dc__law_good pm__law_good cd__law_good ct__law_good oc__law_bad kV__law_bad dc__law_bad pm__law_bad cd__law_bad ct__law_bad oc__law_rows kV__law_rows dc__law_rows pm__law_rows cd__law_rows ct__law_rows oc_law kV_law dc_law pm_law cd_law ct_law : Value} {o_DEGREES o_KINDS : Obj} {its_DEGREES its_KINDS : Array Value} {m_DEGREES m_KINDS n_FORMS n_ASKED : Nat} {es_FORMS es_ASKED : Array DictEntry} {z_signs : Str}
    {t_MOST_KEY t_MOST_VALUE t_MOST_MANY t_MOST_JUDGED t_GREATEST_TIME t_MOST_COURSE t_GREATEST_PAGE_NUMBER t_MOST_FRAMES t_SIGNS ta_DEGREES tb_DEGREES ta_KINDS tb_KINDS : Tok}
    (aC : PySem.W.nsIn K mainGlobals "PlainTransaction" = some (some (.ref C)))
    (a_is_whole : PySem.W.nsIn K mainGlobals "is_whole" = some (some (.ref f_is_whole)))
    (l_is_whole : K.lookup f_is_whole = some ⟨oc_is_whole, od_is_whole, .func (PySem.W.fnOf "is_whole" "is_whole" (defArgs s_is_whole) (defBody s_is_whole) (defScope s_is_whole) .none kV_is_whole dc_is_whole pm_is_whole an_is_whole cd_is_whole ct_is_whole), sl_is_whole⟩)
    (c_is_whole : PySem.W.codeIn K cd_is_whole "is_whole" = true)
    (k_is_whole : PySem.W.keepIn K (.ref f_is_whole) = true)
    (a_is_number : PySem.W.nsIn K mainGlobals "is_number" = some (some (.ref f_is_number)))
    (l_is_number : K.lookup f_is_number = some ⟨oc_is_number, od_is_number, .func (PySem.W.fnOf "is_number" "is_number" (defArgs s_is_number) (defBody s_is_number) (defScope s_is_number) .none kV_is_number dc_is_number pm_is_number an_is_number cd_is_number ct_is_number), sl_is_number⟩)
    (c_is_number : PySem.W.codeIn K cd_is_number "is_number" = true)
    (k_is_number : PySem.W.keepIn K (.ref f_is_number) = true)
    (a_is_ascending : PySem.W.nsIn K mainGlobals "is_ascending" = some (some (.ref f_is_ascending)))
    (l_is_ascending : K.lookup f_is_ascending = some ⟨oc_is_ascending, od_is_ascending, .func (PySem.W.fnOf "is_ascending" "is_ascending" (defArgs s_is_ascending) (defBody s_is_ascending) (defScope s_is_ascending) .none kV_is_ascending dc_is_ascending pm_is_ascending an_is_ascending cd_is_ascending ct_is_ascending), sl_is_ascending⟩)
    (c_is_ascending : PySem.W.codeIn K cd_is_ascending "is_ascending" = true)
    (k_is_ascending : PySem.W.keepIn K (.ref f_is_ascending) = true)
    (a_are_signs : PySem.W.nsIn K mainGlobals "are_signs" = some (some (.ref f_are_signs)))
    (l_are_signs : K.lookup f_are_signs = some ⟨oc_are_signs, od_are_signs, .func (PySem.W.fnOf "are_signs" "are_signs" (defArgs s_are_signs) (defBody s_are_signs) (defScope s_are_signs) .none kV_are_signs dc_are_signs pm_are_signs an_are_signs cd_are_signs ct_are_signs), sl_are_signs⟩)
    (c_are_signs : PySem.W.codeIn K cd_are_signs "are_signs" = true)
    (k_are_signs : PySem.W.keepIn K (.ref f_are_signs) = true)
    (a_is_key : PySem.W.nsIn K mainGlobals "is_key" = some (some (.ref f_is_key)))
    (l_is_key : K.lookup f_is_key = some ⟨oc_is_key, od_is_key, .func (PySem.W.fnOf "is_key" "is_key" (defArgs s_is_key) (defBody s_is_key) (defScope s_is_key) .none kV_is_key dc_is_key pm_is_key an_is_key cd_is_key ct_is_key), sl_is_key⟩)
    (c_is_key : PySem.W.codeIn K cd_is_key "is_key" = true)
    (k_is_key : PySem.W.keepIn K (.ref f_is_key) = true)
    (a_is_stored : PySem.W.nsIn K mainGlobals "is_stored" = some (some (.ref f_is_stored)))
    (l_is_stored : K.lookup f_is_stored = some ⟨oc_is_stored, od_is_stored, .func (PySem.W.fnOf "is_stored" "is_stored" (defArgs s_is_stored) (defBody s_is_stored) (defScope s_is_stored) .none kV_is_stored dc_is_stored pm_is_stored an_is_stored cd_is_stored ct_is_stored), sl_is_stored⟩)
    (c_is_stored : PySem.W.codeIn K cd_is_stored "is_stored" = true)
    (k_is_stored : PySem.W.keepIn K (.ref f_is_stored) = true)
    (a_is_read : PySem.W.nsIn K mainGlobals "is_read" = some (some (.ref f_is_read)))
    (l_is_read : K.lookup f_is_read = some ⟨oc_is_read, od_is_read, .func (PySem.W.fnOf "is_read" "is_read" (defArgs s_is_read) (defBody s_is_read) (defScope s_is_read) .none kV_is_read dc_is_read pm_is_read an_is_read cd_is_read ct_is_read), sl_is_read⟩)
    (c_is_read : PySem.W.codeIn K cd_is_read "is_read" = true)
    (k_is_read : PySem.W.keepIn K (.ref f_is_read) = true)
    (a_is_write : PySem.W.nsIn K mainGlobals "is_write" = some (some (.ref f_is_write)))
    (l_is_write : K.lookup f_is_write = some ⟨oc_is_write, od_is_write, .func (PySem.W.fnOf "is_write" "is_write" (defArgs s_is_write) (defBody s_is_write) (defScope s_is_write) .none kV_is_write dc_is_write pm_is_write an_is_write cd_is_write ct_is_write), sl_is_write⟩)
    (c_is_write : PySem.W.codeIn K cd_is_write "is_write" = true)
    (k_is_write : PySem.W.keepIn K (.ref f_is_write) = true)
    (a_keys_changed : PySem.W.nsIn K mainGlobals "keys_changed" = some (some (.ref f_keys_changed)))
    (l_keys_changed : K.lookup f_keys_changed = some ⟨oc_keys_changed, od_keys_changed, .func (PySem.W.fnOf "keys_changed" "keys_changed" (defArgs s_keys_changed) (defBody s_keys_changed) (defScope s_keys_changed) .none kV_keys_changed dc_keys_changed pm_keys_changed an_keys_changed cd_keys_changed ct_keys_changed), sl_keys_changed⟩)
    (c_keys_changed : PySem.W.codeIn K cd_keys_changed "keys_changed" = true)
    (k_keys_changed : PySem.W.keepIn K (.ref f_keys_changed) = true)
    (a_value_in : PySem.W.nsIn K mainGlobals "value_in" = some (some (.ref f_value_in)))
    (l_value_in : K.lookup f_value_in = some ⟨oc_value_in, od_value_in, .func (PySem.W.fnOf "value_in" "value_in" (defArgs s_value_in) (defBody s_value_in) (defScope s_value_in) .none kV_value_in dc_value_in pm_value_in an_value_in cd_value_in ct_value_in), sl_value_in⟩)
    (c_value_in : PySem.W.codeIn K cd_value_in "value_in" = true)
    (k_value_in : PySem.W.keepIn K (.ref f_value_in) = true)
    (a_with_value : PySem.W.nsIn K mainGlobals "with_value" = some (some (.ref f_with_value)))
    (l_with_value : K.lookup f_with_value = some ⟨oc_with_value, od_with_value, .func (PySem.W.fnOf "with_value" "with_value" (defArgs s_with_value) (defBody s_with_value) (defScope s_with_value) .none kV_with_value dc_with_value pm_with_value an_with_value cd_with_value ct_with_value), sl_with_value⟩)
    (c_with_value : PySem.W.codeIn K cd_with_value "with_value" = true)
    (k_with_value : PySem.W.keepIn K (.ref f_with_value) = true)
    (a_read_answer : PySem.W.nsIn K mainGlobals "read_answer" = some (some (.ref f_read_answer)))
    (l_read_answer : K.lookup f_read_answer = some ⟨oc_read_answer, od_read_answer, .func (PySem.W.fnOf "read_answer" "read_answer" (defArgs s_read_answer) (defBody s_read_answer) (defScope s_read_answer) .none kV_read_answer dc_read_answer pm_read_answer an_read_answer cd_read_answer ct_read_answer), sl_read_answer⟩)
    (c_read_answer : PySem.W.codeIn K cd_read_answer "read_answer" = true)
    (k_read_answer : PySem.W.keepIn K (.ref f_read_answer) = true)
    (a_init : PySem.W.findIn K (.ref C) "__init__" = some (some (.ref f_init)))
    (i_init : PySem.W.isFn K (.ref f_init) = true)
    (l_init : K.lookup f_init = some ⟨oc_init, od_init, .func (PySem.W.fnOf "__init__" "PlainTransaction.__init__" (defArgs s_init) (defBody s_init) (defScope s_init) .none kV_init dc_init pm_init an_init cd_init ct_init), sl_init⟩)
    (c_init : PySem.W.codeIn K cd_init "PlainTransaction.__init__" = true)
    (k_init : PySem.W.keepIn K (.ref f_init) = true)
    (a_rows : PySem.W.findIn K (.ref C) "rows" = some (some (.ref f_rows)))
    (i_rows : PySem.W.isFn K (.ref f_rows) = true)
    (l_rows : K.lookup f_rows = some ⟨oc_rows, od_rows, .func (PySem.W.fnOf "rows" "PlainTransaction.rows" (defArgs s_rows) (defBody s_rows) (defScope s_rows) .none kV_rows dc_rows pm_rows an_rows cd_rows ct_rows), sl_rows⟩)
    (c_rows : PySem.W.codeIn K cd_rows "PlainTransaction.rows" = true)
    (k_rows : PySem.W.keepIn K (.ref f_rows) = true)
    (a_answer : PySem.W.findIn K (.ref C) "answer" = some (some (.ref f_answer)))
    (i_answer : PySem.W.isFn K (.ref f_answer) = true)
    (l_answer : K.lookup f_answer = some ⟨oc_answer, od_answer, .func (PySem.W.fnOf "answer" "PlainTransaction.answer" (defArgs s_answer) (defBody s_answer) (defScope s_answer) .none kV_answer dc_answer pm_answer an_answer cd_answer ct_answer), sl_answer⟩)
    (c_answer : PySem.W.codeIn K cd_answer "PlainTransaction.answer" = true)
    (k_answer : PySem.W.keepIn K (.ref f_answer) = true)
    (a_plain_answers : PySem.W.nsIn K mainGlobals "plain_answers" = some (some (.ref f_plain_answers)))
    (l_plain_answers : K.lookup f_plain_answers = some ⟨oc_plain_answers, od_plain_answers, .func (PySem.W.fnOf "plain_answers" "plain_answers" (defArgs s_plain_answers) (defBody s_plain_answers) (defScope s_plain_answers) .none kV_plain_answers dc_plain_answers pm_plain_answers an_plain_answers cd_plain_answers ct_plain_answers), sl_plain_answers⟩)
    (c_plain_answers : PySem.W.codeIn K cd_plain_answers "plain_answers" = true)
    (k_plain_answers : PySem.W.keepIn K (.ref f_plain_answers) = true)
    (a_same_answers : PySem.W.nsIn K mainGlobals "same_answers" = some (some (.ref f_same_answers)))
    (l_same_answers : K.lookup f_same_answers = some ⟨oc_same_answers, od_same_answers, .func (PySem.W.fnOf "same_answers" "same_answers" (defArgs s_same_answers) (defBody s_same_answers) (defScope s_same_answers) .none kV_same_answers dc_same_answers pm_same_answers an_same_answers cd_same_answers ct_same_answers), sl_same_answers⟩)
    (c_same_answers : PySem.W.codeIn K cd_same_answers "same_answers" = true)
    (k_same_answers : PySem.W.keepIn K (.ref f_same_answers) = true)
    (a_is_told_answer : PySem.W.nsIn K mainGlobals "is_told_answer" = some (some (.ref f_is_told_answer)))
    (l_is_told_answer : K.lookup f_is_told_answer = some ⟨oc_is_told_answer, od_is_told_answer, .func (PySem.W.fnOf "is_told_answer" "is_told_answer" (defArgs s_is_told_answer) (defBody s_is_told_answer) (defScope s_is_told_answer) .none kV_is_told_answer dc_is_told_answer pm_is_told_answer an_is_told_answer cd_is_told_answer ct_is_told_answer), sl_is_told_answer⟩)
    (c_is_told_answer : PySem.W.codeIn K cd_is_told_answer "is_told_answer" = true)
    (k_is_told_answer : PySem.W.keepIn K (.ref f_is_told_answer) = true)
    (a_are_inner : PySem.W.nsIn K mainGlobals "are_inner" = some (some (.ref f_are_inner)))
    (l_are_inner : K.lookup f_are_inner = some ⟨oc_are_inner, od_are_inner, .func (PySem.W.fnOf "are_inner" "are_inner" (defArgs s_are_inner) (defBody s_are_inner) (defScope s_are_inner) .none kV_are_inner dc_are_inner pm_are_inner an_are_inner cd_are_inner ct_are_inner), sl_are_inner⟩)
    (c_are_inner : PySem.W.codeIn K cd_are_inner "are_inner" = true)
    (k_are_inner : PySem.W.keepIn K (.ref f_are_inner) = true)
    (a_is_history_row : PySem.W.nsIn K mainGlobals "is_history_row" = some (some (.ref f_is_history_row)))
    (l_is_history_row : K.lookup f_is_history_row = some ⟨oc_is_history_row, od_is_history_row, .func (PySem.W.fnOf "is_history_row" "is_history_row" (defArgs s_is_history_row) (defBody s_is_history_row) (defScope s_is_history_row) .none kV_is_history_row dc_is_history_row pm_is_history_row an_is_history_row cd_is_history_row ct_is_history_row), sl_is_history_row⟩)
    (c_is_history_row : PySem.W.codeIn K cd_is_history_row "is_history_row" = true)
    (k_is_history_row : PySem.W.keepIn K (.ref f_is_history_row) = true)
    (a_is_history : PySem.W.nsIn K mainGlobals "is_history" = some (some (.ref f_is_history)))
    (l_is_history : K.lookup f_is_history = some ⟨oc_is_history, od_is_history, .func (PySem.W.fnOf "is_history" "is_history" (defArgs s_is_history) (defBody s_is_history) (defScope s_is_history) .none kV_is_history dc_is_history pm_is_history an_is_history cd_is_history ct_is_history), sl_is_history⟩)
    (c_is_history : PySem.W.codeIn K cd_is_history "is_history" = true)
    (k_is_history : PySem.W.keepIn K (.ref f_is_history) = true)
    (a_rows_by_order : PySem.W.nsIn K mainGlobals "rows_by_order" = some (some (.ref f_rows_by_order)))
    (l_rows_by_order : K.lookup f_rows_by_order = some ⟨oc_rows_by_order, od_rows_by_order, .func (PySem.W.fnOf "rows_by_order" "rows_by_order" (defArgs s_rows_by_order) (defBody s_rows_by_order) (defScope s_rows_by_order) .none kV_rows_by_order dc_rows_by_order pm_rows_by_order an_rows_by_order cd_rows_by_order ct_rows_by_order), sl_rows_by_order⟩)
    (c_rows_by_order : PySem.W.codeIn K cd_rows_by_order "rows_by_order" = true)
    (k_rows_by_order : PySem.W.keepIn K (.ref f_rows_by_order) = true)
    (a_fits_serial : PySem.W.nsIn K mainGlobals "fits_serial" = some (some (.ref f_fits_serial)))
    (l_fits_serial : K.lookup f_fits_serial = some ⟨oc_fits_serial, od_fits_serial, .func (PySem.W.fnOf "fits_serial" "fits_serial" (defArgs s_fits_serial) (defBody s_fits_serial) (defScope s_fits_serial) .none kV_fits_serial dc_fits_serial pm_fits_serial an_fits_serial cd_fits_serial ct_fits_serial), sl_fits_serial⟩)
    (c_fits_serial : PySem.W.codeIn K cd_fits_serial "fits_serial" = true)
    (k_fits_serial : PySem.W.keepIn K (.ref f_fits_serial) = true)
    (a_can_follow : PySem.W.nsIn K mainGlobals "can_follow" = some (some (.ref f_can_follow)))
    (l_can_follow : K.lookup f_can_follow = some ⟨oc_can_follow, od_can_follow, .func (PySem.W.fnOf "can_follow" "can_follow" (defArgs s_can_follow) (defBody s_can_follow) (defScope s_can_follow) .none kV_can_follow dc_can_follow pm_can_follow an_can_follow cd_can_follow ct_can_follow), sl_can_follow⟩)
    (c_can_follow : PySem.W.codeIn K cd_can_follow "can_follow" = true)
    (k_can_follow : PySem.W.keepIn K (.ref f_can_follow) = true)
    (a_followers : PySem.W.nsIn K mainGlobals "followers" = some (some (.ref f_followers)))
    (l_followers : K.lookup f_followers = some ⟨oc_followers, od_followers, .func (PySem.W.fnOf "followers" "followers" (defArgs s_followers) (defBody s_followers) (defScope s_followers) .none kV_followers dc_followers pm_followers an_followers cd_followers ct_followers), sl_followers⟩)
    (c_followers : PySem.W.codeIn K cd_followers "followers" = true)
    (k_followers : PySem.W.keepIn K (.ref f_followers) = true)
    (a_is_some_order : PySem.W.nsIn K mainGlobals "is_some_order" = some (some (.ref f_is_some_order)))
    (l_is_some_order : K.lookup f_is_some_order = some ⟨oc_is_some_order, od_is_some_order, .func (PySem.W.fnOf "is_some_order" "is_some_order" (defArgs s_is_some_order) (defBody s_is_some_order) (defScope s_is_some_order) .none kV_is_some_order dc_is_some_order pm_is_some_order an_is_some_order cd_is_some_order ct_is_some_order), sl_is_some_order⟩)
    (c_is_some_order : PySem.W.codeIn K cd_is_some_order "is_some_order" = true)
    (k_is_some_order : PySem.W.keepIn K (.ref f_is_some_order) = true)
    (a_is_explaining : PySem.W.nsIn K mainGlobals "is_explaining" = some (some (.ref f_is_explaining)))
    (l_is_explaining : K.lookup f_is_explaining = some ⟨oc_is_explaining, od_is_explaining, .func (PySem.W.fnOf "is_explaining" "is_explaining" (defArgs s_is_explaining) (defBody s_is_explaining) (defScope s_is_explaining) .none kV_is_explaining dc_is_explaining pm_is_explaining an_is_explaining cd_is_explaining ct_is_explaining), sl_is_explaining⟩)
    (c_is_explaining : PySem.W.codeIn K cd_is_explaining "is_explaining" = true)
    (k_is_explaining : PySem.W.keepIn K (.ref f_is_explaining) = true)
    (a_is_history_paper : PySem.W.nsIn K mainGlobals "is_history_paper" = some (some (.ref f_is_history_paper)))
    (l_is_history_paper : K.lookup f_is_history_paper = some ⟨oc_is_history_paper, od_is_history_paper, .func (PySem.W.fnOf "is_history_paper" "is_history_paper" (defArgs s_is_history_paper) (defBody s_is_history_paper) (defScope s_is_history_paper) .none kV_is_history_paper dc_is_history_paper pm_is_history_paper an_is_history_paper cd_is_history_paper ct_is_history_paper), sl_is_history_paper⟩)
    (c_is_history_paper : PySem.W.codeIn K cd_is_history_paper "is_history_paper" = true)
    (k_is_history_paper : PySem.W.keepIn K (.ref f_is_history_paper) = true)
    (a_is_course : PySem.W.nsIn K mainGlobals "is_course" = some (some (.ref f_is_course)))
    (l_is_course : K.lookup f_is_course = some ⟨oc_is_course, od_is_course, .func (PySem.W.fnOf "is_course" "is_course" (defArgs s_is_course) (defBody s_is_course) (defScope s_is_course) .none kV_is_course dc_is_course pm_is_course an_is_course cd_is_course ct_is_course), sl_is_course⟩)
    (c_is_course : PySem.W.codeIn K cd_is_course "is_course" = true)
    (k_is_course : PySem.W.keepIn K (.ref f_is_course) = true)
    (a_spans_of : PySem.W.nsIn K mainGlobals "spans_of" = some (some (.ref f_spans_of)))
    (l_spans_of : K.lookup f_spans_of = some ⟨oc_spans_of, od_spans_of, .func (PySem.W.fnOf "spans_of" "spans_of" (defArgs s_spans_of) (defBody s_spans_of) (defScope s_spans_of) .none kV_spans_of dc_spans_of pm_spans_of an_spans_of cd_spans_of ct_spans_of), sl_spans_of⟩)
    (c_spans_of : PySem.W.codeIn K cd_spans_of "spans_of" = true)
    (k_spans_of : PySem.W.keepIn K (.ref f_spans_of) = true)
    (a_bare_spans : PySem.W.nsIn K mainGlobals "bare_spans" = some (some (.ref f_bare_spans)))
    (l_bare_spans : K.lookup f_bare_spans = some ⟨oc_bare_spans, od_bare_spans, .func (PySem.W.fnOf "bare_spans" "bare_spans" (defArgs s_bare_spans) (defBody s_bare_spans) (defScope s_bare_spans) .none kV_bare_spans dc_bare_spans pm_bare_spans an_bare_spans cd_bare_spans ct_bare_spans), sl_bare_spans⟩)
    (c_bare_spans : PySem.W.codeIn K cd_bare_spans "bare_spans" = true)
    (k_bare_spans : PySem.W.keepIn K (.ref f_bare_spans) = true)
    (a_most_hits : PySem.W.nsIn K mainGlobals "most_hits" = some (some (.ref f_most_hits)))
    (l_most_hits : K.lookup f_most_hits = some ⟨oc_most_hits, od_most_hits, .func (PySem.W.fnOf "most_hits" "most_hits" (defArgs s_most_hits) (defBody s_most_hits) (defScope s_most_hits) .none kV_most_hits dc_most_hits pm_most_hits an_most_hits cd_most_hits ct_most_hits), sl_most_hits⟩)
    (c_most_hits : PySem.W.codeIn K cd_most_hits "most_hits" = true)
    (k_most_hits : PySem.W.keepIn K (.ref f_most_hits) = true)
    (a_is_course_paper : PySem.W.nsIn K mainGlobals "is_course_paper" = some (some (.ref f_is_course_paper)))
    (l_is_course_paper : K.lookup f_is_course_paper = some ⟨oc_is_course_paper, od_is_course_paper, .func (PySem.W.fnOf "is_course_paper" "is_course_paper" (defArgs s_is_course_paper) (defBody s_is_course_paper) (defScope s_is_course_paper) .none kV_is_course_paper dc_is_course_paper pm_is_course_paper an_is_course_paper cd_is_course_paper ct_is_course_paper), sl_is_course_paper⟩)
    (c_is_course_paper : PySem.W.codeIn K cd_is_course_paper "is_course_paper" = true)
    (k_is_course_paper : PySem.W.keepIn K (.ref f_is_course_paper) = true)
    (a_is_judged : PySem.W.nsIn K mainGlobals "is_judged" = some (some (.ref f_is_judged)))
    (l_is_judged : K.lookup f_is_judged = some ⟨oc_is_judged, od_is_judged, .func (PySem.W.fnOf "is_judged" "is_judged" (defArgs s_is_judged) (defBody s_is_judged) (defScope s_is_judged) .none kV_is_judged dc_is_judged pm_is_judged an_is_judged cd_is_judged ct_is_judged), sl_is_judged⟩)
    (c_is_judged : PySem.W.codeIn K cd_is_judged "is_judged" = true)
    (k_is_judged : PySem.W.keepIn K (.ref f_is_judged) = true)
    (a_is_framed : PySem.W.nsIn K mainGlobals "is_framed" = some (some (.ref f_is_framed)))
    (l_is_framed : K.lookup f_is_framed = some ⟨oc_is_framed, od_is_framed, .func (PySem.W.fnOf "is_framed" "is_framed" (defArgs s_is_framed) (defBody s_is_framed) (defScope s_is_framed) .none kV_is_framed dc_is_framed pm_is_framed an_is_framed cd_is_framed ct_is_framed), sl_is_framed⟩)
    (c_is_framed : PySem.W.codeIn K cd_is_framed "is_framed" = true)
    (k_is_framed : PySem.W.keepIn K (.ref f_is_framed) = true)
    (a_is_told_reads : PySem.W.nsIn K mainGlobals "is_told_reads" = some (some (.ref f_is_told_reads)))
    (l_is_told_reads : K.lookup f_is_told_reads = some ⟨oc_is_told_reads, od_is_told_reads, .func (PySem.W.fnOf "is_told_reads" "is_told_reads" (defArgs s_is_told_reads) (defBody s_is_told_reads) (defScope s_is_told_reads) .none kV_is_told_reads dc_is_told_reads pm_is_told_reads an_is_told_reads cd_is_told_reads ct_is_told_reads), sl_is_told_reads⟩)
    (c_is_told_reads : PySem.W.codeIn K cd_is_told_reads "is_told_reads" = true)
    (k_is_told_reads : PySem.W.keepIn K (.ref f_is_told_reads) = true)
    (a_has_word : PySem.W.nsIn K mainGlobals "has_word" = some (some (.ref f_has_word)))
    (l_has_word : K.lookup f_has_word = some ⟨oc_has_word, od_has_word, .func (PySem.W.fnOf "has_word" "has_word" (defArgs s_has_word) (defBody s_has_word) (defScope s_has_word) .none kV_has_word dc_has_word pm_has_word an_has_word cd_has_word ct_has_word), sl_has_word⟩)
    (c_has_word : PySem.W.codeIn K cd_has_word "has_word" = true)
    (k_has_word : PySem.W.keepIn K (.ref f_has_word) = true)
    (a_reads_with : PySem.W.nsIn K mainGlobals "reads_with" = some (some (.ref f_reads_with)))
    (l_reads_with : K.lookup f_reads_with = some ⟨oc_reads_with, od_reads_with, .func (PySem.W.fnOf "reads_with" "reads_with" (defArgs s_reads_with) (defBody s_reads_with) (defScope s_reads_with) .none kV_reads_with dc_reads_with pm_reads_with an_reads_with cd_reads_with ct_reads_with), sl_reads_with⟩)
    (c_reads_with : PySem.W.codeIn K cd_reads_with "reads_with" = true)
    (k_reads_with : PySem.W.keepIn K (.ref f_reads_with) = true)
    (a_are_pages_out : PySem.W.nsIn K mainGlobals "are_pages_out" = some (some (.ref f_are_pages_out)))
    (l_are_pages_out : K.lookup f_are_pages_out = some ⟨oc_are_pages_out, od_are_pages_out, .func (PySem.W.fnOf "are_pages_out" "are_pages_out" (defArgs s_are_pages_out) (defBody s_are_pages_out) (defScope s_are_pages_out) .none kV_are_pages_out dc_are_pages_out pm_are_pages_out an_are_pages_out cd_are_pages_out ct_are_pages_out), sl_are_pages_out⟩)
    (c_are_pages_out : PySem.W.codeIn K cd_are_pages_out "are_pages_out" = true)
    (k_are_pages_out : PySem.W.keepIn K (.ref f_are_pages_out) = true)
    (a_proves_reads : PySem.W.nsIn K mainGlobals "proves_reads" = some (some (.ref f_proves_reads)))
    (l_proves_reads : K.lookup f_proves_reads = some ⟨oc_proves_reads, od_proves_reads, .func (PySem.W.fnOf "proves_reads" "proves_reads" (defArgs s_proves_reads) (defBody s_proves_reads) (defScope s_proves_reads) .none kV_proves_reads dc_proves_reads pm_proves_reads an_proves_reads cd_proves_reads ct_proves_reads), sl_proves_reads⟩)
    (c_proves_reads : PySem.W.codeIn K cd_proves_reads "proves_reads" = true)
    (k_proves_reads : PySem.W.keepIn K (.ref f_proves_reads) = true)
    (a_load : PySem.W.nsIn K mainGlobals "_law_load" = some (some (.ref f_load)))
    (l_load : K.lookup f_load = some ⟨oc_load, od_load, .func (PySem.W.fnOf "_law_load" "_law_load" (defArgs s_load) (defBody s_load) (defScope s_load) .none kV_load dc_load pm_load an_load cd_load ct_load), sl_load⟩)
    (c_load : PySem.W.codeIn K cd_load "_law_load" = true)
    (k_load : PySem.W.keepIn K (.ref f_load) = true)
    (a_draw : PySem.W.nsIn K mainGlobals "_law_draw" = some (some (.ref f_draw)))
    (l_draw : K.lookup f_draw = some ⟨oc_draw, od_draw, .func (PySem.W.fnOf "_law_draw" "_law_draw" (defArgs s_draw) (defBody s_draw) (defScope s_draw) .none kV_draw dc_draw pm_draw an_draw cd_draw ct_draw), sl_draw⟩)
    (c_draw : PySem.W.codeIn K cd_draw "_law_draw" = true)
    (k_draw : PySem.W.keepIn K (.ref f_draw) = true)
    (a_box : PySem.W.nsIn K mainGlobals "_law_box" = some (some (.ref f_box)))
    (l_box : K.lookup f_box = some ⟨oc_box, od_box, .func (PySem.W.fnOf "_law_box" "_law_box" (defArgs s_box) (defBody s_box) (defScope s_box) .none kV_box dc_box pm_box an_box cd_box ct_box), sl_box⟩)
    (c_box : PySem.W.codeIn K cd_box "_law_box" = true)
    (k_box : PySem.W.keepIn K (.ref f_box) = true)
    (a_is_claim : PySem.W.nsIn K mainGlobals "is_claim" = some (some (.ref f_is_claim)))
    (l_is_claim : K.lookup f_is_claim = some ⟨oc_is_claim, od_is_claim, .func (PySem.W.fnOf "is_claim" "is_claim" (defArgs s_is_claim) (defBody s_is_claim) (defScope s_is_claim) .none kV_is_claim dc_is_claim pm_is_claim an_is_claim cd_is_claim ct_is_claim), sl_is_claim⟩)
    (c_is_claim : PySem.W.codeIn K cd_is_claim "is_claim" = true)
    (k_is_claim : PySem.W.keepIn K (.ref f_is_claim) = true)
    (a_is_question : PySem.W.nsIn K mainGlobals "is_question" = some (some (.ref f_is_question)))
    (l_is_question : K.lookup f_is_question = some ⟨oc_is_question, od_is_question, .func (PySem.W.fnOf "is_question" "is_question" (defArgs s_is_question) (defBody s_is_question) (defScope s_is_question) .none kV_is_question dc_is_question pm_is_question an_is_question cd_is_question ct_is_question), sl_is_question⟩)
    (c_is_question : PySem.W.codeIn K cd_is_question "is_question" = true)
    (k_is_question : PySem.W.keepIn K (.ref f_is_question) = true)
    (a_proves : PySem.W.nsIn K mainGlobals "proves" = some (some (.ref f_proves)))
    (l_proves : K.lookup f_proves = some ⟨oc_proves, od_proves, .func (PySem.W.fnOf "proves" "proves" (defArgs s_proves) (defBody s_proves) (defScope s_proves) .none kV_proves dc_proves pm_proves an_proves cd_proves ct_proves), sl_proves⟩)
    (c_proves : PySem.W.codeIn K cd_proves "proves" = true)
    (k_proves : PySem.W.keepIn K (.ref f_proves) = true)
    (a__law_same : PySem.W.nsIn K mainGlobals "_law_same" = some (some (.ref f__law_same)))
    (l__law_same : K.lookup f__law_same = some ⟨oc__law_same, od__law_same, .func (PySem.W.fnOf "_law_same" "_law_same" (defArgs s__law_same) (defBody s__law_same) (defScope s__law_same) .none kV__law_same dc__law_same pm__law_same an__law_same cd__law_same ct__law_same), sl__law_same⟩)
    (c__law_same : PySem.W.codeIn K cd__law_same "_law_same" = true)
    (k__law_same : PySem.W.keepIn K (.ref f__law_same) = true)
    (a__law_history : PySem.W.nsIn K mainGlobals "_law_history" = some (some (.ref f__law_history)))
    (l__law_history : K.lookup f__law_history = some ⟨oc__law_history, od__law_history, .func (PySem.W.fnOf "_law_history" "_law_history" (defArgs s__law_history) (defBody s__law_history) (defScope s__law_history) .none kV__law_history dc__law_history pm__law_history an__law_history cd__law_history ct__law_history), sl__law_history⟩)
    (c__law_history : PySem.W.codeIn K cd__law_history "_law_history" = true)
    (k__law_history : PySem.W.keepIn K (.ref f__law_history) = true)
    (a__law_odd : PySem.W.nsIn K mainGlobals "_law_odd" = some (some (.ref f__law_odd)))
    (l__law_odd : K.lookup f__law_odd = some ⟨oc__law_odd, od__law_odd, .func (PySem.W.fnOf "_law_odd" "_law_odd" (defArgs s__law_odd) (defBody s__law_odd) (defScope s__law_odd) .none kV__law_odd dc__law_odd pm__law_odd an__law_odd cd__law_odd ct__law_odd), sl__law_odd⟩)
    (c__law_odd : PySem.W.codeIn K cd__law_odd "_law_odd" = true)
    (k__law_odd : PySem.W.keepIn K (.ref f__law_odd) = true)
    (a__law_kinds : PySem.W.nsIn K mainGlobals "_law_kinds" = some (some (.ref f__law_kinds)))
    (l__law_kinds : K.lookup f__law_kinds = some ⟨oc__law_kinds, od__law_kinds, .func (PySem.W.fnOf "_law_kinds" "_law_kinds" (defArgs s__law_kinds) (defBody s__law_kinds) (defScope s__law_kinds) .none kV__law_kinds dc__law_kinds pm__law_kinds an__law_kinds cd__law_kinds ct__law_kinds), sl__law_kinds⟩)
    (c__law_kinds : PySem.W.codeIn K cd__law_kinds "_law_kinds" = true)
    (k__law_kinds : PySem.W.keepIn K (.ref f__law_kinds) = true)
    (a__law_good : PySem.W.nsIn K mainGlobals "_law_good" = some (some (.ref f__law_good)))
    (l__law_good : K.lookup f__law_good = some ⟨oc__law_good, od__law_good, .func (PySem.W.fnOf "_law_good" "_law_good" (defArgs s__law_good) (defBody s__law_good) (defScope s__law_good) .none kV__law_good dc__law_good pm__law_good an__law_good cd__law_good ct__law_good), sl__law_good⟩)
    (c__law_good : PySem.W.codeIn K cd__law_good "_law_good" = true)
    (k__law_good : PySem.W.keepIn K (.ref f__law_good) = true)
    (a__law_bad : PySem.W.nsIn K mainGlobals "_law_bad" = some (some (.ref f__law_bad)))
    (l__law_bad : K.lookup f__law_bad = some ⟨oc__law_bad, od__law_bad, .func (PySem.W.fnOf "_law_bad" "_law_bad" (defArgs s__law_bad) (defBody s__law_bad) (defScope s__law_bad) .none kV__law_bad dc__law_bad pm__law_bad an__law_bad cd__law_bad ct__law_bad), sl__law_bad⟩)
    (c__law_bad : PySem.W.codeIn K cd__law_bad "_law_bad" = true)
    (k__law_bad : PySem.W.keepIn K (.ref f__law_bad) = true)
    (a__law_rows : PySem.W.nsIn K mainGlobals "_law_rows" = some (some (.ref f__law_rows)))
    (l__law_rows : K.lookup f__law_rows = some ⟨oc__law_rows, od__law_rows, .func (PySem.W.fnOf "_law_rows" "_law_rows" (defArgs s__law_rows) (defBody s__law_rows) (defScope s__law_rows) .none kV__law_rows dc__law_rows pm__law_rows an__law_rows cd__law_rows ct__law_rows), sl__law_rows⟩)
    (c__law_rows : PySem.W.codeIn K cd__law_rows "_law_rows" = true)
    (k__law_rows : PySem.W.keepIn K (.ref f__law_rows) = true)
    (a_law : PySem.W.nsIn K mainGlobals "law" = some (some (.ref f_law)))
    (l_law : K.lookup f_law = some ⟨oc_law, od_law, .func (PySem.W.fnOf "law" "law" (defArgs s_law) (defBody s_law) (defScope s_law) .none kV_law dc_law pm_law an_law cd_law ct_law), sl_law⟩)
    (c_law : PySem.W.codeIn K cd_law "law" = true)
    (k_law : PySem.W.keepIn K (.ref f_law) = true)
    (pg : PySem.W.plainGet K C Str.empty = true)
    (hd : PySem.W.hasDictIn K C = true)
    (po : PySem.W.plainOver K C = true)
    (sa : PySem.W.findIn K (.ref C) "__setattr__" = some (some (.builtin "object.__setattr__")))
    (mk : PySem.W.makesIn K C = true)
    (kc : PySem.W.keepIn K (.ref C) = true)
    (nR : PySem.W.findIn K (.ref C) "_rows" = some none)
    (nS : PySem.W.findIn K (.ref C) "_saved" = some none)
    (z_isinstance : PySem.W.nsIn K mainGlobals "isinstance" = some none)
    (z_int : PySem.W.nsIn K mainGlobals "int" = some none)
    (z_bool : PySem.W.nsIn K mainGlobals "bool" = some none)
    (z_str : PySem.W.nsIn K mainGlobals "str" = some none)
    (z_tuple : PySem.W.nsIn K mainGlobals "tuple" = some none)
    (z_list : PySem.W.nsIn K mainGlobals "list" = some none)
    (z_len : PySem.W.nsIn K mainGlobals "len" = some none)
    (z_all : PySem.W.nsIn K mainGlobals "all" = some none)
    (z_any : PySem.W.nsIn K mainGlobals "any" = some none)
    (z_sum : PySem.W.nsIn K mainGlobals "sum" = some none)
    (z_range : PySem.W.nsIn K mainGlobals "range" = some none)
    (z_zip : PySem.W.nsIn K mainGlobals "zip" = some none)
    (z_enumerate : PySem.W.nsIn K mainGlobals "enumerate" = some none)
    (z_sorted : PySem.W.nsIn K mainGlobals "sorted" = some none)
    (z_set : PySem.W.nsIn K mainGlobals "set" = some none)
    (g_MOST_KEY : PySem.W.nsIn K mainGlobals "MOST_KEY" = some (some (.int 12 t_MOST_KEY)))
    (g_MOST_VALUE : PySem.W.nsIn K mainGlobals "MOST_VALUE" = some (some (.int 200 t_MOST_VALUE)))
    (g_MOST_MANY : PySem.W.nsIn K mainGlobals "MOST_MANY" = some (some (.int 200 t_MOST_MANY)))
    (g_MOST_JUDGED : PySem.W.nsIn K mainGlobals "MOST_JUDGED" = some (some (.int 7 t_MOST_JUDGED)))
    (g_GREATEST_TIME : PySem.W.nsIn K mainGlobals "GREATEST_TIME" = some (some (.int 1000000000 t_GREATEST_TIME)))
    (g_MOST_COURSE : PySem.W.nsIn K mainGlobals "MOST_COURSE" = some (some (.int 120 t_MOST_COURSE)))
    (g_GREATEST_PAGE_NUMBER : PySem.W.nsIn K mainGlobals "GREATEST_PAGE_NUMBER" = some (some (.int 1000000000 t_GREATEST_PAGE_NUMBER)))
    (g_MOST_FRAMES : PySem.W.nsIn K mainGlobals "MOST_FRAMES" = some (some (.int 1000 t_MOST_FRAMES)))
    (g_SIGNS : PySem.W.nsIn K mainGlobals "SIGNS" = some (some (.str z_signs t_SIGNS)))
    (e_SIGNS : z_signs = "abcdefghijklmnopqrstuvwxyz0123456789-")
    (g_DEGREES : PySem.W.nsIn K mainGlobals "DEGREES" = some (some (.ref u_DEGREES)))
    (u_DEGREES_l : K.lookup u_DEGREES = some o_DEGREES)
    (u_DEGREES_c : o_DEGREES.cls = .type "tuple")
    (u_DEGREES_d : o_DEGREES.data = .seq its_DEGREES m_DEGREES)
    (u_DEGREES_i : its_DEGREES.toList = [.str "serial" ta_DEGREES, .str "snapshot" tb_DEGREES])
    (g_KINDS : PySem.W.nsIn K mainGlobals "KINDS" = some (some (.ref u_KINDS)))
    (u_KINDS_l : K.lookup u_KINDS = some o_KINDS)
    (u_KINDS_c : o_KINDS.cls = .type "tuple")
    (u_KINDS_d : o_KINDS.data = .seq its_KINDS m_KINDS)
    (u_KINDS_i : its_KINDS.toList = [.str "done" ta_KINDS, .str "undone" tb_KINDS])
    (g_FORMS : PySem.W.nsIn K mainGlobals "FORMS" = some (some (.ref u_FORMS)))
    (l_FORMS : K.lookup u_FORMS = some ⟨.type "dict", none, .dict es_FORMS n_FORMS, #[]⟩)
    (q_FORMS : PySem.W.KeysLit w.params es_FORMS.toList)
    (w_FORMS : (u_FORMS == sysModules) = false)
    (h0_FORMS : PySem.W.nsIn K u_FORMS "explained" = some (some (.ref f_is_judged)))
    (h1_FORMS : PySem.W.nsIn K u_FORMS "unexplained" = some (some (.ref f_is_judged)))
    (h2_FORMS : PySem.W.nsIn K u_FORMS "never fewer" = some (some (.ref f_is_told_reads)))
    (h3_FORMS : PySem.W.nsIn K u_FORMS "can be read" = some (some (.ref f_is_told_reads)))
    (m0_FORMS : PySem.W.nsIn K u_FORMS "explainedz" = some none)
    (m1_FORMS : PySem.W.nsIn K u_FORMS "unexplainedz" = some none)
    (m2_FORMS : PySem.W.nsIn K u_FORMS "never fewerz" = some none)
    (m3_FORMS : PySem.W.nsIn K u_FORMS "can be readz" = some none)
    (g_ASKED : PySem.W.nsIn K mainGlobals "ASKED" = some (some (.ref u_ASKED)))
    (l_ASKED : K.lookup u_ASKED = some ⟨.type "dict", none, .dict es_ASKED n_ASKED, #[]⟩)
    (q_ASKED : PySem.W.KeysLit w.params es_ASKED.toList)
    (w_ASKED : (u_ASKED == sysModules) = false)
    (h0_ASKED : PySem.W.nsIn K u_ASKED "explain" = some (some (.ref f_is_judged)))
    (h1_ASKED : PySem.W.nsIn K u_ASKED "fewest" = some (some (.ref f_is_framed)))
    (h2_ASKED : PySem.W.nsIn K u_ASKED "read" = some (some (.ref f_is_framed)))
    (m0_ASKED : PySem.W.nsIn K u_ASKED "explainz" = some none)
    (m1_ASKED : PySem.W.nsIn K u_ASKED "fewestz" = some none)
    (m2_ASKED : PySem.W.nsIn K u_ASKED "readz" = some none)
    : ∃ fd : FuncData, (∀ (s : Shared) (v : Value), BindsTo s fd ⟨[v], []⟩ [("script", v)]) ∧ ∀ base : Heap, K.In base → base.Ns mainGlobals mg → FnOk l.prog w K mg base CX0 16 fa fd ["script"] (spLaw K) := by
  have e := hfa.symm.trans (PySem.W.mg_of X G a_law)
  cases e
  have T : Txt K mg := ⟨PySem.W.mg_none_of X G z_isinstance, PySem.W.mg_none_of X G z_int, PySem.W.mg_none_of X G z_bool, PySem.W.mg_none_of X G z_str, PySem.W.mg_none_of X G z_tuple, PySem.W.mg_none_of X G z_list, PySem.W.mg_none_of X G z_len, PySem.W.mg_none_of X G z_all, PySem.W.mg_none_of X G z_any, PySem.W.mg_none_of X G z_sum, PySem.W.mg_none_of X G z_tuple, PySem.W.mg_none_of X G z_list, PySem.W.mg_none_of X G z_range, PySem.W.mg_none_of X G z_zip, PySem.W.mg_none_of X G z_enumerate, PySem.W.mg_none_of X G z_sorted, PySem.W.mg_none_of X G z_set⟩
  have TC : TxtC K mg C := ⟨⟨pg, hd, po, sa⟩, nR, nS, PySem.W.mg_of X G aC⟩
  have g_MOST_KEY : GC K mg "MOST_KEY" d_MOST_KEY := gc_int X G g_MOST_KEY
  have g_MOST_VALUE : GC K mg "MOST_VALUE" d_MOST_VALUE := gc_int X G g_MOST_VALUE
  have g_MOST_MANY : GC K mg "MOST_MANY" d_MOST_MANY := gc_int X G g_MOST_MANY
  have g_MOST_JUDGED : GC K mg "MOST_JUDGED" d_MOST_JUDGED := gc_int X G g_MOST_JUDGED
  have g_GREATEST_TIME : GC K mg "GREATEST_TIME" d_GREATEST_TIME := gc_int X G g_GREATEST_TIME
  have g_MOST_COURSE : GC K mg "MOST_COURSE" d_MOST_COURSE := gc_int X G g_MOST_COURSE
  have g_GREATEST_PAGE_NUMBER : GC K mg "GREATEST_PAGE_NUMBER" d_GREATEST_PAGE_NUMBER := gc_int X G g_GREATEST_PAGE_NUMBER
  have g_MOST_FRAMES : GC K mg "MOST_FRAMES" d_MOST_FRAMES := gc_int X G g_MOST_FRAMES
  have g_SIGNS : GC K mg "SIGNS" d_SIGNS := by subst e_SIGNS; exact gc_str X G g_SIGNS
  have g_DEGREES : GC K mg "DEGREES" d_DEGREES := gc_tup2 X G g_DEGREES u_DEGREES_l u_DEGREES_c u_DEGREES_d u_DEGREES_i
  have g_KINDS : GC K mg "KINDS" d_KINDS := gc_tup2 X G g_KINDS u_KINDS_l u_KINDS_c u_KINDS_d u_KINDS_i
  have F_is_whole := fun_mk (st := s_is_whole) l_is_whole c_is_whole k_is_whole
  have b_is_whole := F_is_whole.binds (ps := ["value"]) fun _ _ _ _ _ _ us hl => match us, hl with | [_], _ => rfl
  have F_is_number := fun_mk (st := s_is_number) l_is_number c_is_number k_is_number
  have b_is_number := F_is_number.binds (ps := ["value", "least", "most"]) fun _ _ _ _ _ _ us hl => match us, hl with | [_, _, _], _ => rfl
  have F_is_ascending := fun_mk (st := s_is_ascending) l_is_ascending c_is_ascending k_is_ascending
  have b_is_ascending := F_is_ascending.binds (ps := ["rows"]) fun _ _ _ _ _ _ us hl => match us, hl with | [_], _ => rfl
  have F_are_signs := fun_mk (st := s_are_signs) l_are_signs c_are_signs k_are_signs
  have b_are_signs := F_are_signs.binds (ps := ["value"]) fun _ _ _ _ _ _ us hl => match us, hl with | [_], _ => rfl
  have F_is_key := fun_mk (st := s_is_key) l_is_key c_is_key k_is_key
  have b_is_key := F_is_key.binds (ps := ["value"]) fun _ _ _ _ _ _ us hl => match us, hl with | [_], _ => rfl
  have F_is_stored := fun_mk (st := s_is_stored) l_is_stored c_is_stored k_is_stored
  have b_is_stored := F_is_stored.binds (ps := ["value"]) fun _ _ _ _ _ _ us hl => match us, hl with | [_], _ => rfl
  have F_is_read := fun_mk (st := s_is_read) l_is_read c_is_read k_is_read
  have b_is_read := F_is_read.binds (ps := ["value"]) fun _ _ _ _ _ _ us hl => match us, hl with | [_], _ => rfl
  have F_is_write := fun_mk (st := s_is_write) l_is_write c_is_write k_is_write
  have b_is_write := F_is_write.binds (ps := ["value"]) fun _ _ _ _ _ _ us hl => match us, hl with | [_], _ => rfl
  have F_keys_changed := fun_mk (st := s_keys_changed) l_keys_changed c_keys_changed k_keys_changed
  have b_keys_changed := F_keys_changed.binds (ps := ["statements"]) fun _ _ _ _ _ _ us hl => match us, hl with | [_], _ => rfl
  have F_value_in := fun_mk (st := s_value_in) l_value_in c_value_in k_value_in
  have b_value_in := F_value_in.binds (ps := ["rows", "key"]) fun _ _ _ _ _ _ us hl => match us, hl with | [_, _], _ => rfl
  have F_with_value := fun_mk (st := s_with_value) l_with_value c_with_value k_with_value
  have b_with_value := F_with_value.binds (ps := ["rows", "key", "value"]) fun _ _ _ _ _ _ us hl => match us, hl with | [_, _, _], _ => rfl
  have F_read_answer := fun_mk (st := s_read_answer) l_read_answer c_read_answer k_read_answer
  have b_read_answer := F_read_answer.binds (ps := ["rows", "statement"]) fun _ _ _ _ _ _ us hl => match us, hl with | [_, _], _ => rfl
  have F_init := fun_mk (st := s_init) l_init c_init k_init
  have b_init := F_init.binds (ps := ["self", "rows"]) fun _ _ _ _ _ _ us hl => match us, hl with | [_, _], _ => rfl
  have F_rows := fun_mk (st := s_rows) l_rows c_rows k_rows
  have b_rows := F_rows.binds (ps := ["self"]) fun _ _ _ _ _ _ us hl => match us, hl with | [_], _ => rfl
  have F_answer := fun_mk (st := s_answer) l_answer c_answer k_answer
  have b_answer := F_answer.binds (ps := ["self", "statement"]) fun _ _ _ _ _ _ us hl => match us, hl with | [_, _], _ => rfl
  have F_plain_answers := fun_mk (st := s_plain_answers) l_plain_answers c_plain_answers k_plain_answers
  have b_plain_answers := F_plain_answers.binds (ps := ["rows", "statements"]) fun _ _ _ _ _ _ us hl => match us, hl with | [_, _], _ => rfl
  have F_same_answers := fun_mk (st := s_same_answers) l_same_answers c_same_answers k_same_answers
  have b_same_answers := F_same_answers.binds (ps := ["one", "other"]) fun _ _ _ _ _ _ us hl => match us, hl with | [_, _], _ => rfl
  have F_is_told_answer := fun_mk (st := s_is_told_answer) l_is_told_answer c_is_told_answer k_is_told_answer
  have b_is_told_answer := F_is_told_answer.binds (ps := ["value"]) fun _ _ _ _ _ _ us hl => match us, hl with | [_], _ => rfl
  have F_are_inner := fun_mk (st := s_are_inner) l_are_inner c_are_inner k_are_inner
  have b_are_inner := F_are_inner.binds (ps := ["value"]) fun _ _ _ _ _ _ us hl => match us, hl with | [_], _ => rfl
  have F_is_history_row := fun_mk (st := s_is_history_row) l_is_history_row c_is_history_row k_is_history_row
  have b_is_history_row := F_is_history_row.binds (ps := ["value"]) fun _ _ _ _ _ _ us hl => match us, hl with | [_], _ => rfl
  have F_is_history := fun_mk (st := s_is_history) l_is_history c_is_history k_is_history
  have b_is_history := F_is_history.binds (ps := ["value"]) fun _ _ _ _ _ _ us hl => match us, hl with | [_], _ => rfl
  have F_rows_by_order := fun_mk (st := s_rows_by_order) l_rows_by_order c_rows_by_order k_rows_by_order
  have b_rows_by_order := F_rows_by_order.binds (ps := ["history", "order"]) fun _ _ _ _ _ _ us hl => match us, hl with | [_, _], _ => rfl
  have F_fits_serial := fun_mk (st := s_fits_serial) l_fits_serial c_fits_serial k_fits_serial
  have b_fits_serial := F_fits_serial.binds (ps := ["row", "rows"]) fun _ _ _ _ _ _ us hl => match us, hl with | [_, _], _ => rfl
  have F_can_follow := fun_mk (st := s_can_follow) l_can_follow c_can_follow k_can_follow
  have b_can_follow := F_can_follow.binds (ps := ["history", "order", "j"]) fun _ _ _ _ _ _ us hl => match us, hl with | [_, _, _], _ => rfl
  have F_followers := fun_mk (st := s_followers) l_followers c_followers k_followers
  have b_followers := F_followers.binds (ps := ["history", "order"]) fun _ _ _ _ _ _ us hl => match us, hl with | [_, _], _ => rfl
  have F_is_some_order := fun_mk (st := s_is_some_order) l_is_some_order c_is_some_order k_is_some_order
  have b_is_some_order := F_is_some_order.binds (ps := ["history", "value"]) fun _ _ _ _ _ _ us hl => match us, hl with | [_, _], _ => rfl
  have F_is_explaining := fun_mk (st := s_is_explaining) l_is_explaining c_is_explaining k_is_explaining
  have b_is_explaining := F_is_explaining.binds (ps := ["history", "value"]) fun _ _ _ _ _ _ us hl => match us, hl with | [_, _], _ => rfl
  have F_is_history_paper := fun_mk (st := s_is_history_paper) l_is_history_paper c_is_history_paper k_is_history_paper
  have b_is_history_paper := F_is_history_paper.binds (ps := ["history", "value"]) fun _ _ _ _ _ _ us hl => match us, hl with | [_, _], _ => rfl
  have F_is_course := fun_mk (st := s_is_course) l_is_course c_is_course k_is_course
  have b_is_course := F_is_course.binds (ps := ["value"]) fun _ _ _ _ _ _ us hl => match us, hl with | [_], _ => rfl
  have F_spans_of := fun_mk (st := s_spans_of) l_spans_of c_spans_of k_spans_of
  have b_spans_of := F_spans_of.binds (ps := ["course"]) fun _ _ _ _ _ _ us hl => match us, hl with | [_], _ => rfl
  have F_bare_spans := fun_mk (st := s_bare_spans) l_bare_spans c_bare_spans k_bare_spans
  have b_bare_spans := F_bare_spans.binds (ps := ["spans", "begin", "end"]) fun _ _ _ _ _ _ us hl => match us, hl with | [_, _, _], _ => rfl
  have F_most_hits := fun_mk (st := s_most_hits) l_most_hits c_most_hits k_most_hits
  have b_most_hits := F_most_hits.binds (ps := ["frames", "course", "places"]) fun _ _ _ _ _ _ us hl => match us, hl with | [_, _, _], _ => rfl
  have F_is_course_paper := fun_mk (st := s_is_course_paper) l_is_course_paper c_is_course_paper k_is_course_paper
  have b_is_course_paper := F_is_course_paper.binds (ps := ["frames", "course", "reads", "value"]) fun _ _ _ _ _ _ us hl => match us, hl with | [_, _, _, _], _ => rfl
  have F_is_judged := fun_mk (st := s_is_judged) l_is_judged c_is_judged k_is_judged
  have b_is_judged := F_is_judged.binds (ps := ["parts"]) fun _ _ _ _ _ _ us hl => match us, hl with | [_], _ => rfl
  have F_is_framed := fun_mk (st := s_is_framed) l_is_framed c_is_framed k_is_framed
  have b_is_framed := F_is_framed.binds (ps := ["parts"]) fun _ _ _ _ _ _ us hl => match us, hl with | [_], _ => rfl
  have F_is_told_reads := fun_mk (st := s_is_told_reads) l_is_told_reads c_is_told_reads k_is_told_reads
  have b_is_told_reads := F_is_told_reads.binds (ps := ["parts"]) fun _ _ _ _ _ _ us hl => match us, hl with | [_], _ => rfl
  have F_has_word := fun_mk (st := s_has_word) l_has_word c_has_word k_has_word
  have b_has_word := F_has_word.binds (ps := ["value"]) fun _ _ _ _ _ _ us hl => match us, hl with | [_], _ => rfl
  have F_reads_with := fun_mk (st := s_reads_with) l_reads_with c_reads_with k_reads_with
  have b_reads_with := F_reads_with.binds (ps := ["frames", "course", "goes"]) fun _ _ _ _ _ _ us hl => match us, hl with | [_, _, _], _ => rfl
  have F_are_pages_out := fun_mk (st := s_are_pages_out) l_are_pages_out c_are_pages_out k_are_pages_out
  have b_are_pages_out := F_are_pages_out.binds (ps := ["value"]) fun _ _ _ _ _ _ us hl => match us, hl with | [_], _ => rfl
  have F_proves_reads := fun_mk (st := s_proves_reads) l_proves_reads c_proves_reads k_proves_reads
  have b_proves_reads := F_proves_reads.binds (ps := ["frames", "course", "reads", "paper"]) fun _ _ _ _ _ _ us hl => match us, hl with | [_, _, _, _], _ => rfl
  have F_load := fun_mk (st := s_load) l_load c_load k_load
  have b_load := F_load.binds (ps := ["box"]) fun _ _ _ _ _ _ us hl => match us, hl with | [_], _ => rfl
  have F_draw := fun_mk (st := s_draw) l_draw c_draw k_draw
  have b_draw := F_draw.binds (ps := ["box", "many"]) fun _ _ _ _ _ _ us hl => match us, hl with | [_, _], _ => rfl
  have F_box := fun_mk (st := s_box) l_box c_box k_box
  have b_box := F_box.binds (ps := ["script"]) fun _ _ _ _ _ _ us hl => match us, hl with | [_], _ => rfl
  have F_is_claim := fun_mk (st := s_is_claim) l_is_claim c_is_claim k_is_claim
  have b_is_claim := F_is_claim.binds (ps := ["value"]) fun _ _ _ _ _ _ us hl => match us, hl with | [_], _ => rfl
  have F_is_question := fun_mk (st := s_is_question) l_is_question c_is_question k_is_question
  have b_is_question := F_is_question.binds (ps := ["value"]) fun _ _ _ _ _ _ us hl => match us, hl with | [_], _ => rfl
  have F_proves := fun_mk (st := s_proves) l_proves c_proves k_proves
  have b_proves := F_proves.binds (ps := ["claim", "paper"]) fun _ _ _ _ _ _ us hl => match us, hl with | [_, _], _ => rfl
  have F__law_same := fun_mk (st := s__law_same) l__law_same c__law_same k__law_same
  have b__law_same := F__law_same.binds (ps := ["a", "b"]) fun _ _ _ _ _ _ us hl => match us, hl with | [_, _], _ => rfl
  have F__law_history := fun_mk (st := s__law_history) l__law_history c__law_history k__law_history
  have b__law_history := F__law_history.binds (ps := []) fun _ _ _ _ _ _ us hl => match us, hl with | [], _ => rfl
  have F__law_odd := fun_mk (st := s__law_odd) l__law_odd c__law_odd k__law_odd
  have b__law_odd := F__law_odd.binds (ps := []) fun _ _ _ _ _ _ us hl => match us, hl with | [], _ => rfl
  have F__law_kinds := fun_mk (st := s__law_kinds) l__law_kinds c__law_kinds k__law_kinds
  have b__law_kinds := F__law_kinds.binds (ps := []) fun _ _ _ _ _ _ us hl => match us, hl with | [], _ => rfl
  have F__law_good := fun_mk (st := s__law_good) l__law_good c__law_good k__law_good
  have b__law_good := F__law_good.binds (ps := []) fun _ _ _ _ _ _ us hl => match us, hl with | [], _ => rfl
  have F__law_bad := fun_mk (st := s__law_bad) l__law_bad c__law_bad k__law_bad
  have b__law_bad := F__law_bad.binds (ps := []) fun _ _ _ _ _ _ us hl => match us, hl with | [], _ => rfl
  have F__law_rows := fun_mk (st := s__law_rows) l__law_rows c__law_rows k__law_rows
  have b__law_rows := F__law_rows.binds (ps := []) fun _ _ _ _ _ _ us hl => match us, hl with | [], _ => rfl
  have F_law := fun_mk (st := s_law) l_law c_law k_law
  have b_law := F_law.binds (ps := ["script"]) fun _ _ _ _ _ _ us hl => match us, hl with | [_], _ => rfl
  refine ⟨PySem.W.fnOf "law" "law" (defArgs s_law) (defBody s_law) (defScope s_law) .none kV_law dc_law pm_law an_law cd_law ct_law, fun s v => .of_eq rfl, fun base _ _ => ?_⟩
  have G_is_whole := ok_is_whole (P := l.prog) (w := w) (base := base) F_is_whole T 
  have c_is_whole := cal_of G_is_whole (PySem.W.mg_of X G a_is_whole) k_is_whole b_is_whole
  have G_is_number := ok_is_number (P := l.prog) (w := w) (base := base) F_is_number T 
  have c_is_number := cal_of G_is_number (PySem.W.mg_of X G a_is_number) k_is_number b_is_number
  have G_is_ascending := ok_is_ascending (P := l.prog) (w := w) (base := base) F_is_ascending T 
  have c_is_ascending := cal_of G_is_ascending (PySem.W.mg_of X G a_is_ascending) k_is_ascending b_is_ascending
  have G_are_signs := ok_are_signs (P := l.prog) (w := w) (base := base) F_are_signs T g_SIGNS
  have c_are_signs := cal_of G_are_signs (PySem.W.mg_of X G a_are_signs) k_are_signs b_are_signs
  have G_is_key := ok_is_key (P := l.prog) (w := w) (base := base) F_is_key T g_MOST_KEY c_are_signs
  have c_is_key := cal_of G_is_key (PySem.W.mg_of X G a_is_key) k_is_key b_is_key
  have G_is_stored := ok_is_stored (P := l.prog) (w := w) (base := base) F_is_stored T g_MOST_VALUE c_are_signs
  have c_is_stored := cal_of G_is_stored (PySem.W.mg_of X G a_is_stored) k_is_stored b_is_stored
  have G_is_read := ok_is_read (P := l.prog) (w := w) (base := base) F_is_read T g_MOST_MANY c_is_key c_is_number
  have c_is_read := cal_of G_is_read (PySem.W.mg_of X G a_is_read) k_is_read b_is_read
  have G_is_write := ok_is_write (P := l.prog) (w := w) (base := base) F_is_write T c_is_key c_is_stored
  have c_is_write := cal_of G_is_write (PySem.W.mg_of X G a_is_write) k_is_write b_is_write
  have G_keys_changed := ok_keys_changed (P := l.prog) (w := w) (base := base) F_keys_changed T 
  have c_keys_changed := cal_of G_keys_changed (PySem.W.mg_of X G a_keys_changed) k_keys_changed b_keys_changed
  have G_value_in := ok_value_in (P := l.prog) (w := w) (base := base) F_value_in T 
  have c_value_in := cal_of G_value_in (PySem.W.mg_of X G a_value_in) k_value_in b_value_in
  have G_with_value := ok_with_value (P := l.prog) (w := w) (base := base) F_with_value T 
  have c_with_value := cal_of G_with_value (PySem.W.mg_of X G a_with_value) k_with_value b_with_value
  have G_read_answer := ok_read_answer (P := l.prog) (w := w) (base := base) F_read_answer T c_value_in
  have c_read_answer := cal_of G_read_answer (PySem.W.mg_of X G a_read_answer) k_read_answer b_read_answer
  have G_init := ok_init (P := l.prog) (w := w) (base := base) F_init TC
  have G_rows := ok_rows (P := l.prog) (w := w) (base := base) F_rows TC
  have G_answer := ok_answer (P := l.prog) (w := w) (base := base) F_answer TC c_with_value c_read_answer
  have G_plain_answers := ok_plain_answers (P := l.prog) (w := w) (base := base) F_plain_answers T TC ⟨mk, a_init, i_init, kc⟩ G_init b_init G_rows b_rows ⟨a_rows, i_rows, k_rows⟩ G_answer b_answer ⟨a_answer, i_answer, k_answer⟩
  have c_plain_answers := cal_of G_plain_answers (PySem.W.mg_of X G a_plain_answers) k_plain_answers b_plain_answers
  have G_same_answers := ok_same_answers (P := l.prog) (w := w) (base := base) F_same_answers T (PySem.W.mg_of X G a_same_answers) b_same_answers 10
  have c_same_answers := cal_of G_same_answers (PySem.W.mg_of X G a_same_answers) k_same_answers b_same_answers
  have G_is_told_answer := ok_is_told_answer (P := l.prog) (w := w) (base := base) F_is_told_answer T c_is_stored c_is_whole
  have c_is_told_answer := cal_of G_is_told_answer (PySem.W.mg_of X G a_is_told_answer) k_is_told_answer b_is_told_answer
  have G_are_inner := ok_are_inner (P := l.prog) (w := w) (base := base) F_are_inner T c_is_read c_is_write
  have c_are_inner := cal_of G_are_inner (PySem.W.mg_of X G a_are_inner) k_are_inner b_are_inner
  have G_is_history_row := ok_is_history_row (P := l.prog) (w := w) (base := base) F_is_history_row T g_GREATEST_TIME g_KINDS g_DEGREES c_is_number c_are_inner c_is_told_answer
  have c_is_history_row := cal_of G_is_history_row (PySem.W.mg_of X G a_is_history_row) k_is_history_row b_is_history_row
  have G_is_history := ok_is_history (P := l.prog) (w := w) (base := base) F_is_history T g_MOST_JUDGED c_is_history_row
  have c_is_history := cal_of G_is_history (PySem.W.mg_of X G a_is_history) k_is_history b_is_history
  have G_rows_by_order := ok_rows_by_order (P := l.prog) (w := w) (base := base) F_rows_by_order T c_plain_answers c_keys_changed c_with_value c_value_in
  have c_rows_by_order := cal_of G_rows_by_order (PySem.W.mg_of X G a_rows_by_order) k_rows_by_order b_rows_by_order
  have G_fits_serial := ok_fits_serial (P := l.prog) (w := w) (base := base) F_fits_serial T c_same_answers c_plain_answers
  have c_fits_serial := cal_of G_fits_serial (PySem.W.mg_of X G a_fits_serial) k_fits_serial b_fits_serial
  have G_can_follow := ok_can_follow (P := l.prog) (w := w) (base := base) F_can_follow T c_rows_by_order c_fits_serial
  have c_can_follow := cal_of G_can_follow (PySem.W.mg_of X G a_can_follow) k_can_follow b_can_follow
  have G_followers := ok_followers (P := l.prog) (w := w) (base := base) F_followers T c_can_follow
  have c_followers := cal_of G_followers (PySem.W.mg_of X G a_followers) k_followers b_followers
  have G_is_some_order := ok_is_some_order (P := l.prog) (w := w) (base := base) F_is_some_order T c_is_number
  have c_is_some_order := cal_of G_is_some_order (PySem.W.mg_of X G a_is_some_order) k_is_some_order b_is_some_order
  have G_is_explaining := ok_is_explaining (P := l.prog) (w := w) (base := base) F_is_explaining T c_is_some_order c_can_follow
  have c_is_explaining := cal_of G_is_explaining (PySem.W.mg_of X G a_is_explaining) k_is_explaining b_is_explaining
  have G_is_history_paper := ok_is_history_paper (P := l.prog) (w := w) (base := base) F_is_history_paper T c_is_some_order c_is_ascending c_followers
  have c_is_history_paper := cal_of G_is_history_paper (PySem.W.mg_of X G a_is_history_paper) k_is_history_paper b_is_history_paper
  have G_is_course := ok_is_course (P := l.prog) (w := w) (base := base) F_is_course T g_MOST_COURSE g_GREATEST_PAGE_NUMBER c_is_number
  have c_is_course := cal_of G_is_course (PySem.W.mg_of X G a_is_course) k_is_course b_is_course
  have G_spans_of := ok_spans_of (P := l.prog) (w := w) (base := base) F_spans_of T 
  have c_spans_of := cal_of G_spans_of (PySem.W.mg_of X G a_spans_of) k_spans_of b_spans_of
  have G_bare_spans := ok_bare_spans (P := l.prog) (w := w) (base := base) F_bare_spans T 
  have c_bare_spans := cal_of G_bare_spans (PySem.W.mg_of X G a_bare_spans) k_bare_spans b_bare_spans
  have G_most_hits := ok_most_hits (P := l.prog) (w := w) (base := base) F_most_hits T c_spans_of c_bare_spans
  have c_most_hits := cal_of G_most_hits (PySem.W.mg_of X G a_most_hits) k_most_hits b_most_hits
  have G_is_course_paper := ok_is_course_paper (P := l.prog) (w := w) (base := base) F_is_course_paper T c_is_number c_is_ascending c_most_hits
  have c_is_course_paper := cal_of G_is_course_paper (PySem.W.mg_of X G a_is_course_paper) k_is_course_paper b_is_course_paper
  have G_is_judged := ok_is_judged (P := l.prog) (w := w) (base := base) F_is_judged T c_is_history
  have c_is_judged := cal_of G_is_judged (PySem.W.mg_of X G a_is_judged) k_is_judged b_is_judged
  have G_is_framed := ok_is_framed (P := l.prog) (w := w) (base := base) F_is_framed T g_MOST_FRAMES c_is_number c_is_course
  have c_is_framed := cal_of G_is_framed (PySem.W.mg_of X G a_is_framed) k_is_framed b_is_framed
  have G_is_told_reads := ok_is_told_reads (P := l.prog) (w := w) (base := base) F_is_told_reads T c_is_framed c_is_number
  have c_is_told_reads := cal_of G_is_told_reads (PySem.W.mg_of X G a_is_told_reads) k_is_told_reads b_is_told_reads
  have G_has_word := ok_has_word (P := l.prog) (w := w) (base := base) F_has_word T 
  have c_has_word := cal_of G_has_word (PySem.W.mg_of X G a_has_word) k_has_word b_has_word
  have G_reads_with := ok_reads_with (P := l.prog) (w := w) (base := base) F_reads_with T 
  have c_reads_with := cal_of G_reads_with (PySem.W.mg_of X G a_reads_with) k_reads_with b_reads_with
  have G_are_pages_out := ok_are_pages_out (P := l.prog) (w := w) (base := base) F_are_pages_out T 
  have c_are_pages_out := cal_of G_are_pages_out (PySem.W.mg_of X G a_are_pages_out) k_are_pages_out b_are_pages_out
  have G_proves_reads := ok_proves_reads (P := l.prog) (w := w) (base := base) F_proves_reads T c_are_pages_out c_reads_with
  have c_proves_reads := cal_of G_proves_reads (PySem.W.mg_of X G a_proves_reads) k_proves_reads b_proves_reads
  have G_load := ok_load (P := l.prog) (w := w) (base := base) F_load T 
  have G_draw := ok_draw (P := l.prog) (w := w) (base := base) F_draw T G_load (PySem.W.mg_of X G a_load) k_load b_load
  have c__law_draw := cal_of G_draw (PySem.W.mg_of X G a_draw) k_draw b_draw
  have G_box := ok_box (P := l.prog) (w := w) (base := base) F_box T 
  have t_FORMS : TabK l.prog w K mg base 7 "FORMS" S_FORMS no_FORMS := by
    refine ⟨⟨u_FORMS, es_FORMS, n_FORMS, PySem.W.mg_of X G g_FORMS, ⟨l_FORMS, q_FORMS, w_FORMS⟩, fun z f hz => ?_, fun z hz => ?_⟩⟩
    · unfold S_FORMS at hz
      rcases lk_cons hz with ⟨rfl, rfl⟩ | hz
      · exact ⟨_, _, _, h0_FORMS, FnOk.mono G_is_judged (by decide), k_is_judged, b_is_judged⟩
      rcases lk_cons hz with ⟨rfl, rfl⟩ | hz
      · exact ⟨_, _, _, h1_FORMS, FnOk.mono G_is_judged (by decide), k_is_judged, b_is_judged⟩
      rcases lk_cons hz with ⟨rfl, rfl⟩ | hz
      · exact ⟨_, _, _, h2_FORMS, FnOk.mono G_is_told_reads (by decide), k_is_told_reads, b_is_told_reads⟩
      rcases lk_cons hz with ⟨rfl, rfl⟩ | hz
      · exact ⟨_, _, _, h3_FORMS, FnOk.mono G_is_told_reads (by decide), k_is_told_reads, b_is_told_reads⟩
      cases hz
    · unfold no_FORMS at hz
      simp only [List.mem_cons, List.not_mem_nil, or_false] at hz
      rcases hz with rfl | rfl | rfl | rfl
      · exact m0_FORMS
      · exact m1_FORMS
      · exact m2_FORMS
      · exact m3_FORMS
  have G_is_claim := ok_is_claim (P := l.prog) (w := w) (base := base) F_is_claim T t_FORMS c_has_word
  have c_is_claim := cal_of G_is_claim (PySem.W.mg_of X G a_is_claim) k_is_claim b_is_claim
  have t_ASKED : TabK l.prog w K mg base 7 "ASKED" S_ASKED no_ASKED := by
    refine ⟨⟨u_ASKED, es_ASKED, n_ASKED, PySem.W.mg_of X G g_ASKED, ⟨l_ASKED, q_ASKED, w_ASKED⟩, fun z f hz => ?_, fun z hz => ?_⟩⟩
    · unfold S_ASKED at hz
      rcases lk_cons hz with ⟨rfl, rfl⟩ | hz
      · exact ⟨_, _, _, h0_ASKED, FnOk.mono G_is_judged (by decide), k_is_judged, b_is_judged⟩
      rcases lk_cons hz with ⟨rfl, rfl⟩ | hz
      · exact ⟨_, _, _, h1_ASKED, FnOk.mono G_is_framed (by decide), k_is_framed, b_is_framed⟩
      rcases lk_cons hz with ⟨rfl, rfl⟩ | hz
      · exact ⟨_, _, _, h2_ASKED, FnOk.mono G_is_framed (by decide), k_is_framed, b_is_framed⟩
      cases hz
    · unfold no_ASKED at hz
      simp only [List.mem_cons, List.not_mem_nil, or_false] at hz
      rcases hz with rfl | rfl | rfl
      · exact m0_ASKED
      · exact m1_ASKED
      · exact m2_ASKED
  have G_is_question := ok_is_question (P := l.prog) (w := w) (base := base) F_is_question T t_ASKED c_has_word
  have c_is_question := cal_of G_is_question (PySem.W.mg_of X G a_is_question) k_is_question b_is_question
  have G_proves := ok_proves (P := l.prog) (w := w) (base := base) F_proves T c_is_claim c_is_explaining c_is_history_paper c_is_course_paper c_proves_reads
  have c_proves := cal_of G_proves (PySem.W.mg_of X G a_proves) k_proves b_proves
  have G__law_same := ok__law_same (P := l.prog) (w := w) (base := base) F__law_same T (PySem.W.mg_of X G a__law_same) b__law_same 10
  have c__law_same := cal_of G__law_same (PySem.W.mg_of X G a__law_same) k__law_same b__law_same
  have G__law_history := ok__law_history (P := l.prog) (w := w) (base := base) F__law_history T 
  have c__law_history := cal_of G__law_history (PySem.W.mg_of X G a__law_history) k__law_history b__law_history
  have G__law_odd := ok__law_odd (P := l.prog) (w := w) (base := base) F__law_odd T 
  have c__law_odd := cal_of G__law_odd (PySem.W.mg_of X G a__law_odd) k__law_odd b__law_odd
  have G__law_kinds := ok__law_kinds (P := l.prog) (w := w) (base := base) F__law_kinds T 
  have c__law_kinds := cal_of G__law_kinds (PySem.W.mg_of X G a__law_kinds) k__law_kinds b__law_kinds
  have G__law_good := ok__law_good (P := l.prog) (w := w) (base := base) F__law_good T c__law_history
  have c__law_good := cal_of G__law_good (PySem.W.mg_of X G a__law_good) k__law_good b__law_good
  have G__law_bad := ok__law_bad (P := l.prog) (w := w) (base := base) F__law_bad T c__law_history
  have c__law_bad := cal_of G__law_bad (PySem.W.mg_of X G a__law_bad) k__law_bad b__law_bad
  have G__law_rows := ok__law_rows (P := l.prog) (w := w) (base := base) F__law_rows T c__law_odd c__law_history
  have c__law_rows := cal_of G__law_rows (PySem.W.mg_of X G a__law_rows) k__law_rows b__law_rows
  have D_judge : Defs l.prog w K mg base 8 S_judge := by
    refine ⟨fun z f hz => ?_⟩
    unfold S_judge at hz
    rcases lk_cons hz with ⟨rfl, rfl⟩ | hz
    · exact ⟨_, _, _, a_is_claim, G_is_claim, k_is_claim, b_is_claim⟩
    rcases lk_cons hz with ⟨rfl, rfl⟩ | hz
    · exact ⟨_, _, _, a_is_question, G_is_question, k_is_question, b_is_question⟩
    cases hz
  exact ok_law F_law T c__law_kinds c__law_bad c__law_good ⟨⟨_, a_is_question, PySem.W.mg_of X G a_is_question⟩⟩ ⟨⟨_, a_is_claim, PySem.W.mg_of X G a_is_claim⟩⟩ c__law_draw D_judge c_proves c__law_rows c__law_same G_box (PySem.W.mg_of X G a_box) k_box b_box
end K70
end
set_option Elab.async false
open PySem PySem.W PyProof.Rows
set_option maxRecDepth 100000 in
set_option maxHeartbeats 0 in
theorem PySem.Challenge.cw_treesheld_k70_whole_claims_holds : PySem.Challenge.rw_treesheld_k70_whole_claims.Holds := by
  w_on; o_law; k_head; (case hw => w_witness2)
  k_fill
  refine L2.walk_of (l := PySem.Challenge.rw_treesheld_k70_whole_claims) (n := 63) (k := 16) (x := "script") (CX := fun _ => L2.CX0) (sp := fun w => K70.spLaw _) rfl (by decide) rfl ⟨rfl, by decide, by decide⟩ (fun w h Y => PySem.W.kIn_of Y) ?F (fun _ _ a ns hl _ hS => ⟨a, ns, rfl, hS, hl, fun _ => rfl⟩) fun _ _ _ _ _ z => z
  case F =>
    intro w mg fa h KX G hmg
    refine' K70.all_mk KX G hmg ?aC ?a_is_whole ?l_is_whole ?c_is_whole ?k_is_whole ?a_is_number ?l_is_number ?c_is_number ?k_is_number ?a_is_ascending ?l_is_ascending ?c_is_ascending ?k_is_ascending ?a_are_signs ?l_are_signs ?c_are_signs ?k_are_signs ?a_is_key ?l_is_key ?c_is_key ?k_is_key ?a_is_stored ?l_is_stored ?c_is_stored ?k_is_stored ?a_is_read ?l_is_read ?c_is_read ?k_is_read ?a_is_write ?l_is_write ?c_is_write ?k_is_write ?a_keys_changed ?l_keys_changed ?c_keys_changed ?k_keys_changed ?a_value_in ?l_value_in ?c_value_in ?k_value_in ?a_with_value ?l_with_value ?c_with_value ?k_with_value ?a_read_answer ?l_read_answer ?c_read_answer ?k_read_answer ?a_init ?i_init ?l_init ?c_init ?k_init ?a_rows ?i_rows ?l_rows ?c_rows ?k_rows ?a_answer ?i_answer ?l_answer ?c_answer ?k_answer ?a_plain_answers ?l_plain_answers ?c_plain_answers ?k_plain_answers ?a_same_answers ?l_same_answers ?c_same_answers ?k_same_answers ?a_is_told_answer ?l_is_told_answer ?c_is_told_answer ?k_is_told_answer ?a_are_inner ?l_are_inner ?c_are_inner ?k_are_inner ?a_is_history_row ?l_is_history_row ?c_is_history_row ?k_is_history_row ?a_is_history ?l_is_history ?c_is_history ?k_is_history ?a_rows_by_order ?l_rows_by_order ?c_rows_by_order ?k_rows_by_order ?a_fits_serial ?l_fits_serial ?c_fits_serial ?k_fits_serial ?a_can_follow ?l_can_follow ?c_can_follow ?k_can_follow ?a_followers ?l_followers ?c_followers ?k_followers ?a_is_some_order ?l_is_some_order ?c_is_some_order ?k_is_some_order ?a_is_explaining ?l_is_explaining ?c_is_explaining ?k_is_explaining ?a_is_history_paper ?l_is_history_paper ?c_is_history_paper ?k_is_history_paper ?a_is_course ?l_is_course ?c_is_course ?k_is_course ?a_spans_of ?l_spans_of ?c_spans_of ?k_spans_of ?a_bare_spans ?l_bare_spans ?c_bare_spans ?k_bare_spans ?a_most_hits ?l_most_hits ?c_most_hits ?k_most_hits ?a_is_course_paper ?l_is_course_paper ?c_is_course_paper ?k_is_course_paper ?a_is_judged ?l_is_judged ?c_is_judged ?k_is_judged ?a_is_framed ?l_is_framed ?c_is_framed ?k_is_framed ?a_is_told_reads ?l_is_told_reads ?c_is_told_reads ?k_is_told_reads ?a_has_word ?l_has_word ?c_has_word ?k_has_word ?a_reads_with ?l_reads_with ?c_reads_with ?k_reads_with ?a_are_pages_out ?l_are_pages_out ?c_are_pages_out ?k_are_pages_out ?a_proves_reads ?l_proves_reads ?c_proves_reads ?k_proves_reads ?a_load ?l_load ?c_load ?k_load ?a_draw ?l_draw ?c_draw ?k_draw ?a_box ?l_box ?c_box ?k_box ?a_is_claim ?l_is_claim ?c_is_claim ?k_is_claim ?a_is_question ?l_is_question ?c_is_question ?k_is_question ?a_proves ?l_proves ?c_proves ?k_proves ?a__law_same ?l__law_same ?c__law_same ?k__law_same ?a__law_history ?l__law_history ?c__law_history ?k__law_history ?a__law_odd ?l__law_odd ?c__law_odd ?k__law_odd ?a__law_kinds ?l__law_kinds ?c__law_kinds ?k__law_kinds ?a__law_good ?l__law_good ?c__law_good ?k__law_good ?a__law_bad ?l__law_bad ?c__law_bad ?k__law_bad ?a__law_rows ?l__law_rows ?c__law_rows ?k__law_rows ?a_law ?l_law ?c_law ?k_law ?pg ?hd ?po ?sa ?mk ?kc ?nR ?nS ?z_isinstance ?z_int ?z_bool ?z_str ?z_tuple ?z_list ?z_len ?z_all ?z_any ?z_sum ?z_range ?z_zip ?z_enumerate ?z_sorted ?z_set ?g_MOST_KEY ?g_MOST_VALUE ?g_MOST_MANY ?g_MOST_JUDGED ?g_GREATEST_TIME ?g_MOST_COURSE ?g_GREATEST_PAGE_NUMBER ?g_MOST_FRAMES ?g_SIGNS ?e_SIGNS ?g_DEGREES ?u_DEGREES_l ?u_DEGREES_c ?u_DEGREES_d ?u_DEGREES_i ?g_KINDS ?u_KINDS_l ?u_KINDS_c ?u_KINDS_d ?u_KINDS_i ?g_FORMS ?l_FORMS ?q_FORMS ?w_FORMS ?h0_FORMS ?h1_FORMS ?h2_FORMS ?h3_FORMS ?m0_FORMS ?m1_FORMS ?m2_FORMS ?m3_FORMS ?g_ASKED ?l_ASKED ?q_ASKED ?w_ASKED ?h0_ASKED ?h1_ASKED ?h2_ASKED ?m0_ASKED ?m1_ASKED ?m2_ASKED
    (case aC => k_is)
    (case a_is_whole => k_is)
    (case l_is_whole => k_is)
    (case c_is_whole => k_is)
    (case k_is_whole => k_is)
    (case a_is_number => k_is)
    (case l_is_number => k_is)
    (case c_is_number => k_is)
    (case k_is_number => k_is)
    (case a_is_ascending => k_is)
    (case l_is_ascending => k_is)
    (case c_is_ascending => k_is)
    (case k_is_ascending => k_is)
    (case a_are_signs => k_is)
    (case l_are_signs => k_is)
    (case c_are_signs => k_is)
    (case k_are_signs => k_is)
    (case a_is_key => k_is)
    (case l_is_key => k_is)
    (case c_is_key => k_is)
    (case k_is_key => k_is)
    (case a_is_stored => k_is)
    (case l_is_stored => k_is)
    (case c_is_stored => k_is)
    (case k_is_stored => k_is)
    (case a_is_read => k_is)
    (case l_is_read => k_is)
    (case c_is_read => k_is)
    (case k_is_read => k_is)
    (case a_is_write => k_is)
    (case l_is_write => k_is)
    (case c_is_write => k_is)
    (case k_is_write => k_is)
    (case a_keys_changed => k_is)
    (case l_keys_changed => k_is)
    (case c_keys_changed => k_is)
    (case k_keys_changed => k_is)
    (case a_value_in => k_is)
    (case l_value_in => k_is)
    (case c_value_in => k_is)
    (case k_value_in => k_is)
    (case a_with_value => k_is)
    (case l_with_value => k_is)
    (case c_with_value => k_is)
    (case k_with_value => k_is)
    (case a_read_answer => k_is)
    (case l_read_answer => k_is)
    (case c_read_answer => k_is)
    (case k_read_answer => k_is)
    (case a_init => k_is)
    (case i_init => k_is)
    (case l_init => k_is)
    (case c_init => k_is)
    (case k_init => k_is)
    (case a_rows => k_is)
    (case i_rows => k_is)
    (case l_rows => k_is)
    (case c_rows => k_is)
    (case k_rows => k_is)
    (case a_answer => k_is)
    (case i_answer => k_is)
    (case l_answer => k_is)
    (case c_answer => k_is)
    (case k_answer => k_is)
    (case a_plain_answers => k_is)
    (case l_plain_answers => k_is)
    (case c_plain_answers => k_is)
    (case k_plain_answers => k_is)
    (case a_same_answers => k_is)
    (case l_same_answers => k_is)
    (case c_same_answers => k_is)
    (case k_same_answers => k_is)
    (case a_is_told_answer => k_is)
    (case l_is_told_answer => k_is)
    (case c_is_told_answer => k_is)
    (case k_is_told_answer => k_is)
    (case a_are_inner => k_is)
    (case l_are_inner => k_is)
    (case c_are_inner => k_is)
    (case k_are_inner => k_is)
    (case a_is_history_row => k_is)
    (case l_is_history_row => k_is)
    (case c_is_history_row => k_is)
    (case k_is_history_row => k_is)
    (case a_is_history => k_is)
    (case l_is_history => k_is)
    (case c_is_history => k_is)
    (case k_is_history => k_is)
    (case a_rows_by_order => k_is)
    (case l_rows_by_order => k_is)
    (case c_rows_by_order => k_is)
    (case k_rows_by_order => k_is)
    (case a_fits_serial => k_is)
    (case l_fits_serial => k_is)
    (case c_fits_serial => k_is)
    (case k_fits_serial => k_is)
    (case a_can_follow => k_is)
    (case l_can_follow => k_is)
    (case c_can_follow => k_is)
    (case k_can_follow => k_is)
    (case a_followers => k_is)
    (case l_followers => k_is)
    (case c_followers => k_is)
    (case k_followers => k_is)
    (case a_is_some_order => k_is)
    (case l_is_some_order => k_is)
    (case c_is_some_order => k_is)
    (case k_is_some_order => k_is)
    (case a_is_explaining => k_is)
    (case l_is_explaining => k_is)
    (case c_is_explaining => k_is)
    (case k_is_explaining => k_is)
    (case a_is_history_paper => k_is)
    (case l_is_history_paper => k_is)
    (case c_is_history_paper => k_is)
    (case k_is_history_paper => k_is)
    (case a_is_course => k_is)
    (case l_is_course => k_is)
    (case c_is_course => k_is)
    (case k_is_course => k_is)
    (case a_spans_of => k_is)
    (case l_spans_of => k_is)
    (case c_spans_of => k_is)
    (case k_spans_of => k_is)
    (case a_bare_spans => k_is)
    (case l_bare_spans => k_is)
    (case c_bare_spans => k_is)
    (case k_bare_spans => k_is)
    (case a_most_hits => k_is)
    (case l_most_hits => k_is)
    (case c_most_hits => k_is)
    (case k_most_hits => k_is)
    (case a_is_course_paper => k_is)
    (case l_is_course_paper => k_is)
    (case c_is_course_paper => k_is)
    (case k_is_course_paper => k_is)
    (case a_is_judged => k_is)
    (case l_is_judged => k_is)
    (case c_is_judged => k_is)
    (case k_is_judged => k_is)
    (case a_is_framed => k_is)
    (case l_is_framed => k_is)
    (case c_is_framed => k_is)
    (case k_is_framed => k_is)
    (case a_is_told_reads => k_is)
    (case l_is_told_reads => k_is)
    (case c_is_told_reads => k_is)
    (case k_is_told_reads => k_is)
    (case a_has_word => k_is)
    (case l_has_word => k_is)
    (case c_has_word => k_is)
    (case k_has_word => k_is)
    (case a_reads_with => k_is)
    (case l_reads_with => k_is)
    (case c_reads_with => k_is)
    (case k_reads_with => k_is)
    (case a_are_pages_out => k_is)
    (case l_are_pages_out => k_is)
    (case c_are_pages_out => k_is)
    (case k_are_pages_out => k_is)
    (case a_proves_reads => k_is)
    (case l_proves_reads => k_is)
    (case c_proves_reads => k_is)
    (case k_proves_reads => k_is)
    (case a_load => k_is)
    (case l_load => k_is)
    (case c_load => k_is)
    (case k_load => k_is)
    (case a_draw => k_is)
    (case l_draw => k_is)
    (case c_draw => k_is)
    (case k_draw => k_is)
    (case a_box => k_is)
    (case l_box => k_is)
    (case c_box => k_is)
    (case k_box => k_is)
    (case a_is_claim => k_is)
    (case l_is_claim => k_is)
    (case c_is_claim => k_is)
    (case k_is_claim => k_is)
    (case a_is_question => k_is)
    (case l_is_question => k_is)
    (case c_is_question => k_is)
    (case k_is_question => k_is)
    (case a_proves => k_is)
    (case l_proves => k_is)
    (case c_proves => k_is)
    (case k_proves => k_is)
    (case a__law_same => k_is)
    (case l__law_same => k_is)
    (case c__law_same => k_is)
    (case k__law_same => k_is)
    (case a__law_history => k_is)
    (case l__law_history => k_is)
    (case c__law_history => k_is)
    (case k__law_history => k_is)
    (case a__law_odd => k_is)
    (case l__law_odd => k_is)
    (case c__law_odd => k_is)
    (case k__law_odd => k_is)
    (case a__law_kinds => k_is)
    (case l__law_kinds => k_is)
    (case c__law_kinds => k_is)
    (case k__law_kinds => k_is)
    (case a__law_good => k_is)
    (case l__law_good => k_is)
    (case c__law_good => k_is)
    (case k__law_good => k_is)
    (case a__law_bad => k_is)
    (case l__law_bad => k_is)
    (case c__law_bad => k_is)
    (case k__law_bad => k_is)
    (case a__law_rows => k_is)
    (case l__law_rows => k_is)
    (case c__law_rows => k_is)
    (case k__law_rows => k_is)
    (case a_law => k_is)
    (case l_law => k_is)
    (case c_law => k_is)
    (case k_law => k_is)
    (case pg => k_is)
    (case hd => k_is)
    (case po => k_is)
    (case sa => k_is)
    (case mk => k_is)
    (case kc => k_is)
    (case nR => k_is)
    (case nS => k_is)
    (case z_isinstance => k_is)
    (case z_int => k_is)
    (case z_bool => k_is)
    (case z_str => k_is)
    (case z_tuple => k_is)
    (case z_list => k_is)
    (case z_len => k_is)
    (case z_all => k_is)
    (case z_any => k_is)
    (case z_sum => k_is)
    (case z_range => k_is)
    (case z_zip => k_is)
    (case z_enumerate => k_is)
    (case z_sorted => k_is)
    (case z_set => k_is)
    (case g_MOST_KEY => k_is)
    (case g_MOST_VALUE => k_is)
    (case g_MOST_MANY => k_is)
    (case g_MOST_JUDGED => k_is)
    (case g_GREATEST_TIME => k_is)
    (case g_MOST_COURSE => k_is)
    (case g_GREATEST_PAGE_NUMBER => k_is)
    (case g_MOST_FRAMES => k_is)
    (case g_SIGNS => k_is)
    (case e_SIGNS => first | rfl | decide +kernel | (trace_state; fail))
    (case g_DEGREES => k_is)
    (case u_DEGREES_l => k_is)
    (case u_DEGREES_c => first | rfl | (trace_state; fail))
    (case u_DEGREES_d => first | rfl | (trace_state; fail))
    (case u_DEGREES_i => first | rfl | (trace_state; fail))
    (case g_KINDS => k_is)
    (case u_KINDS_l => k_is)
    (case u_KINDS_c => first | rfl | (trace_state; fail))
    (case u_KINDS_d => first | rfl | (trace_state; fail))
    (case u_KINDS_i => first | rfl | (trace_state; fail))
    (case g_FORMS => k_is)
    (case l_FORMS => k_is)
    (case q_FORMS => first | exact ⟨⟨_, _, rfl, rfl⟩, ⟨_, _, rfl, rfl⟩, ⟨_, _, rfl, rfl⟩, ⟨_, _, rfl, rfl⟩, trivial⟩ | k_is | (trace_state; fail))
    (case w_FORMS => first | k_is | rfl | decide | (trace_state; fail))
    (case h0_FORMS => k_is)
    (case h1_FORMS => k_is)
    (case h2_FORMS => k_is)
    (case h3_FORMS => k_is)
    (case m0_FORMS => k_is)
    (case m1_FORMS => k_is)
    (case m2_FORMS => k_is)
    (case m3_FORMS => k_is)
    (case g_ASKED => k_is)
    (case l_ASKED => k_is)
    (case q_ASKED => first | exact ⟨⟨_, _, rfl, rfl⟩, ⟨_, _, rfl, rfl⟩, ⟨_, _, rfl, rfl⟩, trivial⟩ | k_is | (trace_state; fail))
    (case w_ASKED => first | k_is | rfl | decide | (trace_state; fail))
    (case h0_ASKED => k_is)
    (case h1_ASKED => k_is)
    (case h2_ASKED => k_is)
    (case m0_ASKED => k_is)
    (case m1_ASKED => k_is)
    (case m2_ASKED => k_is)
#print axioms PySem.Challenge.cw_treesheld_k70_whole_claims_holds
