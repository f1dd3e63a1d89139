import PyProof.Rows.All
import Wide.All
import OpenK.AllK
import Wide.FinOn
import PyProof.EqAt
import PyProof.EqKinds
import PyProof.TupleCall
import HandS.ForMost
import HandS.Exc
import HandS.Star
import HandS.FStr
import HandS.IsInst
import HandS.Slots
import HandS.SlotsOwn
import HandS.TupAny
import HandS.TupMul
import HandS.Wide
import HandS.Defaults
import KE.GoesEnum
import KE.GoesNew
import HandS.Codes
import HandS.MakeKwOnly
import HandS.Property
import HandS.Lambda
import HandS.TryMany
import HandS.ExcIs
import HandS.ClsMeth
import PyProof.ReprRoads
import PyProof.ReprLen
import KE.IntTextLaws
import KE.KExcInit
import HandS.ExcInit
import PyProof.ExcBaseAll.ArithmeticError
import PyProof.ExcBaseAll.LookupError
import KE.KTryMore
import KE.KExcIs
import KE.KIsAll
import HandS.ExcField
import HandS.HotCalls
import HandS.RaiseMore
import HandS.EndBits
import HandS.EndTab
import HandS.HeadHook4
import HandS.Head2
import PyProof.Rows.RaiseClass
import HandS.ExcOwn
import HandS.NamedTupGet
import KE.IntBitsLaws
import Lean
import PySem.Challenge.RW_fallranks_k57_whole_leads_taken_back
set_option Elab.async false
set_option linter.all false
set_option maxRecDepth 100000
set_option maxHeartbeats 2000000
/-! Readings over plain data: a layer of our own over the hand layer. A def's body is read over data (D): slots hold data, or a list of the frame's own; no heap is in sight. -/
namespace DL
open PySem PySem.Spec PyProof.Rows L2

/-! ### data -/
inductive D where
  | non | bl (b : Bool) | int (i : Int) | str (x : Str)
  | tup (ds : List D) | lst (ds : List D)
  | scr (ns : List Int)
  | pail
  | prog (n s b : D)
  | stg (s r a : D)
  | ld (l : Addr) (p s : D)

/-- not a list that may change -/
def ndl (o : HO) : Prop := ∀ xs, o ≠ .lst xs
/-- all but lists stays -/
def Le (H H' : Hp) : Prop := ∀ b o, H b = some o → ndl o → H' b = some o
theorem Le.refl (H : Hp) : Le H H := fun _ _ h _ => h
theorem Le.trans {H H1 H2 : Hp} (a : Le H H1) (b : Le H1 H2) : Le H H2 := fun c o h n => b c o (a c o h n) n
theorem Le.new {H : Hp} {p : Addr} {o : HO} (h : H p = none) : Le H (upd H p o) := fun b u e _ => by rw [upd_ne (ne_of_none e h)]; exact e
theorem Le.put {H : Hp} {p : Addr} {o : HO} {xs : List V} (h : H p = some (.lst xs)) : Le H (upd H p o) := fun b u e n => by
  rw [upd_ne (fun z => by rw [z, h] at e; cases e; exact n xs rfl)]; exact e

/-- what a run goes with: the written part, the pail's address -/
structure Cf where
  K : PySem.W.Frag
  pl : Option Addr
/-- a list that stays as it is -/
def SqF (H : Hp) (a : Addr) (xs : List V) : Prop := ∃ o, H a = some (.frz o (.lst xs))
theorem SqF.rd {H : Hp} {a : Addr} {xs : List V} (h : SqF H a xs) : Rd H a (.lst xs) := .inr h
theorem SqF.l {K : PySem.W.Frag} {H : Hp} {a : Addr} {xs : List V} (h : SqF H a xs) : SqL K H a xs := .inl (.inr h)
theorem SqF.le {H H' : Hp} {a : Addr} {xs : List V} (e : Le H H') (h : SqF H a xs) : SqF H' a xs := let ⟨o, h⟩ := h; ⟨o, e _ _ h (fun _ z => nomatch z)⟩
/-- the script: it may stand in the written part -/
def SqS (K : PySem.W.Frag) (H : Hp) (a : Addr) (xs : List V) : Prop := (∃ o, H a = some (.frz o (.lst xs))) ∨
    ∃ (o : Obj) (its : Array Value) (n : Nat), K.lookup a = some o ∧ o.cls = .type "list" ∧ o.dict = none ∧ o.data = .seq its n ∧ its.size ≤ sizeLine ∧ Vals xs its.toList
theorem SqS.l {K : PySem.W.Frag} {H : Hp} {a : Addr} {xs : List V} (h : SqS K H a xs) : SqL K H a xs := by
  rcases h with ⟨o, h⟩ | h
  · exact .inl (.inr ⟨o, h⟩)
  · exact .inr h
theorem SqS.le {K : PySem.W.Frag} {H H' : Hp} {a : Addr} {xs : List V} (e : Le H H') (h : SqS K H a xs) : SqS K H' a xs := by
  rcases h with ⟨o, h⟩ | h
  · exact .inl ⟨o, e _ _ h (fun _ z => nomatch z)⟩
  · exact .inr h
theorem sqt_le {K : PySem.W.Frag} {H H' : Hp} {a : Addr} {xs : List V} (e : Le H H') (h : SqT K H a xs) : SqT K H' a xs := by
  rcases h with (h | ⟨o, h⟩) | h
  · exact .inl (.inl (e _ _ h (fun _ z => nomatch z)))
  · exact .inl (.inr ⟨o, e _ _ h (fun _ z => nomatch z)⟩)
  · exact .inr h
theorem slt_le {H H' : Hp} {a C dx : Addr} {vs : List (Option V)} (e : Le H H') (h : SlX.Slt H a C dx vs) : SlX.Slt H' a C dx vs := by
  rcases h with ⟨h1, h2⟩ | ⟨h1, h2⟩
  · exact .inl ⟨e _ _ h1 (fun _ z => nomatch z), h2⟩
  · exact .inr ⟨e _ _ h1 (fun _ z => by unfold SlX.SlO at z; cases z), e _ _ h2 (fun _ z => nomatch z)⟩

/-- the class of programs, by the name in the text -/
def progC (K : PySem.W.Frag) : Addr := match PySem.W.nsIn K mainGlobals "Program" with
  | some (some (.ref a)) => a
  | _ => 0

/-- the class of the name x in the text -/
def clsA (K : PySem.W.Frag) (x : Str) : Addr := match PySem.W.nsIn K mainGlobals x with
  | some (some (.ref a)) => a
  | _ => 0

mutual
/-- the value v stands for the datum -/
def Rp (c : Cf) (H : Hp) : D → V → Prop
  | .non, v => v = .non
  | .bl b, v => v = .bl b
  | .int i, v => v = .int i
  | .str x, v => v = .str x
  | .tup ds, v => ∃ a xs, v = .ref a ∧ SqT c.K H a xs ∧ Rps c H ds xs
  | .lst ds, v => ∃ a xs, v = .ref a ∧ SqF H a xs ∧ Rps c H ds xs
  | .scr ns, v => ∃ a, v = .ref a ∧ SqS c.K H a (ns.map V.int)
  | .pail, v => ∃ p, c.pl = some p ∧ v = .ref p
  | .prog n s b, v => ∃ a dx vn vs vb, v = .ref a ∧ SlX.Slt H a (progC c.K) dx [some vb, some vn, some vs] ∧ Rp c H n vn ∧ Rp c H s vs ∧ Rp c H b vb
  | .stg s r a, v => ∃ x dx vs vr va, v = .ref x ∧ H x = some (.ins (clsA c.K "Stage") dx [("state", vs), ("road", vr), ("ahead", va)]) ∧ Rp c H s vs ∧ Rp c H r vr ∧ Rp c H a va
  | .ld l p s, v => ∃ x dx vp vs, v = .ref x ∧ x = l ∧ H x = some (.ins (clsA c.K "Lead") dx [("led", vp), ("stage", vs)]) ∧ Rp c H p vp ∧ Rp c H s vs
def Rps (c : Cf) (H : Hp) : List D → List V → Prop
  | [], vs => vs = []
  | d :: ds, vs => ∃ x xs, vs = x :: xs ∧ Rp c H d x ∧ Rps c H ds xs
end
variable {c : Cf} {H H1 H2 H' : Hp}
mutual
theorem Rp.le (e : Le H H') : ∀ (d : D) (v : V), Rp c H d v → Rp c H' d v
  | .non, _, h => h
  | .bl _, _, h => h
  | .int _, _, h => h
  | .str _, _, h => h
  | .pail, _, h => h
  | .scr ns, v, h => by
    unfold Rp at h ⊢
    obtain ⟨a, e1, e2⟩ := h
    exact ⟨a, e1, e2.le e⟩
  | .tup ds, v, h => by
    unfold Rp at h ⊢
    obtain ⟨a, xs, e1, e2, e3⟩ := h
    exact ⟨a, xs, e1, sqt_le e e2, Rps.le e ds xs e3⟩
  | .lst ds, v, h => by
    unfold Rp at h ⊢
    obtain ⟨a, xs, e1, e2, e3⟩ := h
    exact ⟨a, xs, e1, e2.le e, Rps.le e ds xs e3⟩
  | .prog n s b, v, h => by
    unfold Rp at h ⊢
    obtain ⟨a, dx, vn, vs, vb, e1, e2, e3, e4, e5⟩ := h
    exact ⟨a, dx, vn, vs, vb, e1, slt_le e e2, Rp.le e n vn e3, Rp.le e s vs e4, Rp.le e b vb e5⟩
  | .stg s r a, v, h => by
    unfold Rp at h ⊢
    obtain ⟨x, dx, vs, vr, va, e1, e2, e3, e4, e5⟩ := h
    exact ⟨x, dx, vs, vr, va, e1, e _ _ e2 (fun _ z => nomatch z), Rp.le e s vs e3, Rp.le e r vr e4, Rp.le e a va e5⟩
  | .ld l p s, v, h => by
    unfold Rp at h ⊢
    obtain ⟨x, dx, vp, vs, e1, e0, e2, e3, e4⟩ := h
    exact ⟨x, dx, vp, vs, e1, e0, e _ _ e2 (fun _ z => nomatch z), Rp.le e p vp e3, Rp.le e s vs e4⟩
theorem Rps.le (e : Le H H') : ∀ (ds : List D) (vs : List V), Rps c H ds vs → Rps c H' ds vs
  | [], _, h => h
  | d :: ds, vs, h => by
    unfold Rps at h ⊢
    obtain ⟨x, xs, e1, e2, e3⟩ := h
    exact ⟨x, xs, e1, Rp.le e d x e2, Rps.le e ds xs e3⟩
end
theorem Rps.length : ∀ {ds : List D} {vs : List V}, Rps c H ds vs → vs.length = ds.length
  | [], vs, h => by unfold Rps at h; rw [h]; rfl
  | d :: ds, vs, h => by
    unfold Rps at h
    obtain ⟨x, xs, rfl, _, h⟩ := h
    rw [List.length_cons, List.length_cons, Rps.length h]
theorem Rps.get : ∀ {ds : List D} {vs : List V} {i : Nat} {d : D}, Rps c H ds vs → ds[i]? = some d → ∃ v, vs[i]? = some v ∧ Rp c H d v
  | [], _, i, d, _, e => by simp at e
  | d :: ds, vs, i, x, h, e => by
    unfold Rps at h
    obtain ⟨y, ys, rfl, h1, h2⟩ := h
    cases i with
    | zero => simp at e; subst e; exact ⟨y, rfl, h1⟩
    | succ i =>
      obtain ⟨v, e1, e2⟩ := Rps.get (i := i) h2 (by simpa using e)
      exact ⟨v, by simpa using e1, e2⟩
theorem Rps.get' {ds : List D} {vs : List V} {i : Nat} {v : V} (h : Rps c H ds vs) (e : vs[i]? = some v) : ∃ d, ds[i]? = some d ∧ Rp c H d v := by
  have hl : i < ds.length := by rw [← h.length]; exact (List.getElem?_eq_some_iff.mp e).1
  obtain ⟨w, e1, e2⟩ := h.get (i := i) (d := ds[i]) (by simp [hl])
  rw [e] at e1; cases e1
  exact ⟨ds[i], by simp [hl], e2⟩
theorem Rps.append : ∀ {ds es : List D} {vs ws : List V}, Rps c H ds vs → Rps c H es ws → Rps c H (ds ++ es) (vs ++ ws)
  | [], _, _, _, h, h2 => by unfold Rps at h; rw [h]; exact h2
  | d :: ds, es, vs, ws, h, h2 => by
    unfold Rps at h
    obtain ⟨x, xs, rfl, h1, h3⟩ := h
    show Rps c H (d :: (ds ++ es)) (x :: (xs ++ ws))
    unfold Rps
    exact ⟨x, xs ++ ws, rfl, h1, Rps.append h3 h2⟩
theorem Rps.nil : Rps c H [] [] := by unfold Rps; rfl
theorem Rps.cons {d : D} {v : V} {ds : List D} {vs : List V} (h : Rp c H d v) (hs : Rps c H ds vs) : Rps c H (d :: ds) (v :: vs) := by
  unfold Rps; exact ⟨v, vs, rfl, h, hs⟩
theorem Rps.one {d : D} {v : V} (h : Rp c H d v) : Rps c H [d] [v] := .cons h .nil
theorem Rps.set : ∀ {ds : List D} {vs : List V} {d : D} {v : V} (i : Nat), Rps c H ds vs → Rp c H d v → Rps c H (ds.set i d) (vs.set i v)
  | [], _, _, _, _, h, _ => by unfold Rps at h; rw [h]; exact .nil
  | _ :: _, vs, d, v, 0, h, r => by
    unfold Rps at h
    obtain ⟨x, xs, rfl, h1, h3⟩ := h
    exact .cons r h3
  | _ :: _, vs, d, v, i + 1, h, r => by
    unfold Rps at h
    obtain ⟨x, xs, rfl, h1, h3⟩ := h
    exact .cons h1 (Rps.set i h3 r)
theorem Rps.take : ∀ {ds : List D} {vs : List V} (n : Nat), Rps c H ds vs → Rps c H (ds.take n) (vs.take n)
  | _, _, 0, _ => .nil
  | [], _, n + 1, h => by unfold Rps at h; rw [h]; exact .nil
  | _ :: _, vs, n + 1, h => by
    unfold Rps at h
    obtain ⟨x, xs, rfl, h1, h3⟩ := h
    exact .cons h1 (Rps.take n h3)
theorem Rps.drop : ∀ {ds : List D} {vs : List V} (n : Nat), Rps c H ds vs → Rps c H (ds.drop n) (vs.drop n)
  | _, _, 0, h => h
  | [], _, n + 1, h => by unfold Rps at h; rw [h]; exact .nil
  | _ :: _, vs, n + 1, h => by
    unfold Rps at h
    obtain ⟨x, xs, rfl, h1, h3⟩ := h
    exact Rps.drop n h3

/-! ### the slots -/
inductive Sl where
  | no
  | val (d : D)
  | own (ds : List D)
  | raw (v : V)
abbrev Sls := List Sl
/-- the pail: three ints; z of them are draws so far -/
def Pail (H : Hp) (p : Addr) (z : Nat) : Prop := z = 0 ∧ ∃ x y w : Int, H p = some (.lst [.int x, .int y, .int w]) ∧ 0 ≤ x ∧ 0 ≤ y ∧ y < 2147483648
/-- as many draws as there may be -/
def ZL : Nat := 2 ^ 10000
/-- the entry's heap, which of its lists may change, as many draws as there may have been in the end -/
structure Gm where
  H0 : Hp
  io : Addr → Prop
  zt : Nat
/-- n: draws still to come -/
structure RepS (c : Cf) (n : Nat) (G : Gm) (H : Hp) (σ : L2.St) (ss : Sls) (ow : Nat → Addr) : Prop where
  len : σ.length = ss.length
  val : ∀ (i : Nat) d, ss[i]? = some (Sl.val d) → ∃ v, σ[i]? = some (some v) ∧ Rp c H d v
  own : ∀ (i : Nat) ds, ss[i]? = some (Sl.own ds) → σ[i]? = some (some (.ref (ow i))) ∧ ∃ xs, H (ow i) = some (.lst xs) ∧ Rps c H ds xs
  inj : ∀ (i j : Nat) ds es, ss[i]? = some (Sl.own ds) → ss[j]? = some (Sl.own es) → ow i = ow j → i = j
  fr : ∀ (i : Nat) ds, ss[i]? = some (Sl.own ds) → (G.io (ow i) ∨ G.H0 (ow i) = none) ∧ c.pl ≠ some (ow i)
  keep : ∀ b o, G.H0 b = some o → ¬ G.io b → H b = some o
  nl : Le G.H0 H
  al : ∀ b, G.H0 b ≠ none → H b ≠ none
  pl : ∀ p, c.pl = some p → (∃ z, Pail H p z ∧ z + n ≤ G.zt ∧ G.zt ≤ ZL) ∧ G.io p
  raw : ∀ (i : Nat) v, ss[i]? = some (Sl.raw v) → σ[i]? = some (some v)
theorem raw_set {σ : L2.St} {ss : Sls} (h : ∀ (i : Nat) v, ss[i]? = some (Sl.raw v) → σ[i]? = some (some v)) (i : Nat) (x : Sl) (hx : ∀ v, x ≠ .raw v) (o : Option V) : ∀ (j : Nat) v, (ss.set i x)[j]? = some (Sl.raw v) → (σ.set i o)[j]? = some (some v) := fun j v e => by
  by_cases z : i = j
  · subst z
    rw [List.getElem?_set] at e
    by_cases hl : i < ss.length
    · rw [if_pos rfl, if_pos hl] at e
      exact absurd (Option.some.inj e) (hx v)
    · rw [if_pos rfl, if_neg hl] at e
      cases e
  · rw [List.getElem?_set_ne z] at e ⊢
    exact h j v e
theorem raw_setS {σ : L2.St} {ss : Sls} (h : ∀ (i : Nat) v, ss[i]? = some (Sl.raw v) → σ[i]? = some (some v)) (i : Nat) (x : Sl) (hx : ∀ v, x ≠ .raw v) : ∀ (j : Nat) v, (ss.set i x)[j]? = some (Sl.raw v) → σ[j]? = some (some v) := fun j v e => by
  by_cases z : i = j
  · subst z
    rw [List.getElem?_set] at e
    by_cases hl : i < ss.length
    · rw [if_pos rfl, if_pos hl] at e
      exact absurd (Option.some.inj e) (hx v)
    · rw [if_pos rfl, if_neg hl] at e
      cases e
  · rw [List.getElem?_set_ne z] at e
    exact h j v e

/-- the pail alone may have changed, by n draws at the most -/
def Step (c : Cf) (n : Nat) (H H' : Hp) : Prop := (∀ b o, H b = some o → c.pl ≠ some b → H' b = some o) ∧ (∀ p z, c.pl = some p → Pail H p z → ∃ z', z' ≤ z + n ∧ Pail H' p z')
theorem Step.refl (c : Cf) (n : Nat) (H : Hp) : Step c n H H := ⟨fun _ _ h _ => h, fun _ z _ h => ⟨z, Nat.le_add_right _ _, h⟩⟩
theorem Step.trans {m n : Nat} (a : Step c m H H1) (b : Step c n H1 H2) : Step c (m + n) H H2 := ⟨fun x o h n => b.1 x o (a.1 x o h n) n, fun p z e h => by
  obtain ⟨z1, l1, h1⟩ := a.2 p z e h
  obtain ⟨z2, l2, h2⟩ := b.2 p z1 e h1
  exact ⟨z2, by omega, h2⟩⟩
theorem Step.wk {m n : Nat} (a : Step c m H H1) (h : m ≤ n) : Step c n H H1 := ⟨a.1, fun p z e h => by
  obtain ⟨z1, l1, h1⟩ := a.2 p z e h
  exact ⟨z1, by omega, h1⟩⟩
theorem Step.l {m n : Nat} (a : Step c m H H1) : Step c (m + n) H H1 := a.wk (Nat.le_add_right _ _)
theorem Step.then0 {m : Nat} (a : Step c m H H1) (b : Step c 0 H1 H2) : Step c m H H2 := a.trans b
theorem Step.new {n : Nat} {p : Addr} {o : HO} (h : H p = none) : Step c n H (upd H p o) := ⟨fun b u e _ => by rw [upd_ne (ne_of_none e h)]; exact e, fun q z _ ⟨z0, x, y, w, e, r⟩ => ⟨z, Nat.le_add_right _ _, z0, x, y, w, by rw [upd_ne (ne_of_none e h)]; exact e, r⟩⟩
theorem Step.same {n : Nat} (h : Same H H') : Step c n H H' := ⟨fun b o e _ => h b o e, fun q z _ ⟨z0, x, y, w, e, r⟩ => ⟨z, Nat.le_add_right _ _, z0, x, y, w, h _ _ e, r⟩⟩
/-- a thing that H does not know may change -/
theorem Step.mut {n : Nat} {p : Addr} {o : HO} (s : Step c n H H1) (h : H p = none) : Step c n H (upd H1 p o) := ⟨fun b u e n => by rw [upd_ne (ne_of_none e h)]; exact s.1 b u e n, fun q z eq hq => by
  obtain ⟨z', l, z0, x', y', w', e', r'⟩ := s.2 q z eq hq
  obtain ⟨_, x, y, w, e, r⟩ := hq
  exact ⟨z', l, z0, x', y', w', by rw [upd_ne (ne_of_none e h)]; exact e', r'⟩⟩
def PlOk (c : Cf) (H : Hp) : Prop := ∀ p, c.pl = some p → ∃ z, Pail H p z
variable {n : Nat}
theorem Step.le (s : Step c n H H') (hp : PlOk c H) : Le H H' := fun b o e n => s.1 b o e fun z => by
  obtain ⟨_, _, x, y, w, h, _⟩ := hp b z
  rw [h] at e
  cases e
  exact n _ rfl
theorem Step.pl (s : Step c n H H') (hp : PlOk c H) : PlOk c H' := fun p e => by
  obtain ⟨z, h⟩ := hp p e
  obtain ⟨z', _, h'⟩ := s.2 p z e h
  exact ⟨z', h'⟩
theorem Step.al (s : Step c n H H') (hp : PlOk c H) {b : Addr} (h1 : H b ≠ none) : H' b ≠ none := by
  cases q : H b with
  | none => exact absurd q h1
  | some o =>
    by_cases z : c.pl = some b
    · obtain ⟨_, _, x, y, w, h, _⟩ := s.pl hp b z
      rw [h]; exact fun q => nomatch q
    · rw [s.1 b o q z]; exact fun q => nomatch q
theorem Step.free (s : Step c n H H') (hp : PlOk c H) {b : Addr} (h1 : H' b = none) : H b = none := by
  cases q : H b with
  | none => rfl
  | some o => exact absurd h1 (s.al hp (by rw [q]; exact fun q => nomatch q))
section
variable {G : Gm} {σ : L2.St} {ss : Sls} {ow : Nat → Addr}
theorem RepS.pail (R : RepS c n G H σ ss ow) : PlOk c H := fun p e => let ⟨⟨z, h, _⟩, _⟩ := R.pl p e; ⟨z, h⟩
theorem RepS.le (R : RepS c n G H σ ss ow) {m : Nat} (s : Step c m H H') : Le H H' := s.le R.pail
theorem RepS.wk {m : Nat} (R : RepS c m G H σ ss ow) (h : n ≤ m) : RepS c n G H σ ss ow := ⟨R.len, R.val, R.own, R.inj, R.fr, R.keep, R.nl, R.al, fun p e => by
  obtain ⟨⟨z, h1, h2, h3⟩, h4⟩ := R.pl p e
  exact ⟨⟨z, h1, by omega, h3⟩, h4⟩, R.raw⟩
theorem RepS.l {m : Nat} (R : RepS c (m + n) G H σ ss ow) : RepS c m G H σ ss ow := R.wk (Nat.le_add_right _ _)
theorem RepS.r {m : Nat} (R : RepS c (m + n) G H σ ss ow) : RepS c n G H σ ss ow := R.wk (Nat.le_add_left _ _)
theorem RepS.step {m : Nat} (R : RepS c (m + n) G H σ ss ow) (s : Step c m H H') : RepS c n G H' σ ss ow where
  len := R.len
  val := fun i d e => let ⟨v, e1, e2⟩ := R.val i d e; ⟨v, e1, e2.le (R.le s) _ _⟩
  own := fun i ds e => by
    obtain ⟨e1, xs, e2, e3⟩ := R.own i ds e
    exact ⟨e1, xs, s.1 _ _ e2 (R.fr i ds e).2, e3.le (R.le s) _ _⟩
  inj := R.inj
  fr := R.fr
  keep := fun b o e n => s.1 b o (R.keep b o e n) fun z => n (R.pl b z).2
  nl := R.nl.trans (R.le s)
  al := fun b e => s.al R.pail (R.al b e)
  pl := fun p e => by
    obtain ⟨⟨z, h1, h2, h3⟩, h4⟩ := R.pl p e
    obtain ⟨z', l, h5⟩ := s.2 p z e h1
    exact ⟨⟨z', h5, by omega, h3⟩, h4⟩
  raw := R.raw
theorem RepS.step0 (R : RepS c n G H σ ss ow) (s : Step c 0 H H') : RepS c n G H' σ ss ow := RepS.step (m := 0) (R.wk (by omega)) s
theorem RepS.stepn {m : Nat} (R : RepS c m G H σ ss ow) (s : Step c m H H') : RepS c 0 G H' σ ss ow := RepS.step (n := 0) (m := m) (R.wk (by omega)) s
/-- a slot is stored: a datum -/
theorem RepS.set (R : RepS c n G H σ ss ow) (i : Nat) {d : D} {v : V} (r : Rp c H d v) : RepS c n G H (σ.set i (some v)) (ss.set i (.val d)) ow := by
  have pick : ∀ (j : Nat) ds, (ss.set i (.val d))[j]? = some (Sl.own ds) → ss[j]? = some (Sl.own ds) ∧ j ≠ i := fun j ds e => by
    by_cases h : i = j
    · subst h
      rw [List.getElem?_set] at e
      simp at e
    · rw [List.getElem?_set_ne h] at e
      exact ⟨e, Ne.symm h⟩
  refine ⟨by simp [R.len], fun j e he => ?_, fun j ds he => ?_, fun j k ds es h1 h2 => ?_, fun j ds he => R.fr j ds (pick j ds he).1, R.keep, R.nl, R.al, R.pl, raw_set R.raw i _ (fun _ z => Sl.noConfusion z) _⟩
  · by_cases h : i = j
    · subst h
      rw [List.getElem?_set] at he
      by_cases hl : i < ss.length
      · rw [if_pos rfl, if_pos hl] at he
        cases he
        exact ⟨v, by rw [List.getElem?_set_self (by rw [R.len]; exact hl)], r⟩
      · rw [if_pos rfl, if_neg hl] at he
        cases he
    · rw [List.getElem?_set_ne h] at he
      obtain ⟨w, e1, e2⟩ := R.val j e he
      exact ⟨w, by rw [List.getElem?_set_ne h]; exact e1, e2⟩
  · obtain ⟨e, n⟩ := pick j ds he
    obtain ⟨e1, q⟩ := R.own j ds e
    exact ⟨by rw [List.getElem?_set_ne (Ne.symm n)]; exact e1, q⟩
  · exact R.inj j k ds es (pick j ds h1).1 (pick k es h2).1
/-- a slot is forgotten -/
theorem RepS.no (R : RepS c n G H σ ss ow) (i : Nat) (o : Option V) : RepS c n G H (σ.set i o) (ss.set i .no) ow := by
  have pick : ∀ (j : Nat) (x : Sl), x ≠ .no → (ss.set i .no)[j]? = some x → ss[j]? = some x ∧ i ≠ j := fun j x hx e => by
    by_cases h : i = j
    · subst h
      rw [List.getElem?_set] at e
      by_cases hl : i < ss.length
      · rw [if_pos rfl, if_pos hl] at e
        exact absurd (Option.some.inj e).symm hx
      · rw [if_pos rfl, if_neg hl] at e
        cases e
    · rw [List.getElem?_set_ne h] at e
      exact ⟨e, h⟩
  refine ⟨by simp [R.len], fun j e he => ?_, fun j ds he => ?_, fun j k ds es h1 h2 => ?_, fun j ds he => R.fr j ds (pick j (Sl.own ds) (fun z => Sl.noConfusion z) he).1, R.keep, R.nl, R.al, R.pl, raw_set R.raw i _ (fun _ z => Sl.noConfusion z) _⟩
  · obtain ⟨q, n⟩ := pick j (Sl.val e) (fun z => Sl.noConfusion z) he
    obtain ⟨w, e1, e2⟩ := R.val j e q
    exact ⟨w, by rw [List.getElem?_set_ne n]; exact e1, e2⟩
  · obtain ⟨q, n⟩ := pick j (Sl.own ds) (fun z => Sl.noConfusion z) he
    obtain ⟨e1, z⟩ := R.own j ds q
    exact ⟨by rw [List.getElem?_set_ne n]; exact e1, z⟩
  · exact R.inj j k ds es (pick j (Sl.own ds) (fun z => Sl.noConfusion z) h1).1 (pick k (Sl.own es) (fun z => Sl.noConfusion z) h2).1
/-- a slot is stored: a new list of the frame's own -/
theorem RepS.setO {m : Nat} (R : RepS c (m + n) G H σ ss ow) (s : Step c m H H1) {i : Nat} {q : Addr} {xs : List V} {ds : List D} (hq : H q = none) (h1 : H1 q = some (.lst xs)) (r : Rps c H1 ds xs) :
    RepS c n G H1 (σ.set i (some (.ref q))) (ss.set i (.own ds)) (fun j => if j = i then q else ow j) := by
  have R1 := R.step s
  have qn : ∀ j es, ss[j]? = some (Sl.own es) → ow j ≠ q := fun j es e z => by
    obtain ⟨_, ys, e2, _⟩ := R.own j es e
    rw [z, hq] at e2
    cases e2
  have pick : ∀ (j : Nat) es, (ss.set i (.own ds))[j]? = some (Sl.own es) → (j = i ∧ es = ds ∧ i < ss.length) ∨ (j ≠ i ∧ ss[j]? = some (Sl.own es)) := fun j es e => by
    by_cases h : i = j
    · subst h
      rw [List.getElem?_set] at e
      by_cases hl : i < ss.length
      · rw [if_pos rfl, if_pos hl] at e
        cases e
        exact .inl ⟨rfl, rfl, hl⟩
      · rw [if_pos rfl, if_neg hl] at e
        cases e
    · rw [List.getElem?_set_ne h] at e
      exact .inr ⟨Ne.symm h, e⟩
  refine ⟨by simp [R.len], fun j e he => ?_, fun j es he => ?_, fun j k es fs a1 a2 => ?_, fun j es he => ?_, R1.keep, R1.nl, R1.al, R1.pl, raw_set R1.raw i _ (fun _ z => Sl.noConfusion z) _⟩
  · have h : i ≠ j := fun z => by
      subst z
      rw [List.getElem?_set] at he
      by_cases hl : i < ss.length
      · rw [if_pos rfl, if_pos hl] at he
        cases he
      · rw [if_pos rfl, if_neg hl] at he
        cases he
    rw [List.getElem?_set_ne h] at he
    obtain ⟨w, e1, e2⟩ := R1.val j e he
    exact ⟨w, by rw [List.getElem?_set_ne h]; exact e1, e2⟩
  · rcases pick j es he with ⟨a, b, l⟩ | ⟨a, b⟩
    · subst a b
      show (σ.set j (some (.ref q)))[j]? = some (some (.ref (if j = j then q else ow j))) ∧ ∃ ys, H1 (if j = j then q else ow j) = some (.lst ys) ∧ Rps c H1 es ys
      rw [if_pos rfl]
      exact ⟨by rw [List.getElem?_set_self (by rw [R.len]; exact l)], xs, h1, r⟩
    · show (σ.set i (some (.ref q)))[j]? = some (some (.ref (if j = i then q else ow j))) ∧ ∃ ys, H1 (if j = i then q else ow j) = some (.lst ys) ∧ Rps c H1 es ys
      rw [if_neg a]
      obtain ⟨e1, z⟩ := R1.own j es b
      exact ⟨by rw [List.getElem?_set_ne (Ne.symm a)]; exact e1, z⟩
  · show (if j = i then q else ow j) = (if k = i then q else ow k) → j = k
    rcases pick j es a1 with ⟨a, _, _⟩ | ⟨a, b⟩
    · rcases pick k fs a2 with ⟨a', _, _⟩ | ⟨a', b'⟩
      · exact fun _ => a.trans a'.symm
      · rw [if_pos a, if_neg a']
        exact fun z => absurd z.symm (qn k fs b')
    · rcases pick k fs a2 with ⟨a', _, _⟩ | ⟨a', b'⟩
      · rw [if_neg a, if_pos a']
        exact fun z => absurd z (qn j es b)
      · rw [if_neg a, if_neg a']
        exact R.inj j k es fs b b'
  · show (G.io (if j = i then q else ow j) ∨ G.H0 (if j = i then q else ow j) = none) ∧ c.pl ≠ some (if j = i then q else ow j)
    rcases pick j es he with ⟨a, b, l⟩ | ⟨a, b⟩
    · rw [if_pos a]
      refine ⟨.inr ?_, fun z => ?_⟩
      · cases e : G.H0 q with
        | none => rfl
        | some o => exact absurd hq (R.al q (by rw [e]; exact fun q => nomatch q))
      · obtain ⟨_, _, x, y, w, e, _⟩ := R.pail q z
        rw [hq] at e
        cases e
    · rw [if_neg a]
      exact R.fr j es b
/-- a list of the frame's own changes -/
theorem RepS.mutO (R : RepS c n G H σ ss ow) {i : Nat} {ds es : List D} {ys : List V} (ho : ss[i]? = some (Sl.own ds)) (r : Rps c H es ys) :
    RepS c n G (upd H (ow i) (.lst ys)) σ (ss.set i (.own es)) ow := by
  obtain ⟨hσ, xs, hx, _⟩ := R.own i ds ho
  have hl : i < ss.length := (List.getElem?_eq_some_iff.mp ho).1
  have le : Le H (upd H (ow i) (.lst ys)) := Le.put hx
  have pick : ∀ (j : Nat) fs, (ss.set i (.own es))[j]? = some (Sl.own fs) → (j = i ∧ fs = es) ∨ (j ≠ i ∧ ss[j]? = some (Sl.own fs)) := fun j fs e => by
    by_cases h : i = j
    · subst h
      rw [List.getElem?_set, if_pos rfl, if_pos hl] at e
      cases e
      exact .inl ⟨rfl, rfl⟩
    · rw [List.getElem?_set_ne h] at e
      exact .inr ⟨Ne.symm h, e⟩
  have was : ∀ (j : Nat) fs, (ss.set i (.own es))[j]? = some (Sl.own fs) → ∃ gs, ss[j]? = some (Sl.own gs) := fun j fs e => by
    rcases pick j fs e with ⟨a, _⟩ | ⟨_, b⟩
    · exact ⟨ds, by rw [a]; exact ho⟩
    · exact ⟨fs, b⟩
  refine ⟨by simp [R.len], fun j e he => ?_, fun j fs he => ?_, fun j k fs gs a1 a2 => ?_, fun j fs he => ?_, fun b o e n => ?_, R.nl.trans le, fun b e => ?_, fun p e => ?_, raw_setS R.raw i _ (fun _ z => Sl.noConfusion z)⟩
  · have h : i ≠ j := fun z => by
      subst z
      rw [List.getElem?_set, if_pos rfl, if_pos hl] at he
      cases he
    rw [List.getElem?_set_ne h] at he
    obtain ⟨w, e1, e2⟩ := R.val j e he
    exact ⟨w, e1, e2.le le _ _⟩
  · rcases pick j fs he with ⟨a, b⟩ | ⟨a, b⟩
    · subst a b
      exact ⟨hσ, ys, upd_same, r.le le _ _⟩
    · obtain ⟨e1, zs, e2, e3⟩ := R.own j fs b
      refine ⟨e1, zs, ?_, e3.le le _ _⟩
      rw [upd_ne fun z => a (R.inj j i fs ds b ho z)]
      exact e2
  · obtain ⟨fs', h1⟩ := was j fs a1
    obtain ⟨gs', h2⟩ := was k gs a2
    exact R.inj j k fs' gs' h1 h2
  · obtain ⟨fs', h1⟩ := was j fs he
    exact R.fr j fs' h1
  · rw [upd_ne fun z => ?_]
    · exact R.keep b o e n
    · subst z
      rcases (R.fr i ds ho).1 with q | q
      · exact n q
      · rw [q] at e
        cases e
  · by_cases z : b = ow i
    · rw [z, upd_same]
      exact fun q => nomatch q
    · rw [upd_ne z]
      exact R.al b e
  · obtain ⟨⟨w, ⟨w0, x, y, w1, q, rest⟩, l1, l2⟩, z⟩ := R.pl p e
    refine ⟨⟨w, ⟨w0, x, y, w1, ?_, rest⟩, l1, l2⟩, z⟩
    rw [upd_ne fun k => (R.fr i ds ho).2 (by rw [← k]; exact e)]
    exact q
/-- a list of the frame's own stays as it is from now on -/
theorem RepS.frz (R : RepS c n G H σ ss ow) {i : Nat} {ds : List D} {xs : List V} {o : Obj} (ho : ss[i]? = some (Sl.own ds)) (hx : H (ow i) = some (.lst xs)) :
    RepS c n G (upd H (ow i) (.frz o (.lst xs))) σ (ss.set i (.val (.lst ds))) ow := by
  obtain ⟨hσ, xs', hx', r⟩ := R.own i ds ho
  rw [hx] at hx'
  cases hx'
  have hl : i < ss.length := (List.getElem?_eq_some_iff.mp ho).1
  have le : Le H (upd H (ow i) (.frz o (.lst xs))) := Le.put hx
  have pick : ∀ (j : Nat) fs, (ss.set i (.val (.lst ds)))[j]? = some (Sl.own fs) → j ≠ i ∧ ss[j]? = some (Sl.own fs) := fun j fs e => by
    by_cases h : i = j
    · subst h
      rw [List.getElem?_set, if_pos rfl, if_pos hl] at e
      cases e
    · rw [List.getElem?_set_ne h] at e
      exact ⟨Ne.symm h, e⟩
  refine ⟨by simp [R.len], fun j e he => ?_, fun j fs he => ?_, fun j k fs gs a1 a2 => R.inj j k fs gs (pick j fs a1).2 (pick k gs a2).2, fun j fs he => R.fr j fs (pick j fs he).2, fun b u e n => ?_, R.nl.trans le, fun b e => ?_, fun p e => ?_, raw_setS R.raw i _ (fun _ z => Sl.noConfusion z)⟩
  · by_cases h : i = j
    · subst h
      rw [List.getElem?_set, if_pos rfl, if_pos hl] at he
      cases he
      refine ⟨_, hσ, ?_⟩
      unfold Rp
      exact ⟨_, xs, rfl, ⟨o, upd_same⟩, r.le le _ _⟩
    · rw [List.getElem?_set_ne h] at he
      obtain ⟨w, e1, e2⟩ := R.val j e he
      exact ⟨w, e1, e2.le le _ _⟩
  · obtain ⟨n, b⟩ := pick j fs he
    obtain ⟨e1, zs, e2, e3⟩ := R.own j fs b
    refine ⟨e1, zs, ?_, e3.le le _ _⟩
    rw [upd_ne fun z => n (R.inj j i fs ds b ho z)]
    exact e2
  · rw [upd_ne fun z => ?_]
    · exact R.keep b u e n
    · subst z
      rcases (R.fr i ds ho).1 with q | q
      · exact n q
      · rw [q] at e
        cases e
  · by_cases z : b = ow i
    · rw [z, upd_same]
      exact fun q => nomatch q
    · rw [upd_ne z]
      exact R.al b e
  · obtain ⟨⟨w, ⟨w0, x, y, w1, q, rest⟩, l1, l2⟩, z⟩ := R.pl p e
    refine ⟨⟨w, ⟨w0, x, y, w1, ?_, rest⟩, l1, l2⟩, z⟩
    rw [upd_ne fun k => (R.fr i ds ho).2 (by rw [← k]; exact e)]
    exact q
/-! ### a new beginning -/
def Gm.re (G : Gm) (H : Hp) (ss : Sls) (ow : Nat → Addr) : Gm := ⟨H, fun b => G.io b ∨ ∃ (i : Nat) (ds : List D), ss[i]? = some (Sl.own ds) ∧ ow i = b, G.zt⟩
theorem RepS.re (R : RepS c n G H σ ss ow) : RepS c n (G.re H ss ow) H σ ss ow where
  len := R.len
  val := R.val
  own := R.own
  inj := R.inj
  fr := fun i ds e => ⟨.inl (.inr ⟨i, ds, e, rfl⟩), (R.fr i ds e).2⟩
  keep := fun _ _ e _ => e
  nl := Le.refl H
  al := fun _ e => e
  pl := fun p e => ⟨(R.pl p e).1, .inl (R.pl p e).2⟩
  raw := R.raw
theorem RepS.back {m : Nat} {σ' : L2.St} {ss' : Sls} {ow' : Nat → Addr} (R : RepS c n G H σ ss ow) (R' : RepS c m (G.re H ss ow) H' σ' ss' ow') : RepS c m G H' σ' ss' ow' where
  len := R'.len
  val := R'.val
  own := R'.own
  inj := R'.inj
  fr := fun i ds e => by
    obtain ⟨h, n⟩ := R'.fr i ds e
    refine ⟨?_, n⟩
    rcases h with (h | ⟨j, es, e1, e2⟩) | h
    · exact .inl h
    · have q := (R.fr j es e1).1
      rw [e2] at q
      exact q
    · refine .inr ?_
      cases q : G.H0 (ow' i) with
      | none => rfl
      | some o => exact absurd h (R.al _ (by rw [q]; exact fun q => nomatch q))
  keep := fun b o e n => R'.keep b o (R.keep b o e n) fun h => by
    rcases h with h | ⟨j, es, e1, e2⟩
    · exact n h
    · rcases (R.fr j es e1).1 with q | q
      · rw [e2] at q
        exact n q
      · rw [e2, e] at q
        cases q
  nl := R.nl.trans R'.nl
  al := fun b e => R'.al b (R.al b e)
  pl := fun p e => ⟨(R'.pl p e).1, (R.pl p e).2⟩
  raw := R'.raw
end
end DL
set_option maxRecDepth 100000
set_option maxHeartbeats 2000000
namespace DL
open PySem PySem.Spec PyProof.Rows L2
/-! ### readings over data -/
/-- n: so many draws at the most -/
structure DE where
  n : Nat
  f : Sls → (D → Prop) → Prop
structure DT where
  n : Nat
  f : Sls → (Bool → Prop) → Prop
structure DA where
  n : Nat
  f : Sls → (List D → Prop) → Prop
instance : CoeFun DE fun _ => Sls → (D → Prop) → Prop := ⟨DE.f⟩
instance : CoeFun DT fun _ => Sls → (Bool → Prop) → Prop := ⟨DT.f⟩
instance : CoeFun DA fun _ => Sls → (List D → Prop) → Prop := ⟨DA.f⟩
structure DEnds where
  nx : Sls → Prop
  rt : D → Sls → Prop
  bk : Sls → Prop := fun _ => False
  ct : Sls → Prop := fun _ => False
structure DS where
  n : Nat
  f : DEnds → Sls → Prop
instance : CoeFun DS fun _ => DEnds → Sls → Prop := ⟨DS.f⟩
section
variable (c : Cf) (G : Gm)
def up (d : DE) : TE := fun σ H Q => ∃ ss ow P, RepS c d.n G H σ ss ow ∧ d ss P ∧ ∀ x v H', Step c d.n H H' → Rp c H' x v → P x → Q v H'
def upT (d : DT) : TT := fun σ H Q => ∃ ss ow P, RepS c d.n G H σ ss ow ∧ d ss P ∧ ∀ b H', Step c d.n H H' → P b → Q b H'
def upA (d : DA) : TA := fun σ H Q => ∃ ss ow P, RepS c d.n G H σ ss ow ∧ d ss P ∧ ∀ xs vs H', Step c d.n H H' → Rps c H' xs vs → P xs → Q vs H'
/-- a new list -/
def upL (d : DA) : TE := fun σ H Q => ∃ ss ow P, RepS c d.n G H σ ss ow ∧ d ss P ∧ ∀ ds q xs H', Step c d.n H H' → H q = none → H' q = some (.lst xs) → Rps c H' ds xs → P ds → Q (.ref q) H'
structure Lnk (r : Nat) (E : DEnds) (D' : Ends) : Prop where
  nx : ∀ σ H ss ow, RepS c r G H σ ss ow → E.nx ss → D'.nx σ H
  rt : ∀ σ H ss ow x v, RepS c r G H σ ss ow → Rp c H x v → E.rt x ss → D'.rt v H
  bk : ∀ σ H ss ow, RepS c r G H σ ss ow → E.bk ss → D'.bk σ H
  ct : ∀ σ H ss ow, RepS c r G H σ ss ow → E.ct ss → D'.ct σ H
def upS (t : DS) : TS := fun D' σ H => ∃ ss ow E r, RepS c (t.n + r) G H σ ss ow ∧ t E ss ∧ Lnk c G r E D'
end
theorem peOf {X : Cx} {e : Expr} {t t' : TE} (h : PE X e t') (w : ∀ σ H Q, t σ H Q → t' σ H Q) : PE X e t := ⟨fun pins s σ H Q I q => h.run pins s σ H Q I (w σ H Q q)⟩
theorem ptOf {X : Cx} {e : Expr} {t t' : TT} (h : PT X e t') (w : ∀ σ H Q, t σ H Q → t' σ H Q) : PT X e t := ⟨fun pins s σ H Q I q => h.run pins s σ H Q I (w σ H Q q)⟩
theorem pwOf {X : Cx} {e : Expr} {t t' : TT} (h : PW X e t') (w : ∀ σ H Q, t σ H Q → t' σ H Q) : PW X e t := ⟨fun wh pins s σ H Q I q => h.run wh pins s σ H Q I (w σ H Q q)⟩
theorem paOf {X : Cx} {es : List Expr} {t t' : TA} (h : PA X es t') (w : ∀ σ H Q, t σ H Q → t' σ H Q) : PA X es t := ⟨fun pos pins s σ H Q I q => h.run pos pins s σ H Q I (w σ H Q q)⟩
theorem psOf {X : Cx} {st : Stmt} {t t' : TS} (h : PS X st t') (w : ∀ D σ H, t D σ H → t' D σ H) : PS X st t := ⟨fun pins s σ H D I q => h.run pins s σ H D I (w D σ H q)⟩
theorem pssOf {X : Cx} {st : List Stmt} {t t' : TS} (h : PSs X st t') (w : ∀ D σ H, t D σ H → t' D σ H) : PSs X st t := ⟨fun pins s σ H D I q => h.run pins s σ H D I (w D σ H q)⟩

section
variable {X : Cx} {p : Option Addr} {G : Gm} {pos : Pos} {a b e : Expr} {da db : DE}
/-! ### names, constants -/
def dVar (i : Nat) : DE := ⟨0, fun ss Q => match ss[i]? with
  | some (Sl.val d) => Q d
  | _ => False⟩
def dC (d : D) : DE := ⟨0, fun _ Q => Q d⟩
theorem pd_of {i : Nat} (h : PE X e (tVar i)) : PE X e (up ⟨X.K, p⟩ G (dVar i)) := peOf h fun σ H Q ⟨ss, ow, P, R, h, k⟩ => by
  simp only [dVar] at h
  split at h
  · rename_i d hd
    obtain ⟨v, e1, e2⟩ := R.val i d hd
    exact ⟨v, e1, k d v H (Step.refl _ _ _) e2 h⟩
  · exact h.elim
theorem pd_var (i : Nat) {x : Str} (hN : X.N[i]? = some x := by rfl) (hv : Vis X.env.scope x := by first | exact Or.inl rfl | exact Or.inr (Or.inl rfl) | exact Or.inr (Or.inr rfl)) (hd : (x == ("__debug__" : Str)) = false := by decide)
    (hcd : (x == ("__classdict__" : Str)) = false := by decide) : PE X (.Name x pos) (up ⟨X.K, p⟩ G (dVar i)) := pd_of (pe_var hN hv hd hcd)
theorem pd_c {d : D} {v : V} (h : PE X e (tC v)) (r : ∀ c H, Rp c H d v) : PE X e (up ⟨X.K, p⟩ G (dC d)) := peOf h fun σ H Q ⟨ss, ow, P, R, h, k⟩ => k d v H (Step.refl _ _ _) (r _ _) h
theorem pd_int {i j} : PE X (.Constant (.int i) j pos) (up ⟨X.K, p⟩ G (dC (.int i))) := pd_c pe_int fun _ _ => rfl
theorem pd_bl {i j} : PE X (.Constant (.bool i) j pos) (up ⟨X.K, p⟩ G (dC (.bl i))) := pd_c pe_bl fun _ _ => rfl
theorem pd_non {j} : PE X (.Constant .none j pos) (up ⟨X.K, p⟩ G (dC .non)) := pd_c pe_non fun _ _ => rfl
theorem pd_str {x j} : PE X (.Constant (.str x) j pos) (up ⟨X.K, p⟩ G (dC (.str x))) := pd_c pe_str fun _ _ => rfl
/-- a module's int, text -/
theorem pd_gint {x : Str} {i : Int} (hm : ∃ t, X.mg x = some (.int i t)) (hg : Gl X x := by rfl) (hd : (x == ("__debug__" : Str)) = false := by decide) : PE X (.Name x pos) (up ⟨X.K, p⟩ G (dC (.int i))) := by
  obtain ⟨t, hm⟩ := hm
  exact pd_c (pe_glob hg hm (v := .int i) ⟨t, rfl⟩ hd) fun _ _ => rfl
theorem pd_gstr {x z : Str} (hm : ∃ t, X.mg x = some (.str z t)) (hg : Gl X x := by rfl) (hd : (x == ("__debug__" : Str)) = false := by decide) : PE X (.Name x pos) (up ⟨X.K, p⟩ G (dC (.str z))) := by
  obtain ⟨t, hm⟩ := hm
  exact pd_c (pe_glob hg hm (v := .str z) ⟨t, rfl⟩ hd) fun _ _ => rfl

/-! ### lists of arguments, tuples, lists -/
def dNil : DA := ⟨0, fun _ Q => Q []⟩
def dCons (a : DE) (r : DA) : DA := ⟨a.n + r.n, fun ss Q => a ss fun x => r ss fun xs => Q (x :: xs)⟩
theorem ad_nil : PA X [] (upA ⟨X.K, p⟩ G dNil) := paOf pa_nil fun σ H Q ⟨ss, ow, P, R, h, k⟩ => k [] [] H (Step.refl _ _ _) .nil h
theorem ad_cons {es : List Expr} {dr : DA} (ha : PE X e (up ⟨X.K, p⟩ G da)) (hr : PA X es (upA ⟨X.K, p⟩ G dr)) (hs : starEach (e :: es) X.env = (false, eval e X.env) :: starEach es X.env := by rfl) : PA X (e :: es) (upA ⟨X.K, p⟩ G (dCons da dr)) :=
  paOf (pa_cons ha hr hs) fun σ H Q ⟨ss, ow, P, R, h, k⟩ => ⟨ss, ow, _, R.l, h, fun x v H1 s1 r1 p1 => ⟨ss, ow, _, R.step s1, p1, fun xs vs H2 s2 r2 p2 => k (x :: xs) (v :: vs) H2 (s1.trans s2) (.cons (r1.le ((R.step s1).le s2) _ _) r2) p2⟩⟩
/-- *e: the items of a tuple, of a list -/
def items (d : D) (Q : List D → Prop) : Prop := match d with
  | .tup ds => Q ds
  | .lst ds => Q ds
  | _ => False
def dStar (a : DE) (r : DA) : DA := ⟨a.n + r.n, fun ss Q => a ss fun x => items x fun ys => r ss fun xs => Q (ys ++ xs)⟩
theorem Rp.items_of {c : Cf} {H : Hp} {d : D} {v : V} {P : List D → Prop} (r : Rp c H d v) (h : items d P) : ∃ ds a xs, v = .ref a ∧ (SqT c.K H a xs ∨ SqF H a xs) ∧ Rps c H ds xs ∧ P ds ∧ (d = .tup ds ∧ SqT c.K H a xs ∨ d = .lst ds ∧ SqF H a xs) := by
  cases d with
  | tup ds =>
    unfold Rp at r
    obtain ⟨a, xs, e, h1, h2⟩ := r
    exact ⟨ds, a, xs, e, .inl h1, h2, h, .inl ⟨rfl, h1⟩⟩
  | lst ds =>
    unfold Rp at r
    obtain ⟨a, xs, e, h1, h2⟩ := r
    exact ⟨ds, a, xs, e, .inr h1, h2, h, .inr ⟨rfl, h1⟩⟩
  | _ => exact h.elim
theorem ad_star {es : List Expr} {dr : DA} {q : Pos} (ha : PE X e (up ⟨X.K, p⟩ G da)) (hr : PA X es (upA ⟨X.K, p⟩ G dr)) : PA X (.Starred e q :: es) (upA ⟨X.K, p⟩ G (dStar da dr)) :=
  paOf (StX.pa_star ha hr) fun σ H Q ⟨ss, ow, P, R, h, k⟩ => ⟨ss, ow, _, R.l, h, fun x v H1 s1 r1 p1 => by
    obtain ⟨ds, a, xs, e, h1, h2, h3, _⟩ := r1.items_of p1
    exact ⟨a, xs, e, h1.imp_right SqF.l, ss, ow, _, R.step s1, h3, fun ys vs H2 s2 r2 p2 => k _ _ H2 (s1.trans s2) ((h2.le ((R.step s1).le s2) _ _).append r2) p2⟩⟩
def small (n : Nat) : Prop := n ≤ 1000000
theorem small.z {n : Nat} (h : small n) : n ≤ sizeLine := Nat.le_trans h (by decide)
theorem small.lt {n : Nat} (h : small n) : n < sizeLine := Nat.lt_of_le_of_lt h (by decide)
def dTup (t : DA) : DE := ⟨t.n, fun ss Q => t ss fun ds => small ds.length ∧ Q (.tup ds)⟩
theorem pd_tup {es : List Expr} {dt : DA} {k1} (h : PA X es (upA ⟨X.K, p⟩ G dt)) : PE X (.Tuple es k1 pos) (up ⟨X.K, p⟩ G (dTup dt)) :=
  peOf (pe_tup h) fun σ H Q ⟨ss, ow, P, R, h, k⟩ => ⟨ss, ow, _, R, h, fun xs vs H1 s1 r1 ⟨z, p1⟩ => ⟨by rw [r1.length]; exact z.z, fun q hq => k (.tup xs) (.ref q) _ (s1.then0 (Step.new hq)) (by unfold Rp; exact ⟨q, vs, rfl, SqT.of upd_same, r1.le (Le.new hq) _ _⟩) p1⟩⟩
def dLst (t : DA) : DA := ⟨t.n, fun ss Q => t ss fun ds => small ds.length ∧ Q ds⟩
theorem pl_lst {es : List Expr} {dt : DA} (h : PA X es (upA ⟨X.K, p⟩ G dt)) : PE X (.List es pos) (upL ⟨X.K, p⟩ G (dLst dt)) :=
  peOf (pe_lst h) fun σ H Q ⟨ss, ow, P, R, h, k⟩ => ⟨ss, ow, _, R, h, fun xs vs H1 s1 r1 ⟨z, p1⟩ => ⟨by rw [r1.length]; exact z.z, fun q hq => k xs q vs _ (s1.then0 (Step.new hq)) (s1.free R.pail hq) upd_same (r1.le (Le.new hq) _ _) p1⟩⟩
/-- a new list, from now on as it is -/
def tFrz (t : TE) : TE := fun σ H Q => t σ H fun v H1 => ∃ a xs, v = .ref a ∧ H1 a = some (.lst xs) ∧ ∀ o, Q v (upd H1 a (.frz o (.lst xs)))
theorem pe_frz {t : TE} (h : PE X e t) : PE X e (tFrz t) := ⟨fun pins s σ H Q I q => thn (h.run pins s σ H _ I q) fun u s1 ⟨v, H1, I1, r, a, xs, ev, ha, k⟩ => by
  obtain ⟨o, I2⟩ := I1.lock ha True.intro
  exact ⟨v, _, I2, r, k o⟩⟩
def dL (t : DA) : DE := ⟨t.n, fun ss Q => t ss fun ds => Q (.lst ds)⟩
theorem pd_l {dt : DA} (h : PE X e (upL ⟨X.K, p⟩ G dt)) : PE X e (up ⟨X.K, p⟩ G (dL dt)) :=
  peOf (pe_frz h) fun σ H Q ⟨ss, ow, P, R, h, k⟩ => ⟨ss, ow, _, R, h, fun ds q xs H1 s1 hq h1 r1 p1 => ⟨q, xs, rfl, h1, fun o => k (.lst ds) (.ref q) _ (s1.mut hq) (by unfold Rp; exact ⟨q, xs, rfl, ⟨o, upd_same⟩, r1.le (Le.put h1) _ _⟩) p1⟩⟩

/-! ### operators by values -/
abbrev F2 := D → D → (D → Prop) → Prop
def LR (c : Cf) (r : R2) (f : F2) : Prop := ∀ H x y u v (P : D → Prop) (Q : VK), PlOk c H → Rp c H x u → Rp c H y v → f x y P → (∀ z w H', Step c 0 H H' → Rp c H' z w → P z → Q w H') → r u v H Q
def dOp (f : F2) (a b : DE) : DE := ⟨a.n + b.n, fun ss Q => a ss fun x => b ss fun y => f x y Q⟩
theorem up_op {r : R2} {f : F2} (hl : LR ⟨X.K, p⟩ r f) : ∀ σ H Q, up ⟨X.K, p⟩ G (dOp f da db) σ H Q → tOp r (up ⟨X.K, p⟩ G da) (up ⟨X.K, p⟩ G db) σ H Q := fun σ H Q ⟨ss, ow, P, R, h, k⟩ =>
  ⟨ss, ow, _, R.l, h, fun x u H1 s1 r1 p1 => ⟨ss, ow, _, R.step s1, p1, fun y v H2 s2 r2 p2 => hl H2 x y u v P Q ((R.step s1).stepn s2).pail (r1.le ((R.step s1).le s2) _ _) r2 p2 fun z w H3 s3 r3 p3 => k z w H3 ((s1.trans s2).then0 s3) r3 p3⟩⟩
theorem pd_op {op : Operator} {r : R2} {f : F2} (ho : OpR X (binaryOp op) r) (hl : LR ⟨X.K, p⟩ r f) (ha : PE X a (up ⟨X.K, p⟩ G da)) (hb : PE X b (up ⟨X.K, p⟩ G db)) : PE X (.BinOp a op b pos) (up ⟨X.K, p⟩ G (dOp f da db)) := peOf (pe_op ho ha hb) (up_op hl)
theorem pd_cmp {op : CmpOp} {r : R2} {f : F2} (ho : OpR X (compareOp op) r) (hl : LR ⟨X.K, p⟩ r f) (ha : PE X a (up ⟨X.K, p⟩ G da)) (hb : PE X b (up ⟨X.K, p⟩ G db)) (hm : behindInMarks op b = false := by first | exact nomark _ | rfl) : PE X (.Compare a [op] [b] pos) (up ⟨X.K, p⟩ G (dOp f da db)) := peOf (pe_cmpR ho ha hb hm) (up_op hl)
/-- as a test -/
def isB (d : D) (Q : Bool → Prop) : Prop := match d with
  | .bl b => Q b
  | _ => False
def dTest (d : DE) : DT := ⟨d.n, fun ss Q => d ss fun x => isB x Q⟩
theorem up_test : ∀ σ H (Q : Bool → Hp → Prop), upT ⟨X.K, p⟩ G (dTest da) σ H Q → tTest (up ⟨X.K, p⟩ G da) σ H Q := fun σ H Q ⟨ss, ow, P, R, h, k⟩ => ⟨ss, ow, _, R, h, fun x v H1 s1 r1 p1 => by
  cases x with
  | bl b =>
    cases (show v = .bl b from r1)
    exact ⟨b, rfl, k b H1 s1 p1⟩
  | _ => exact p1.elim⟩
theorem td_cmp {op : CmpOp} {r : R2} {f : F2} (ho : OpR X (compareOp op) r) (hl : LR ⟨X.K, p⟩ r f) (ha : PE X a (up ⟨X.K, p⟩ G da)) (hb : PE X b (up ⟨X.K, p⟩ G db)) (hm : behindInMarks op b = false := by first | exact nomark _ | rfl) : PT X (.Compare a [op] [b] pos) (upT ⟨X.K, p⟩ G (dTest (dOp f da db))) :=
  ptOf (pt_cmpR ho ha hb hm) fun σ H Q ⟨ss, ow, P, R, h, k⟩ => by
    have q := up_test (X := X) (p := p) (G := G) (da := dOp f da db) σ H Q ⟨ss, ow, P, R, h, k⟩
    exact up_op hl σ H _ q
theorem td_val (ha : PE X a (up ⟨X.K, p⟩ G da)) (he : ∀ whole, isTrue a X.env whole = (do let v ← whole; standAt a.pos; holding [v] (truthy v)) := by intro _; rfl) : PT X a (upT ⟨X.K, p⟩ G (dTest da)) := ptOf (pt_val ha he) fun σ H Q h => up_test σ H Q h
/-! ### and, or, not, if else -/
variable {ta tb : DT} {rest : List Expr} {ec : Expr}
def dAnd (t u : DT) : DT := ⟨t.n + u.n, fun ss Q => t ss fun b => if b = true then u ss Q else Q false⟩
def dOr (t u : DT) : DT := ⟨t.n + u.n, fun ss Q => t ss fun b => if b = true then Q true else u ss Q⟩
def dNot (t : DT) : DT := ⟨t.n, fun ss Q => t ss fun b => Q (!b)⟩
theorem wd_and1 (ha : PT X a (upT ⟨X.K, p⟩ G ta)) : PW X (.BoolOp .And [a] pos) (upT ⟨X.K, p⟩ G ta) := pw_and1 ha
theorem wd_or1 (ha : PT X a (upT ⟨X.K, p⟩ G ta)) : PW X (.BoolOp .Or [a] pos) (upT ⟨X.K, p⟩ G ta) := pw_or1 ha
theorem wd_and (ha : PT X a (upT ⟨X.K, p⟩ G ta)) (hb : PW X (.BoolOp .And (b :: rest) pos) (upT ⟨X.K, p⟩ G tb)) : PW X (.BoolOp .And (a :: b :: rest) pos) (upT ⟨X.K, p⟩ G (dAnd ta tb)) :=
  pwOf (pw_and ha hb) fun σ H Q ⟨ss, ow, P, R, h, k⟩ => ⟨ss, ow, _, R.l, h, fun c H1 s1 p1 => by
    cases c with
    | true => exact ⟨ss, ow, _, R.step s1, p1, fun b H2 s2 p2 => k b H2 (s1.trans s2) p2⟩
    | false => exact k false H1 s1.l p1⟩
theorem wd_or (ha : PT X a (upT ⟨X.K, p⟩ G ta)) (hb : PW X (.BoolOp .Or (b :: rest) pos) (upT ⟨X.K, p⟩ G tb)) : PW X (.BoolOp .Or (a :: b :: rest) pos) (upT ⟨X.K, p⟩ G (dOr ta tb)) :=
  pwOf (pw_or ha hb) fun σ H Q ⟨ss, ow, P, R, h, k⟩ => ⟨ss, ow, _, R.l, h, fun c H1 s1 p1 => by
    cases c with
    | false => exact ⟨ss, ow, _, R.step s1, p1, fun b H2 s2 p2 => k b H2 (s1.trans s2) p2⟩
    | true => exact k true H1 s1.l p1⟩
theorem td_not (ha : PT X a (upT ⟨X.K, p⟩ G ta)) : PT X (.UnaryOp .Not a pos) (upT ⟨X.K, p⟩ G (dNot ta)) := ptOf (pt_not ha) fun σ H Q ⟨ss, ow, P, R, h, k⟩ => ⟨ss, ow, _, R, h, fun c H1 s1 p1 => k (!c) H1 s1 p1⟩
/-- .. as values -/
def dAndV (a b : DE) : DE := ⟨a.n + b.n, fun ss Q => a ss fun x => isB x fun c => if c = true then b ss Q else Q (.bl false)⟩
def dOrV (a b : DE) : DE := ⟨a.n + b.n, fun ss Q => a ss fun x => isB x fun c => if c = true then Q (.bl true) else b ss Q⟩
def dNotV (a : DE) : DE := ⟨a.n, fun ss Q => a ss fun x => isB x fun c => Q (.bl (!c))⟩
theorem pd_and (ha : PE X a (up ⟨X.K, p⟩ G da)) (hb : PE X (.BoolOp .And (b :: rest) pos) (up ⟨X.K, p⟩ G db)) : PE X (.BoolOp .And (a :: b :: rest) pos) (up ⟨X.K, p⟩ G (dAndV da db)) :=
  peOf (pe_and ha hb) fun σ H Q ⟨ss, ow, P, R, h, k⟩ => ⟨ss, ow, _, R.l, h, fun x v H1 s1 r1 p1 => by
    cases x with
    | bl c =>
      cases (show v = .bl c from r1)
      cases c with
      | true => exact ⟨true, rfl, ss, ow, _, R.step s1, p1, fun y w H2 s2 r2 p2 => k y w H2 (s1.trans s2) r2 p2⟩
      | false => exact ⟨false, rfl, k (.bl false) (.bl false) H1 s1.l rfl p1⟩
    | _ => exact p1.elim⟩
theorem pd_or (ha : PE X a (up ⟨X.K, p⟩ G da)) (hb : PE X (.BoolOp .Or (b :: rest) pos) (up ⟨X.K, p⟩ G db)) : PE X (.BoolOp .Or (a :: b :: rest) pos) (up ⟨X.K, p⟩ G (dOrV da db)) :=
  peOf (pe_or ha hb) fun σ H Q ⟨ss, ow, P, R, h, k⟩ => ⟨ss, ow, _, R.l, h, fun x v H1 s1 r1 p1 => by
    cases x with
    | bl c =>
      cases (show v = .bl c from r1)
      cases c with
      | false => exact ⟨false, rfl, ss, ow, _, R.step s1, p1, fun y w H2 s2 r2 p2 => k y w H2 (s1.trans s2) r2 p2⟩
      | true => exact ⟨true, rfl, k (.bl true) (.bl true) H1 s1.l rfl p1⟩
    | _ => exact p1.elim⟩
theorem pd_not (ha : PE X a (up ⟨X.K, p⟩ G da)) : PE X (.UnaryOp .Not a pos) (up ⟨X.K, p⟩ G (dNotV da)) :=
  peOf (pe_not ha) fun σ H Q ⟨ss, ow, P, R, h, k⟩ => ⟨ss, ow, _, R, h, fun x v H1 s1 r1 p1 => by
    cases x with
    | bl c =>
      cases (show v = .bl c from r1)
      exact ⟨c, rfl, k (.bl (!c)) (.bl (!c)) H1 s1 rfl p1⟩
    | _ => exact p1.elim⟩
theorem pd_one {op} (ha : PE X a (up ⟨X.K, p⟩ G da)) : PE X (.BoolOp op [a] pos) (up ⟨X.K, p⟩ G da) := pe_one ha
def dIf (t : DT) (a b : DE) : DE := ⟨t.n + (a.n + b.n), fun ss Q => t ss fun c => if c = true then a ss Q else b ss Q⟩
theorem pd_if (hc : PT X ec (upT ⟨X.K, p⟩ G ta)) (ha : PE X a (up ⟨X.K, p⟩ G da)) (hb : PE X b (up ⟨X.K, p⟩ G db)) : PE X (.IfExp ec a b pos) (up ⟨X.K, p⟩ G (dIf ta da db)) :=
  peOf (pe_ifExp hc ha hb) fun σ H Q ⟨ss, ow, P, R, h, k⟩ => ⟨ss, ow, _, R.l, h, fun c H1 s1 p1 => by
    cases c with
    | true => exact ⟨ss, ow, _, (R.step s1).l, p1, fun y w H2 s2 r2 p2 => k y w H2 (s1.trans s2.l) r2 p2⟩
    | false => exact ⟨ss, ow, _, (R.step s1).r, p1, fun y w H2 s2 r2 p2 => k y w H2 (s1.trans (s2.wk (Nat.le_add_left _ _))) r2 p2⟩⟩
end
end DL
set_option maxRecDepth 100000
set_option maxHeartbeats 2000000
namespace DL
open PySem PySem.Spec PyProof.Rows L2
variable {c : Cf} {X : Cx} {p : Option Addr} {G : Gm} {pos : Pos} {a b e : Expr} {da db : DE}
/-! ### what a datum's value is -/
theorem rp_int {H : Hp} {i : Int} {v : V} (h : Rp c H (.int i) v) : v = .int i := h
theorem rp_str {H : Hp} {x : Str} {v : V} (h : Rp c H (.str x) v) : v = .str x := h
theorem rps_map {α : Type} {H : Hp} {f : α → D} {g : α → V} (h : ∀ a v, Rp c H (f a) v → v = g a) : ∀ {xs : List α} {vs : List V}, Rps c H (xs.map f) vs → vs = xs.map g
  | [], vs, r => by
    have r' : Rps c H [] vs := r
    unfold Rps at r'
    exact r'
  | x :: xs, vs, r => by
    have r' : Rps c H (f x :: xs.map f) vs := r
    unfold Rps at r'
    obtain ⟨y, ys, rfl, h1, h2⟩ := r'
    rw [h x y h1, rps_map h h2]
    rfl
theorem rps_ints {H : Hp} {ns : List Int} {vs : List V} (h : Rps c H (ns.map .int) vs) : vs = ns.map .int := rps_map (f := D.int) (g := V.int) (fun _ _ h => rp_int h) h
theorem rp_bl {H : Hp} {b : Bool} {v : V} (h : Rp c H (.bl b) v) : v = .bl b := h
theorem rps_bls {H : Hp} {ns : List Bool} {vs : List V} (h : Rps c H (ns.map .bl) vs) : vs = ns.map .bl := rps_map (f := D.bl) (g := V.bl) (fun _ _ h => rp_bl h) h
theorem rps_strs {H : Hp} {ns : List Str} {vs : List V} (h : Rps c H (ns.map .str) vs) : vs = ns.map .str := rps_map (f := D.str) (g := V.str) (fun _ _ h => rp_str h) h
theorem r_int {H : Hp} {i : Int} : Rp c H (.int i) (.int i) := rfl
theorem r_str {H : Hp} {i : Str} : Rp c H (.str i) (.str i) := rfl
theorem r_bl {H : Hp} {i : Bool} : Rp c H (.bl i) (.bl i) := rfl
theorem r_non {H : Hp} : Rp c H .non .non := rfl
theorem rps1 {H : Hp} {d : D} {vs : List V} (h : Rps c H [d] vs) : ∃ v, vs = [v] ∧ Rp c H d v := by
  unfold Rps at h
  obtain ⟨x, xs, rfl, h1, h2⟩ := h
  unfold Rps at h2
  exact ⟨x, by rw [h2], h1⟩
theorem rps2 {H : Hp} {d d' : D} {vs : List V} (h : Rps c H [d, d'] vs) : ∃ v w, vs = [v, w] ∧ Rp c H d v ∧ Rp c H d' w := by
  unfold Rps at h
  obtain ⟨x, xs, rfl, h1, h2⟩ := h
  obtain ⟨w, rfl, h3⟩ := rps1 h2
  exact ⟨x, w, rfl, h1, h3⟩

/-! ### operators -/
def fI (g : Int → Int → D) : F2 := fun x y Q => match x, y with
  | .int i, .int j => Q (g i j)
  | _, _ => False
theorem lr_I0 {g : Int → Int → V} {f : Int → Int → D} (h : ∀ H i j, Rp c H (f i j) (g i j)) : LR c (rI0 g) (fI f) := fun H x y u v P Q hp r1 r2 q k => by
  unfold fI at q
  split at q
  · cases (show u = _ from r1)
    cases (show v = _ from r2)
    exact ⟨_, _, rfl, rfl, k _ _ H (Step.refl _ _ _) (h _ _ _) q⟩
  · exact q.elim
def fIC (C : Int → Int → Prop) (g : Int → Int → D) : F2 := fun x y Q => match x, y with
  | .int i, .int j => C i j ∧ Q (g i j)
  | _, _ => False
theorem lr_IC {C : Int → Int → Prop} {g : Int → Int → V} {f : Int → Int → D} (h : ∀ H i j, Rp c H (f i j) (g i j)) : LR c (rI C g) (fIC C f) := fun H x y u v P Q hp r1 r2 q k => by
  unfold fIC at q
  split at q
  · cases (show u = _ from r1)
    cases (show v = _ from r2)
    exact ⟨_, _, rfl, rfl, q.1, k _ _ H (Step.refl _ _ _) (h _ _ _) q.2⟩
  · exact q.elim
abbrev fAdd : F2 := fI fun i j => .int (i + j)
abbrev fSub : F2 := fI fun i j => .int (i - j)
abbrev fMul : F2 := fIC IntMulOk fun i j => .int (i * j)
abbrev fDiv : F2 := fIC CDivW fun i j => .int (i / j)
abbrev fMod : F2 := fIC (fun _ j => 0 < j) fun i j => .int (i % j)
abbrev fPow : F2 := fIC CPow fun i j => .int (i ^ j.toNat)
abbrev fLt : F2 := fI fun i j => .bl (decide (i < j))
abbrev fLe : F2 := fI fun i j => .bl (decide (i ≤ j))
abbrev fGt : F2 := fI fun i j => .bl (decide (j < i))
abbrev fGe : F2 := fI fun i j => .bl (decide (j ≤ i))
theorem op_mulA : OpR X (binaryOp .Mult) (rI IntMulOk fun i j => .int (i * j)) := opI fun _ _ _ _ _ _ _ hc q => mul_int q hc
theorem pd_add (ha : PE X a (up ⟨X.K, p⟩ G da)) (hb : PE X b (up ⟨X.K, p⟩ G db)) : PE X (.BinOp a .Add b pos) (up ⟨X.K, p⟩ G (dOp fAdd da db)) := pd_op op_add (lr_I0 fun _ _ _ => rfl) ha hb
theorem pd_sub (ha : PE X a (up ⟨X.K, p⟩ G da)) (hb : PE X b (up ⟨X.K, p⟩ G db)) : PE X (.BinOp a .Sub b pos) (up ⟨X.K, p⟩ G (dOp fSub da db)) := pd_op op_sub (lr_I0 fun _ _ _ => rfl) ha hb
theorem pd_mul (ha : PE X a (up ⟨X.K, p⟩ G da)) (hb : PE X b (up ⟨X.K, p⟩ G db)) : PE X (.BinOp a .Mult b pos) (up ⟨X.K, p⟩ G (dOp fMul da db)) := pd_op op_mulA (lr_IC fun _ _ _ => rfl) ha hb
theorem pd_div (ha : PE X a (up ⟨X.K, p⟩ G da)) (hb : PE X b (up ⟨X.K, p⟩ G db)) : PE X (.BinOp a .FloorDiv b pos) (up ⟨X.K, p⟩ G (dOp fDiv da db)) := pd_op op_fdivW (lr_IC fun _ _ _ => rfl) ha hb
theorem pd_mod (ha : PE X a (up ⟨X.K, p⟩ G da)) (hb : PE X b (up ⟨X.K, p⟩ G db)) : PE X (.BinOp a .Mod b pos) (up ⟨X.K, p⟩ G (dOp fMod da db)) := pd_op op_mod (lr_IC fun _ _ _ => rfl) ha hb
theorem pd_pow (ha : PE X a (up ⟨X.K, p⟩ G da)) (hb : PE X b (up ⟨X.K, p⟩ G db)) : PE X (.BinOp a .Pow b pos) (up ⟨X.K, p⟩ G (dOp fPow da db)) := pd_op op_pow (lr_IC fun _ _ _ => rfl) ha hb
theorem lr_lt : LR c (rI0 fun i j => .bl (decide (i < j))) fLt := lr_I0 fun _ _ _ => rfl
theorem lr_le : LR c (rI0 fun i j => .bl (decide (i ≤ j))) fLe := lr_I0 fun _ _ _ => rfl
theorem lr_gt : LR c (rI0 fun i j => .bl (decide (j < i))) fGt := lr_I0 fun _ _ _ => rfl
theorem lr_ge : LR c (rI0 fun i j => .bl (decide (j ≤ i))) fGe := lr_I0 fun _ _ _ => rfl
/-- a text and a text -/
def fAddS : F2 := fun x y Q => match x, y with
  | .str i, .str j => small (i.length + j.length) ∧ Q (.str (i ++ j))
  | _, _ => False
theorem pd_adds (ha : PE X a (up ⟨X.K, p⟩ G da)) (hb : PE X b (up ⟨X.K, p⟩ G db)) : PE X (.BinOp a .Add b pos) (up ⟨X.K, p⟩ G (dOp fAddS da db)) := pd_op op_add_str (fun H x y u v P Q hp r1 r2 q k => by
  unfold fAddS at q
  split at q
  · cases (show u = _ from r1)
    cases (show v = _ from r2)
    exact ⟨_, _, rfl, rfl, q.1.z, k _ _ H (Step.refl _ _ _) r_str q.2⟩
  · exact q.elim) ha hb
/-- a tuple and a tuple -/
def fAddT : F2 := fun x y Q => match x, y with
  | .tup i, .tup j => small (i.length + j.length) ∧ Q (.tup (i ++ j))
  | _, _ => False
theorem pd_addt (ha : PE X a (up ⟨X.K, p⟩ G da)) (hb : PE X b (up ⟨X.K, p⟩ G db)) : PE X (.BinOp a .Add b pos) (up ⟨X.K, p⟩ G (dOp fAddT da db)) := pd_op op_catA (fun H x y u v P Q hp r1 r2 q k => by
  unfold fAddT at q
  split at q
  · rename_i ds es
    unfold Rp at r1 r2
    obtain ⟨a, xs, rfl, h1, h2⟩ := r1
    obtain ⟨b, ys, rfl, h3, h4⟩ := r2
    refine ⟨a, b, xs, ys, rfl, rfl, h1, h3, by rw [h2.length, h4.length]; exact q.1.z, fun e => ?_, fun _ e => ?_, fun _ _ l hl => ?_⟩
    · refine k _ _ H (Step.refl _ _ _) ?_ q.2
      have e1 : ds = [] := by
        have := h2.length
        rw [e] at this
        exact List.length_eq_zero_iff.mp this.symm
      rw [e1]
      unfold Rp
      exact ⟨b, ys, rfl, h3, h4⟩
    · refine k _ _ H (Step.refl _ _ _) ?_ q.2
      have e1 : es = [] := by
        have := h4.length
        rw [e] at this
        exact List.length_eq_zero_iff.mp this.symm
      rw [e1, List.append_nil]
      unfold Rp
      exact ⟨a, xs, rfl, h1, h2⟩
    · refine k _ _ _ (Step.new hl) ?_ q.2
      unfold Rp
      exact ⟨l, xs ++ ys, rfl, SqT.of upd_same, (h2.append h4).le (Le.new hl) _ _⟩
  · exact q.elim) ha hb
/-- == of flat data -/
def D.flat : D → Bool
  | .non => true
  | .bl _ => true
  | .int _ => true
  | .str _ => true
  | _ => false
def D.eqF : D → D → Bool
  | .non, .non => true
  | .bl a, .bl b => decide (a = b)
  | .int a, .int b => decide (a = b)
  | .str a, .str b => decide (a = b)
  | _, _ => false
/-- which flat data the rule compares -/
def D.scal : D → D → Bool
  | .non, .non => true
  | .bl _, .bl _ => true
  | .int _, .int _ => true
  | .str _, .str _ => true
  | _, _ => false
def fEq : F2 := fun x y Q => x.scal y = true ∧ Q (.bl (x.eqF y))
def fNe : F2 := fun x y Q => x.scal y = true ∧ Q (.bl (!x.eqF y))
theorem scal_V {H : Hp} {x y : D} {u v : V} (r1 : Rp c H x u) (r2 : Rp c H y v) (h : x.scal y = true) : L2.scal u v = true ∧ decide (u = v) = x.eqF y := by
  cases x <;> cases y <;> first
    | (cases h; done)
    | (cases (show u = _ from r1); cases (show v = _ from r2); exact ⟨rfl, by simp [D.eqF]⟩)
theorem lr_eq : LR c rEq fEq := fun H x y u v P Q hp r1 r2 q k => by
  obtain ⟨e1, e2⟩ := scal_V r1 r2 q.1
  exact ⟨e1, by rw [e2]; exact k _ _ H (Step.refl _ _ _) r_bl q.2⟩
theorem lr_ne : LR c rNe fNe := fun H x y u v P Q hp r1 r2 q k => by
  obtain ⟨e1, e2⟩ := scal_V r1 r2 q.1
  exact ⟨e1, by rw [e2]; exact k _ _ H (Step.refl _ _ _) r_bl q.2⟩
/-- is None -/
def D.isNon : D → Bool
  | .non => true
  | _ => false
theorem isNon_V {H : Hp} {x : D} {u : V} (r : Rp c H x u) : decide (u = .non) = x.isNon := by
  cases x with
  | non => cases (show u = _ from r); rfl
  | bl _ => cases (show u = _ from r); rfl
  | int _ => cases (show u = _ from r); rfl
  | str _ => cases (show u = _ from r); rfl
  | tup _ => unfold Rp at r; obtain ⟨_, _, rfl, _⟩ := r; rfl
  | lst _ => unfold Rp at r; obtain ⟨_, _, rfl, _⟩ := r; rfl
  | pail => unfold Rp at r; obtain ⟨_, _, rfl⟩ := r; rfl
  | scr _ => unfold Rp at r; obtain ⟨_, rfl, _⟩ := r; rfl
  | prog _ _ _ => unfold Rp at r; obtain ⟨_, _, _, _, _, rfl, _⟩ := r; rfl
  | stg _ _ _ => unfold Rp at r; obtain ⟨_, _, _, _, _, rfl, _⟩ := r; rfl
  | ld _ _ _ => unfold Rp at r; obtain ⟨_, _, _, _, rfl, _⟩ := r; rfl
def fIs : F2 := fun x y Q => match y with
  | .non => Q (.bl x.isNon)
  | _ => False
def fIsNot : F2 := fun x y Q => match y with
  | .non => Q (.bl (!x.isNon))
  | _ => False
theorem lr_is : LR c (fun x y H Q => y = .non ∧ Q (.bl (decide (x = .non))) H) fIs := fun H x y u v P Q hp r1 r2 q k => by
  unfold fIs at q
  split at q
  · exact ⟨r2, by rw [isNon_V r1]; exact k _ _ H (Step.refl _ _ _) r_bl q⟩
  · exact q.elim
theorem lr_isnot : LR c (fun x y H Q => y = .non ∧ Q (.bl (!decide (x = .non))) H) fIsNot := fun H x y u v P Q hp r1 r2 q k => by
  unfold fIsNot at q
  split at q
  · exact ⟨r2, by rw [isNon_V r1]; exact k _ _ H (Step.refl _ _ _) r_bl q⟩
  · exact q.elim
/-- in a list, a tuple, of flat data -/
def D.inF (x : D) (ds : List D) : Bool := ds.any fun y => y.eqF x
/-- data of one flat kind: texts, ints, or None among them -/
def D.kin : D → D → Bool
  | .bl _, .int _ => false
  | .int _, .bl _ => false
  | .non, _ => true
  | _, .non => true
  | .bl _, .bl _ => true
  | .int _, .int _ => true
  | .str _, .str _ => true
  | .int _, .str _ => true
  | .str _, .int _ => true
  | .bl _, .str _ => true
  | .str _, .bl _ => true
  | _, _ => false
theorem flat_V {H : Hp} {x : D} {u : V} (r : Rp c H x u) (h : x.flat = true) : flatV u = true := by
  cases x <;> first | (cases h; done) | (cases (show u = _ from r); rfl)
theorem flats_V {H : Hp} : ∀ {ds : List D} {vs : List V}, Rps c H ds vs → ds.all D.flat = true → vs.all flatV = true
  | [], vs, r, _ => by unfold Rps at r; rw [r]; rfl
  | d :: ds, vs, r, h => by
    unfold Rps at r
    obtain ⟨x, xs, rfl, h1, h2⟩ := r
    rw [List.all_cons, Bool.and_eq_true] at h ⊢
    exact ⟨flat_V h1 h.1, flats_V h2 h.2⟩
theorem eqF_V {H : Hp} {x y : D} {u v : V} (r1 : Rp c H x u) (r2 : Rp c H y v) (h : x.flat = true) (h2 : y.flat = true) (hk : x.kin y = true) : eqV u v = x.eqF y := by
  cases x <;> cases y <;> first
    | (cases h; done)
    | (cases h2; done)
    | (cases hk; done)
    | (cases (show u = _ from r1); cases (show v = _ from r2); first | rfl | (simp [D.eqF, eqV]; done) | (simp [D.eqF, eqV]; exact Bool.beq_eq_decide_eq _ _))
theorem inF_V {H : Hp} {x : D} {u : V} (r1 : Rp c H x u) (h : x.flat = true) : ∀ {ds : List D} {vs : List V}, Rps c H ds vs → ds.all D.flat = true → (ds.all fun y => y.kin x) = true → inV u vs = x.inF ds
  | [], vs, r, _, _ => by unfold Rps at r; rw [r]; rfl
  | d :: ds, vs, r, h1, hk => by
    unfold Rps at r
    obtain ⟨y, ys, rfl, q1, q2⟩ := r
    rw [List.all_cons, Bool.and_eq_true] at h1 hk
    have e1 := eqF_V q1 r1 h1.1 h hk.1
    have e2 := inF_V r1 h q2 h1.2 hk.2
    unfold inV D.inF at e2 ⊢
    rw [List.any_cons, List.any_cons, e1, e2]
def fIn (neg : Bool) : F2 := fun x y Q => items y fun ds => x.flat = true ∧ ds.all D.flat = true ∧ (ds.all fun y => y.kin x) = true ∧ Q (.bl (if neg then !x.inF ds else x.inF ds))
theorem lr_in {neg : Bool} : LR c (rIn c.K neg) (fIn neg) := fun H x y u v P Q hp r1 r2 q k => by
  obtain ⟨ds, a, xs, rfl, h1, h2, ⟨q1, q2, q3, q4⟩, _⟩ := r2.items_of q
  refine ⟨a, xs, rfl, ?_, flat_V r1 q1, flats_V h2 q2, by rw [inF_V r1 q1 h2 q2 q3]; exact k _ _ H (Step.refl _ _ _) r_bl q4⟩
  rcases h1 with h1 | h1
  · exact .inr h1
  · exact .inl h1.l
/-- a sign in a text -/
def fInS (neg : Bool) : F2 := fun x y Q => match x, y with
  | .str s, .str z => match s.cps.toList with
    | [n] => Q (.bl (if neg then !decide (n ∈ z.cps.toList) else decide (n ∈ z.cps.toList)))
    | _ => False
  | _, _ => False
theorem str1 {s : Str} {n : Nat} (h : s.cps.toList = [n]) : s = ⟨#[n]⟩ := by
  obtain ⟨a⟩ := s
  congr
  exact Array.ext' h
theorem lr_ins : LR c (fun x y H Q => ∃ (c : Nat) (z : Str), x = .str ⟨#[c]⟩ ∧ y = .str z ∧ Q (.bl (decide (c ∈ z.cps.toList))) H) (fInS false) := fun H x y u v P Q hp r1 r2 q k => by
  unfold fInS at q
  split at q
  · split at q
    · rename_i n hn
      cases (show u = _ from r1)
      cases (show v = _ from r2)
      exact ⟨n, _, by rw [str1 hn], rfl, k _ _ H (Step.refl _ _ _) r_bl q⟩
    · exact q.elim
  · exact q.elim
theorem lr_notins : LR c (fun x y H Q => ∃ (c : Nat) (z : Str), x = .str ⟨#[c]⟩ ∧ y = .str z ∧ Q (.bl (!decide (c ∈ z.cps.toList))) H) (fInS true) := fun H x y u v P Q hp r1 r2 q k => by
  unfold fInS at q
  split at q
  · split at q
    · rename_i n hn
      cases (show u = _ from r1)
      cases (show v = _ from r2)
      exact ⟨n, _, by rw [str1 hn], rfl, k _ _ H (Step.refl _ _ _) r_bl q⟩
    · exact q.elim
  · exact q.elim
def fNeg (x : D) (Q : D → Prop) : Prop := match x with
  | .int i => Q (.int (-i))
  | _ => False
def dUn (f : D → (D → Prop) → Prop) (a : DE) : DE := ⟨a.n, fun ss Q => a ss fun x => f x Q⟩
theorem pd_neg (ha : PE X a (up ⟨X.K, p⟩ G da)) : PE X (.UnaryOp .USub a pos) (up ⟨X.K, p⟩ G (dUn fNeg da)) := peOf (pe_un un_neg ha) fun σ H Q ⟨ss, ow, P, R, h, k⟩ => ⟨ss, ow, _, R, h, fun x v H1 s1 r1 p1 => by
  cases x with
  | int i =>
    cases (show v = _ from r1)
    exact ⟨i, rfl, k _ _ H1 s1 r_int p1⟩
  | _ => exact p1.elim⟩
/-! ### subscripts, slices -/
def fIx : F2 := fun x y Q => match x, y with
  | .tup ds, .int i => ∃ d, atI ds i = some d ∧ Q d
  | .lst ds, .int i => ∃ d, atI ds i = some d ∧ Q d
  | .str z, .int i => small z.length ∧ ∃ n, atI z.cps.toList i = some n ∧ Q (.str ⟨#[n]⟩)
  | .scr ns, .int i => ∃ n, atI ns i = some n ∧ Q (.int n)
  | _, _ => False
theorem atI_map {α β : Type} (f : α → β) {xs : List α} {i : Int} {x : α} (h : atI xs i = some x) : atI (xs.map f) i = some (f x) := by
  unfold atI at h ⊢
  rw [List.length_map]
  cases e : ixN xs.length i with
  | none => rw [e] at h; cases h
  | some j =>
    rw [e] at h
    show (xs.map f)[j]? = some (f x)
    rw [List.getElem?_map, show xs[j]? = some x from h]
    rfl
theorem at_V {H : Hp} {ds : List D} {vs : List V} {i : Int} {d : D} (r : Rps c H ds vs) (h : atI ds i = some d) : ∃ v, atI vs i = some v ∧ Rp c H d v := by
  unfold atI at h ⊢
  rw [r.length]
  cases e : ixN ds.length i with
  | none => rw [e] at h; cases h
  | some j =>
    rw [e] at h
    obtain ⟨v, e1, e2⟩ := r.get (i := j) h
    exact ⟨v, e1, e2⟩
theorem lr_ix : LR c (rIx c.K) fIx := fun H x y u v P Q hp r1 r2 q k => by
  unfold fIx at q
  split at q
  · unfold Rp at r1
    obtain ⟨a, xs, rfl, h1, h2⟩ := r1
    cases (show v = _ from r2)
    obtain ⟨d, e, q⟩ := q
    obtain ⟨w, e1, e2⟩ := at_V h2 e
    exact .inr (.inl ⟨a, xs, _, w, rfl, rfl, h1, e1, k _ _ H (Step.refl _ _ _) e2 q⟩)
  · unfold Rp at r1
    obtain ⟨a, xs, rfl, h1, h2⟩ := r1
    cases (show v = _ from r2)
    obtain ⟨d, e, q⟩ := q
    obtain ⟨w, e1, e2⟩ := at_V h2 e
    exact .inl ⟨a, xs, _, w, rfl, rfl, h1.l, e1, k _ _ H (Step.refl _ _ _) e2 q⟩
  · cases (show u = _ from r1)
    cases (show v = _ from r2)
    obtain ⟨z, n, e, q⟩ := q
    exact .inr (.inr ⟨_, _, n, rfl, rfl, z.z, e, k _ _ H (Step.refl _ _ _) r_str q⟩)
  · unfold Rp at r1
    obtain ⟨a, rfl, h1⟩ := r1
    cases (show v = _ from r2)
    obtain ⟨n, e, q⟩ := q
    exact .inl ⟨a, _, _, _, rfl, rfl, h1.l, atI_map V.int e, k _ _ H (Step.refl _ _ _) r_int q⟩
  · exact q.elim
theorem pd_ix (ha : PE X a (up ⟨X.K, p⟩ G da)) (hb : PE X b (up ⟨X.K, p⟩ G db)) (hs : PlainIx b := by exact fun _ _ => rfl) : PE X (.Subscript a b pos) (up ⟨X.K, p⟩ G (dOp fIx da db)) := peOf (pe_ix ix_seq ha hb hs) (up_op lr_ix)
structure DO where
  n : Nat
  f : Sls → (Option Int → Prop) → Prop
instance : CoeFun DO fun _ => Sls → (Option Int → Prop) → Prop := ⟨DO.f⟩
def upO (c : Cf) (G : Gm) (d : DO) : TO := fun σ H Q => ∃ ss ow P, RepS c d.n G H σ ss ow ∧ d ss P ∧ ∀ o H', Step c d.n H H' → P o → Q o H'
def dOn : DO := ⟨0, fun _ Q => Q none⟩
def dOs (a : DE) : DO := ⟨a.n, fun ss Q => a ss fun x => match x with
  | .int i => Q (some i)
  | _ => False⟩
theorem od_none : PO X none (upO ⟨X.K, p⟩ G dOn) := ⟨fun pins s σ H Q I ⟨ss, ow, P, R, h, k⟩ => po_none.run pins s σ H Q I (k none H (Step.refl _ _ _) h)⟩
theorem od_some (ha : PE X a (up ⟨X.K, p⟩ G da)) : PO X (some a) (upO ⟨X.K, p⟩ G (dOs da)) := ⟨fun pins s σ H Q I ⟨ss, ow, P, R, h, k⟩ => (po_some ha).run pins s σ H Q I ⟨ss, ow, _, R, h, fun x v H1 s1 r1 p1 => by
  cases x with
  | int i =>
    cases (show v = _ from r1)
    exact ⟨i, rfl, k _ H1 s1 p1⟩
  | _ => exact p1.elim⟩⟩
def cutD {α : Type} (xs : List α) (lo hi : Option Int) : List α := (xs.drop (HT.sIx xs.length 0 lo)).take (HT.sIx xs.length xs.length hi - HT.sIx xs.length 0 lo)
theorem cut_V {H : Hp} {ds : List D} {vs : List V} (r : Rps c H ds vs) (lo hi : Option Int) : Rps c H (cutD ds lo hi) (cutV vs lo hi) := by
  unfold cutD cutV
  rw [r.length]
  exact (r.drop _).take _
def dSl (f : D → Option Int → Option Int → (D → Prop) → Prop) (a : DE) (l h : DO) : DE := ⟨a.n + (l.n + h.n), fun ss Q => a ss fun x => l ss fun lo => h ss fun hi => f x lo hi Q⟩
def fSlT (x : D) (lo hi : Option Int) (Q : D → Prop) : Prop := match x with
  | .tup ds => Q (.tup (cutD ds lo hi))
  | _ => False
def fSlS (x : D) (lo hi : Option Int) (Q : D → Prop) : Prop := match x with
  | .str z => small z.length ∧ Q (.str (cutS z lo hi))
  | _ => False
variable {lo hi : Option Expr} {dl dh : DO} {p2 : Pos}
theorem whole_cut {α : Type} {xs : List α} {lo hi : Option Int} (h : HT.sIx xs.length 0 lo = 0 ∧ HT.sIx xs.length xs.length hi = xs.length) : cutD xs lo hi = xs := by
  unfold cutD
  rw [h.1, h.2]
  simp
theorem pd_slt (ha : PE X a (up ⟨X.K, p⟩ G da)) (hl : PO X lo (upO ⟨X.K, p⟩ G dl)) (hh : PO X hi (upO ⟨X.K, p⟩ G dh)) : PE X (.Subscript a (.Slice lo hi none p2) pos) (up ⟨X.K, p⟩ G (dSl fSlT da dl dh)) :=
  peOf (pe_slice sl_tupA ha hl hh) fun σ H Q ⟨ss, ow, P, R, h, k⟩ => ⟨ss, ow, _, R.l, h, fun x v H1 s1 r1 p1 => ⟨ss, ow, _, (R.step s1).l, p1, fun l H2 s2 p2 => ⟨ss, ow, _, (R.step s1).step s2, p2, fun u H3 s3 p3 => by
    have R2 := (R.step s1).step s2
    have r3 := (r1.le ((R.step s1).le s2) _ _).le (R2.le s3) _ _
    unfold fSlT at p3
    split at p3
    · unfold Rp at r3
      obtain ⟨a, xs, rfl, h1, h2⟩ := r3
      refine ⟨a, xs, rfl, h1, fun e => k _ _ H3 (s1.trans (s2.trans s3)) ?_ p3, fun _ q hq => k _ _ _ ((s1.trans (s2.trans s3)).then0 (Step.new hq)) ?_ p3⟩
      · have e' := e
        rw [h2.length] at e'
        rw [whole_cut e']
        unfold Rp
        exact ⟨a, xs, rfl, h1, h2⟩
      · unfold Rp
        exact ⟨q, _, rfl, SqT.of upd_same, (cut_V h2 l u).le (Le.new hq) _ _⟩
    · exact p3.elim⟩⟩⟩
theorem pd_sls (ha : PE X a (up ⟨X.K, p⟩ G da)) (hl : PO X lo (upO ⟨X.K, p⟩ G dl)) (hh : PO X hi (upO ⟨X.K, p⟩ G dh)) : PE X (.Subscript a (.Slice lo hi none p2) pos) (up ⟨X.K, p⟩ G (dSl fSlS da dl dh)) :=
  peOf (pe_slice sl_str ha hl hh) fun σ H Q ⟨ss, ow, P, R, h, k⟩ => ⟨ss, ow, _, R.l, h, fun x v H1 s1 r1 p1 => ⟨ss, ow, _, (R.step s1).l, p1, fun l H2 s2 p2 => ⟨ss, ow, _, (R.step s1).step s2, p2, fun u H3 s3 p3 => by
    unfold fSlS at p3
    split at p3
    · cases (show v = _ from r1)
      exact ⟨_, rfl, p3.1.z, k _ _ H3 (s1.trans (s2.trans s3)) r_str p3.2⟩
    · exact p3.elim⟩⟩⟩
/-- xs[lo:hi] of a list: a new list -/
def dSlL (a : DE) (l h : DO) : DA := ⟨a.n + (l.n + h.n), fun ss Q => a ss fun x => l ss fun lo => h ss fun hi => match x with
  | .lst ds => Q (cutD ds lo hi)
  | _ => False⟩
theorem pl_sl (ha : PE X a (up ⟨X.K, p⟩ G da)) (hl : PO X lo (upO ⟨X.K, p⟩ G dl)) (hh : PO X hi (upO ⟨X.K, p⟩ G dh)) : PE X (.Subscript a (.Slice lo hi none p2) pos) (upL ⟨X.K, p⟩ G (dSlL da dl dh)) :=
  peOf (pe_slice sl_list ha hl hh) fun σ H Q ⟨ss, ow, P, R, h, k⟩ => ⟨ss, ow, _, R.l, h, fun x v H1 s1 r1 p1 => ⟨ss, ow, _, (R.step s1).l, p1, fun l H2 s2 p2 => ⟨ss, ow, _, (R.step s1).step s2, p2, fun u H3 s3 p3 => by
    have R2 := (R.step s1).step s2
    have r3 := (r1.le ((R.step s1).le s2) _ _).le (R2.le s3) _ _
    have s := s1.trans (s2.trans s3)
    cases x with
    | lst ds =>
      unfold Rp at r3
      obtain ⟨a, xs, rfl, h1, h2⟩ := r3
      exact ⟨a, xs, rfl, h1.l, fun q hq => k _ q _ _ (s.then0 (Step.new hq)) (s.free R.pail hq) upd_same ((cut_V h2 l u).le (Le.new hq) _ _) p3⟩
    | _ => exact p3.elim⟩⟩⟩
/-- two lists: a new list -/
def rCatR : R2 := fun x y H Q => ∃ l b xs zs, x = .ref l ∧ y = .ref b ∧ Rd H l (.lst xs) ∧ Rd H b (.lst zs) ∧ xs.length + zs.length ≤ sizeLine ∧ ∀ q, H q = none → Q (.ref q) (upd H q (.lst (xs ++ zs)))
theorem rd_lst {P : Program} {w : World} {H : Hp} {h : Heap} {a : Addr} {xs : List V} (r : Rd H a (.lst xs)) (x : HOk P w H h) : ∃ (its : List Value) (n : Nat), Vals xs its ∧ h.get? a = some { cls := .type "list", data := .seq its.toArray n } := (r.ok x).2
theorem op_catR : OpR X (binaryOp .Add) rCatR := by
  intro pins s σ H x y v u Q I rx ry h
  obtain ⟨l, b, xs, zs, rfl, rfl, hH, hB, hz, q⟩ := h
  cases rx
  cases ry
  obtain ⟨its, n, r, e⟩ := rd_lst hH I.hok
  obtain ⟨it2, n2, r2, e2⟩ := rd_lst hB I.hok
  have hl := r.length
  have hl2 := r2.length
  refine PySem.P.add_list e e2 ?_ (by rw [List.size_toArray, List.size_toArray]; omega)
  have ea : its.toArray ++ it2.toArray = (its ++ it2).toArray := by simp
  rw [ea]
  exact ⟨.ref _, _, I.lnew (t' := s.toks) (r.append r2) (by rw [List.length_append]; omega), rfl, q _ I.fresh⟩
def dCat (a b : DE) : DA := ⟨a.n + b.n, fun ss Q => a ss fun x => b ss fun y => match x, y with
  | .lst i, .lst j => small (i.length + j.length) ∧ Q (i ++ j)
  | _, _ => False⟩
theorem pl_cat (ha : PE X a (up ⟨X.K, p⟩ G da)) (hb : PE X b (up ⟨X.K, p⟩ G db)) : PE X (.BinOp a .Add b pos) (upL ⟨X.K, p⟩ G (dCat da db)) :=
  peOf (pe_op op_catR ha hb) fun σ H Q ⟨ss, ow, P, R, h, k⟩ => ⟨ss, ow, _, R.l, h, fun x u H1 s1 r1 p1 => ⟨ss, ow, _, R.step s1, p1, fun y v H2 s2 r2 p2 => by
    have R1 := R.step s1
    have r3 := r1.le (R1.le s2) _ _
    split at p2
    · unfold Rp at r3 r2
      obtain ⟨a, xs, rfl, h1, h2⟩ := r3
      obtain ⟨b, ys, rfl, h3, h4⟩ := r2
      exact ⟨a, b, xs, ys, rfl, rfl, h1.rd, h3.rd, by rw [h2.length, h4.length]; exact p2.1.z, fun q hq => k _ q _ _ ((s1.trans s2).then0 (Step.new hq)) ((s1.trans s2).free R.pail hq) upd_same ((h2.append h4).le (Le.new hq) _ _) p2.2⟩
    · exact p2.elim⟩⟩
end DL
set_option maxRecDepth 100000
set_option maxHeartbeats 2000000
namespace DL
open PySem PySem.Spec PyProof.Rows L2
variable {c : Cf} {X : Cx} {p : Option Addr} {G : Gm} {pos : Pos} {a b e : Expr} {da db : DE}
/-! ### readings of data of one kind -/
def D.isI : D → Bool
  | .int _ => true
  | _ => false
def D.toI : D → Int
  | .int i => i
  | _ => 0
def D.isBl : D → Bool
  | .bl _ => true
  | _ => false
def D.toB : D → Bool
  | .bl b => b
  | _ => false
def D.isS : D → Bool
  | .str _ => true
  | _ => false
def D.toS : D → Str
  | .str x => x
  | _ => Str.empty
theorem ints_eq : ∀ {ds : List D}, ds.all D.isI = true → ds = (ds.map D.toI).map D.int
  | [], _ => rfl
  | d :: ds, h => by
    rw [List.all_cons, Bool.and_eq_true] at h
    have e := ints_eq h.2
    cases d with
    | int i => rw [List.map_cons, List.map_cons, ← e]; rfl
    | _ => cases h.1
theorem bls_eq : ∀ {ds : List D}, ds.all D.isBl = true → ds = (ds.map D.toB).map D.bl
  | [], _ => rfl
  | d :: ds, h => by
    rw [List.all_cons, Bool.and_eq_true] at h
    have e := bls_eq h.2
    cases d with
    | bl i => rw [List.map_cons, List.map_cons, ← e]; rfl
    | _ => cases h.1
theorem strs_eq : ∀ {ds : List D}, ds.all D.isS = true → ds = (ds.map D.toS).map D.str
  | [], _ => rfl
  | d :: ds, h => by
    rw [List.all_cons, Bool.and_eq_true] at h
    have e := strs_eq h.2
    cases d with
    | str i => rw [List.map_cons, List.map_cons, ← e]; rfl
    | _ => cases h.1
theorem ints_V {H : Hp} {ds : List D} {vs : List V} (r : Rps c H ds vs) (h : ds.all D.isI = true) : vs = (ds.map D.toI).map V.int := by
  rw [ints_eq h] at r
  exact rps_ints r
theorem bls_V {H : Hp} {ds : List D} {vs : List V} (r : Rps c H ds vs) (h : ds.all D.isBl = true) : vs = (ds.map D.toB).map V.bl := by
  rw [bls_eq h] at r
  exact rps_bls r
theorem strs_V {H : Hp} {ds : List D} {vs : List V} (r : Rps c H ds vs) (h : ds.all D.isS = true) : vs = (ds.map D.toS).map V.str := by
  rw [strs_eq h] at r
  exact rps_strs r
/-! ### calls of built-in functions -/
abbrev FC := List D → (D → Prop) → Prop
def LCR (c : Cf) (r : List V → Hp → VK → Prop) (f : FC) : Prop := ∀ H xs vs (P : D → Prop) (Q : VK), PlOk c H → Rps c H xs vs → f xs P → (∀ z w H', Step c 0 H H' → Rp c H' z w → P z → Q w H') → r vs H Q
def dFn (f : FC) (t : DA) : DE := ⟨t.n, fun ss Q => t ss fun xs => f xs Q⟩
theorem up_fn {r : List V → Hp → VK → Prop} {f : FC} {dt : DA} (hl : LCR ⟨X.K, p⟩ r f) : ∀ σ H Q, up ⟨X.K, p⟩ G (dFn f dt) σ H Q → tCB r (upA ⟨X.K, p⟩ G dt) σ H Q := fun σ H Q ⟨ss, ow, P, R, h, k⟩ =>
  ⟨ss, ow, _, R, h, fun xs vs H1 s1 r1 p1 => hl H1 xs vs P Q (R.stepn s1).pail r1 p1 fun z w H2 s2 r2 p2 => k z w H2 (s1.then0 s2) r2 p2⟩
abbrev FCL := List D → (List D → Prop) → Prop
def LCL (c : Cf) (r : List V → Hp → VK → Prop) (f : FCL) : Prop := ∀ H xs vs (P : List D → Prop) (Q : VK), PlOk c H → Rps c H xs vs → f xs P → (∀ ds q ys H', Step c 0 H H' → H q = none → H' q = some (.lst ys) → Rps c H' ds ys → P ds → Q (.ref q) H') → r vs H Q
def dFnL (f : FCL) (t : DA) : DA := ⟨t.n, fun ss Q => t ss fun xs => f xs Q⟩
theorem up_fnL {r : List V → Hp → VK → Prop} {f : FCL} {dt : DA} (hl : LCL ⟨X.K, p⟩ r f) : ∀ σ H Q, upL ⟨X.K, p⟩ G (dFnL f dt) σ H Q → tCB r (upA ⟨X.K, p⟩ G dt) σ H Q := fun σ H Q ⟨ss, ow, P, R, h, k⟩ =>
  ⟨ss, ow, _, R, h, fun xs vs H1 s1 r1 p1 => hl H1 xs vs P Q (R.stepn s1).pail r1 p1 fun ds q ys H2 s2 h2 e2 r2 p2 => k ds q ys H2 (s1.then0 s2) (s1.free R.pail h2) e2 r2 p2⟩
section
variable {x : Str} {q : Pos} {es : List Expr} {dt : DA} {id T : String} {r : List V → Hp → VK → Prop} {f : FC} {g : FCL}
theorem pd_fn (hc : CallR X (.builtin id) r) (hl : LCR ⟨X.K, p⟩ r f) (hg : Gl X x) (hm : X.mg x = none) (hv : bootBuiltins x = some (.builtin id)) (ha : PA X (e :: es) (upA ⟨X.K, p⟩ G dt)) (hn : x ≠ "__name__" := by decide) (hdb : (x == ("__debug__" : Str)) = false := by decide)
    (he : starEach (e :: es) X.env = (false, eval e X.env) :: starEach es X.env := by rfl) (hpl : (backTo pos (starEach es X.env)).any (·.1) = false := by rfl) : PE X (.Call (.Name x q) (e :: es) [] pos) (up ⟨X.K, p⟩ G (dFn f dt)) :=
  peOf (pe_callB hc hg hm hv ha hn hdb he hpl) (up_fn hl)
theorem pd_ty (hc : CallR X (.type T) r) (hl : LCR ⟨X.K, p⟩ r f) (hg : Gl X x) (hm : X.mg x = none) (hv : bootBuiltins x = some (.type T)) (ha : PA X (e :: es) (upA ⟨X.K, p⟩ G dt)) (hn : x ≠ "__name__" := by decide) (hdb : (x == ("__debug__" : Str)) = false := by decide)
    (he : starEach (e :: es) X.env = (false, eval e X.env) :: starEach es X.env := by rfl) (hpl : (backTo pos (starEach es X.env)).any (·.1) = false := by rfl) : PE X (.Call (.Name x q) (e :: es) [] pos) (up ⟨X.K, p⟩ G (dFn f dt)) :=
  peOf (pe_callTy hc hg hm hv ha hn hdb he hpl) (up_fn hl)
theorem pl_ty (hc : CallR X (.type T) r) (hl : LCL ⟨X.K, p⟩ r g) (hg : Gl X x) (hm : X.mg x = none) (hv : bootBuiltins x = some (.type T)) (ha : PA X (e :: es) (upA ⟨X.K, p⟩ G dt)) (hn : x ≠ "__name__" := by decide) (hdb : (x == ("__debug__" : Str)) = false := by decide)
    (he : starEach (e :: es) X.env = (false, eval e X.env) :: starEach es X.env := by rfl) (hpl : (backTo pos (starEach es X.env)).any (·.1) = false := by rfl) : PE X (.Call (.Name x q) (e :: es) [] pos) (upL ⟨X.K, p⟩ G (dFnL g dt)) :=
  peOf (pe_callTy hc hg hm hv ha hn hdb he hpl) (up_fnL hl)
end
/-- of one argument -/
def f1 (f : D → (D → Prop) → Prop) : FC := fun xs Q => match xs with
  | [x] => f x Q
  | _ => False
def f1L (f : D → (List D → Prop) → Prop) : FCL := fun xs Q => match xs with
  | [x] => f x Q
  | _ => False
theorem lc1 {r : List V → Hp → VK → Prop} {f : D → (D → Prop) → Prop} (h : ∀ H x v (P : D → Prop) (Q : VK), PlOk c H → Rp c H x v → f x P → (∀ z w H', Step c 0 H H' → Rp c H' z w → P z → Q w H') → r [v] H Q) : LCR c r (f1 f) := fun H xs vs P Q hp rs q k => by
  unfold f1 at q
  split at q
  · obtain ⟨v, rfl, r1⟩ := rps1 rs
    exact h H _ v P Q hp r1 q k
  · exact q.elim
theorem lc1L {r : List V → Hp → VK → Prop} {f : D → (List D → Prop) → Prop} (h : ∀ H x v (P : List D → Prop) (Q : VK), PlOk c H → Rp c H x v → f x P → (∀ ds q ys H', Step c 0 H H' → H q = none → H' q = some (.lst ys) → Rps c H' ds ys → P ds → Q (.ref q) H') → r [v] H Q) : LCL c r (f1L f) := fun H xs vs P Q hp rs q k => by
  unfold f1L at q
  split at q
  · obtain ⟨v, rfl, r1⟩ := rps1 rs
    exact h H _ v P Q hp r1 q k
  · exact q.elim
theorem r_tup {H : Hp} {ds : List D} {a : Addr} {xs : List V} (h : SqT c.K H a xs) (r : Rps c H ds xs) : Rp c H (.tup ds) (.ref a) := by
  unfold Rp
  exact ⟨a, xs, rfl, h, r⟩
theorem r_lst {H : Hp} {ds : List D} {a : Addr} {xs : List V} (h : SqF H a xs) (r : Rps c H ds xs) : Rp c H (.lst ds) (.ref a) := by
  unfold Rp
  exact ⟨a, xs, rfl, h, r⟩
/-- len -/
def fLen (x : D) (Q : D → Prop) : Prop := match x with
  | .tup ds => Q (.int ds.length)
  | .lst ds => Q (.int ds.length)
  | .scr ns => Q (.int ns.length)
  | .str z => small z.length ∧ Q (.int z.length)
  | _ => False
theorem lc_len : LCR c (fun xs H Q => ∃ x n, xs = [x] ∧ LenV c.K x H n ∧ Q (.int n) H) (f1 fLen) := lc1 fun H x v P Q hp r q k => by
  unfold fLen at q
  split at q
  · unfold Rp at r
    obtain ⟨a, xs, rfl, h1, h2⟩ := r
    exact ⟨_, _, rfl, .inr ⟨xs, h1, rfl⟩, k _ _ H (Step.refl _ _ _) (by rw [h2.length]; exact r_int) q⟩
  · unfold Rp at r
    obtain ⟨a, xs, rfl, h1, h2⟩ := r
    exact ⟨_, _, rfl, .inl ⟨xs, h1.l, rfl⟩, k _ _ H (Step.refl _ _ _) (by rw [h2.length]; exact r_int) q⟩
  · unfold Rp at r
    obtain ⟨a, rfl, h1⟩ := r
    exact ⟨_, _, rfl, .inl ⟨_, h1.l, rfl⟩, k _ _ H (Step.refl _ _ _) (by rw [List.length_map]; exact r_int) q⟩
  · cases (show v = _ from r)
    exact ⟨_, _, rfl, ⟨q.1.z, rfl⟩, k _ _ H (Step.refl _ _ _) r_int q.2⟩
  · exact q.elim
/-- tuple(x) -/
def fTuple (x : D) (Q : D → Prop) : Prop := items x fun ds => Q (.tup ds)
theorem lc_tuple : LCR c (fun xs H Q => ∃ p ys, xs = [.ref p] ∧ ((SqL c.K H p ys ∧ ∀ l, H l = none → Q (.ref l) (upd H l (.tup ys))) ∨ (SqT c.K H p ys ∧ Q (.ref p) H))) (f1 fTuple) := lc1 fun H x v P Q hp r q k => by
  obtain ⟨ds, a, xs, rfl, h1, h2, h3, h4⟩ := r.items_of q
  rcases h1 with h1 | h1
  · exact ⟨a, xs, rfl, .inr ⟨h1, k _ _ H (Step.refl _ _ _) (r_tup h1 h2) h3⟩⟩
  · exact ⟨a, xs, rfl, .inl ⟨h1.l, fun l hl => k _ _ _ (Step.new hl) (r_tup (SqT.of upd_same) (h2.le (Le.new hl) _ _)) h3⟩⟩
/-- list(x) -/
def fList (x : D) (Q : List D → Prop) : Prop := items x Q
theorem lc_list : LCL c (fun xs H Q => ∃ p ys, xs = [.ref p] ∧ (SqL c.K H p ys ∨ SqT c.K H p ys) ∧ ∀ l, H l = none → Q (.ref l) (upd H l (.lst ys))) (f1L fList) := lc1L fun H x v P Q hp r q k => by
  obtain ⟨ds, a, xs, rfl, h1, h2, h3, h4⟩ := r.items_of q
  exact ⟨a, xs, rfl, h1.symm.imp_left SqF.l, fun l hl => k _ _ _ _ (Step.new hl) hl upd_same (h2.le (Le.new hl) _ _) h3⟩
/-- the items of a list -/
def litems (d : D) (Q : List D → Prop) : Prop := match d with
  | .lst ds => Q ds
  | _ => False
theorem Rp.litems_of {H : Hp} {d : D} {v : V} {P : List D → Prop} (r : Rp c H d v) (h : litems d P) : ∃ ds a xs, v = .ref a ∧ SqF H a xs ∧ Rps c H ds xs ∧ P ds := by
  cases d with
  | lst ds =>
    unfold Rp at r
    obtain ⟨a, xs, e, h1, h2⟩ := r
    exact ⟨ds, a, xs, e, h1, h2, h⟩
  | _ => exact h.elim
def fSum (x : D) (Q : D → Prop) : Prop := litems x fun ds => ds.all D.isI = true ∧ Q (.int (ds.map D.toI).sum)
theorem lc_sum : LCR c (rSum c.K) (f1 fSum) := lc1 fun H x v P Q hp r q k => by
  obtain ⟨ds, a, xs, rfl, h1, h2, h3, h4⟩ := r.litems_of q
  exact ⟨a, _, rfl, by rw [← ints_V h2 h3]; exact h1.l, k _ _ H (Step.refl _ _ _) r_int h4⟩
def fAll (x : D) (Q : D → Prop) : Prop := litems x fun ds => ds.all D.isBl = true ∧ Q (.bl (ds.all D.toB))
def fAny (x : D) (Q : D → Prop) : Prop := litems x fun ds => ds.all D.isBl = true ∧ Q (.bl (ds.any D.toB))
theorem lc_all : LCR c (rAll c.K) (f1 fAll) := lc1 fun H x v P Q hp r q k => by
  obtain ⟨ds, a, xs, rfl, h1, h2, h3, h4⟩ := r.litems_of q
  exact ⟨a, _, rfl, by rw [← bls_V h2 h3]; exact h1.l, k _ _ H (Step.refl _ _ _) (by rw [List.all_map]; exact r_bl) h4⟩
theorem lc_any : LCR c (rAny c.K) (f1 fAny) := lc1 fun H x v P Q hp r q k => by
  obtain ⟨ds, a, xs, rfl, h1, h2, h3, h4⟩ := r.litems_of q
  exact ⟨a, _, rfl, by rw [← bls_V h2 h3]; exact h1.l, k _ _ H (Step.refl _ _ _) (by rw [List.any_map]; exact r_bl) h4⟩
/-- max, min of a list of ints -/
def fMaxL (x : D) (Q : D → Prop) : Prop := litems x fun ds => ds.all D.isI = true ∧ ∃ m, m ∈ ds.map D.toI ∧ (∀ y ∈ ds.map D.toI, y ≤ m) ∧ Q (.int m)
def fMinL (x : D) (Q : D → Prop) : Prop := litems x fun ds => ds.all D.isI = true ∧ ∃ m, m ∈ ds.map D.toI ∧ (∀ y ∈ ds.map D.toI, m ≤ y) ∧ Q (.int m)
theorem lc_maxL : LCR c (rMax c.K) (f1 fMaxL) := lc1 fun H x v P Q hp r q k => by
  obtain ⟨ds, a, xs, rfl, h1, h2, h3, m, h4, h5, h6⟩ := r.litems_of q
  refine ⟨a, _, rfl, by rw [← ints_V h2 h3]; exact h1.l, List.length_pos_of_mem h4, fun n n1 n2 => ?_⟩
  have e : n = m := Int.le_antisymm (h5 n n1) (n2 m h4)
  rw [e]
  exact k _ _ H (Step.refl _ _ _) r_int h6
theorem lc_minL : LCR c (rMin c.K) (f1 fMinL) := lc1 fun H x v P Q hp r q k => by
  obtain ⟨ds, a, xs, rfl, h1, h2, h3, m, h4, h5, h6⟩ := r.litems_of q
  refine ⟨a, _, rfl, by rw [← ints_V h2 h3]; exact h1.l, List.length_pos_of_mem h4, fun n n1 n2 => ?_⟩
  have e : n = m := Int.le_antisymm (n2 m h4) (h5 n n1)
  rw [e]
  exact k _ _ H (Step.refl _ _ _) r_int h6
def fAbs (x : D) (Q : D → Prop) : Prop := match x with
  | .int i => Q (.int (if i < 0 then -i else i))
  | _ => False
theorem lc_abs : LCR c (fun xs H Q => ∃ i, xs = [.int i] ∧ Q (.int (if i < 0 then -i else i)) H) (f1 fAbs) := lc1 fun H x v P Q hp r q k => by
  unfold fAbs at q
  split at q
  · cases (show v = _ from r)
    exact ⟨_, rfl, k _ _ H (Step.refl _ _ _) r_int q⟩
  · exact q.elim
def f2I (g : Int → Int → D) : FC := fun xs Q => match xs with
  | [.int i, .int j] => Q (g i j)
  | _ => False
theorem lc_2I {g : Int → Int → V} {g' : Int → Int → D} (h : ∀ H i j, Rp c H (g' i j) (g i j)) : LCR c (fun xs H Q => ∃ i j, xs = [.int i, .int j] ∧ Q (g i j) H) (f2I g') := fun H xs vs P Q hp rs q k => by
  unfold f2I at q
  split at q
  · obtain ⟨v, w, rfl, r1, r2⟩ := rps2 rs
    cases (show v = _ from r1)
    cases (show w = _ from r2)
    exact ⟨_, _, rfl, k _ _ H (Step.refl _ _ _) (h _ _ _) q⟩
  · exact q.elim
abbrev fMax2 : FC := f2I fun i j => .int (if j > i then j else i)
abbrev fMin2 : FC := f2I fun i j => .int (if j < i then j else i)
theorem lc_max2 : LCR c (fun xs H Q => ∃ i j, xs = [.int i, .int j] ∧ Q (.int (if j > i then j else i)) H) fMax2 := lc_2I fun _ _ _ => rfl
theorem lc_min2 : LCR c (fun xs H Q => ∃ i j, xs = [.int i, .int j] ∧ Q (.int (if j < i then j else i)) H) fMin2 := lc_2I fun _ _ _ => rfl
/-- int(an int), int(a bool) -/
def fInt (x : D) (Q : D → Prop) : Prop := match x with
  | .int i => Q (.int i)
  | .bl b => Q (.int (if b then 1 else 0))
  | _ => False
theorem lc_int : LCR c (fun xs H Q => (∃ i, xs = [.int i] ∧ Q (.int i) H) ∨ ∃ k, xs = [.bl k] ∧ Q (.int (if k then 1 else 0)) H) (f1 fInt) := lc1 fun H x v P Q hp r q k => by
  unfold fInt at q
  split at q
  · cases (show v = _ from r)
    exact .inl ⟨_, rfl, k _ _ H (Step.refl _ _ _) r_int q⟩
  · cases (show v = _ from r)
    exact .inr ⟨_, rfl, k _ _ H (Step.refl _ _ _) r_int q⟩
  · exact q.elim
/-- int(a text) -/
def fIntS (x : D) (Q : D → Prop) : Prop := match x with
  | .str z => z.length ≤ 640 ∧ ∃ n, PySem.intText? z = some n ∧ Q (.int n)
  | _ => False
theorem lc_intS : LCR c (fun xs H Q => ∃ a n, xs = [.str a] ∧ PySem.intText? a = some n ∧ a.length ≤ 640 ∧ Q (.int n) H) (f1 fIntS) := lc1 fun H x v P Q hp r q k => by
  unfold fIntS at q
  split at q
  · cases (show v = _ from r)
    obtain ⟨z, n, e, q⟩ := q
    exact ⟨_, n, rfl, e, z, k _ _ H (Step.refl _ _ _) r_int q⟩
  · exact q.elim
/-- str(an int) -/
def fStrI (x : D) (Q : D → Prop) : Prop := match x with
  | .int i => i.natAbs.log2 < 1920 ∧ Q (.str (toString i))
  | _ => False
theorem lc_strI : LCR c (fun xs H Q => ∃ i, xs = [.int i] ∧ i.natAbs.log2 < 1920 ∧ Q (.str (toString i)) H) (f1 fStrI) := lc1 fun H x v P Q hp r q k => by
  unfold fStrI at q
  split at q
  · cases (show v = _ from r)
    exact ⟨_, rfl, q.1, k _ _ H (Step.refl _ _ _) r_str q.2⟩
  · exact q.elim
/-! ### isinstance -/
inductive Ty where
  | int | bool | str | tuple | list | dict
def Ty.nm : Ty → String
  | .int => "int" | .bool => "bool" | .str => "str" | .tuple => "tuple" | .list => "list" | .dict => "dict"
def Ty.st : Ty → Str
  | .int => "int" | .bool => "bool" | .str => "str" | .tuple => "tuple" | .list => "list" | .dict => "dict"
def D.tyn : D → Option String
  | .non => some "NoneType"
  | .bl _ => some "bool"
  | .int _ => some "int"
  | .str _ => some "str"
  | .tup _ => some "tuple"
  | .lst _ => some "list"
  | .scr _ => some "list"
  | .pail => some "list"
  | .prog _ _ _ => none
  | .stg _ _ _ => none
  | .ld _ _ _ => none
def D.isTy : Ty → D → Bool
  | .int, .int _ => true
  | .int, .bl _ => true
  | .bool, .bl _ => true
  | .str, .str _ => true
  | .tuple, .tup _ => true
  | .list, .lst _ => true
  | .list, .scr _ => true
  | .list, .pail => true
  | _, _ => false
def D.noIns : D → Bool
  | .stg _ _ _ => false
  | .ld _ _ _ => false
  | _ => true
def D.isPg : D → Bool
  | .prog _ _ _ => true
  | _ => false
def D.isPr : D → Bool
  | .prog _ _ _ => true
  | .stg _ _ _ => true
  | .ld _ _ _ => true
  | _ => false
theorem tyx_of {H : Hp} {x : D} {v : V} {t : String} (hp : PlOk c H) (r : Rp c H x v) (h : x.tyn = some t) : TyX c.K H v (.type t) := by
  cases x with
  | non => cases (show v = _ from r); cases h; exact .base .non
  | bl _ => cases (show v = _ from r); cases h; exact .base (.bl _)
  | int _ => cases (show v = _ from r); cases h; exact .base (.int _)
  | str _ => cases (show v = _ from r); cases h; exact .base (.str _)
  | tup ds =>
    unfold Rp at r
    obtain ⟨a, xs, rfl, h1, h2⟩ := r
    cases h
    rcases h1 with (h1 | ⟨o, h1⟩) | ⟨o, its, n, h1, h3, _⟩
    · exact .base (.tup h1)
    · exact .fTuple h1
    · exact .kTuple h1 h3
  | lst ds =>
    unfold Rp at r
    obtain ⟨a, xs, rfl, ⟨o, h1⟩, h2⟩ := r
    cases h
    exact .base (.frz h1)
  | scr ns =>
    unfold Rp at r
    obtain ⟨a, rfl, h1⟩ := r
    cases h
    rcases h1 with ⟨o, h1⟩ | ⟨o, its, n, h1, h3, _⟩
    · exact .base (.frz h1)
    · exact .kList h1 h3
  | pail =>
    unfold Rp at r
    obtain ⟨a, h1, rfl⟩ := r
    obtain ⟨z, _, x, y, w, e, _⟩ := hp a h1
    cases h
    exact .base (.lst e)
  | prog _ _ _ => cases h
  | stg _ _ _ => cases h
  | ld _ _ _ => cases h
theorem kit_tab : ∀ (T : Ty) (x : D) (t : String), x.tyn = some t → kitB t T.nm = some (x.isTy T) := by
  intro T x t h
  cases T <;> cases x <;> first
    | (cases h; done)
    | (cases h; first | decide +kernel | rfl)
def fIsi (T : Ty) (x : D) (Q : D → Prop) : Prop := x.isPr = false ∧ Q (.bl (x.isTy T))
theorem pd_isi {q q2 : Pos} (T : Ty) (ha : PE X a (up ⟨X.K, p⟩ G da)) (hg : Gl X "isinstance") (hm : X.mg "isinstance" = none) (hg2 : Gl X T.st) (hm2 : X.mg T.st = none) (hv : bootBuiltins T.st = some (.type T.nm)) (hn : T.st ≠ "__name__" := by decide) (hdb : (T.st == ("__debug__" : Str)) = false := by decide)
    (he : starEach [a, .Name T.st q2] X.env = (false, eval a X.env) :: starEach [.Name T.st q2] X.env := by rfl) (he2 : starEach [.Name T.st q2] X.env = (false, eval (.Name T.st q2) X.env) :: starEach [] X.env := by rfl) (hpl : (backTo pos (starEach [.Name T.st q2] X.env)).any (·.1) = false := by rfl) :
    PE X (.Call (.Name "isinstance" q) [a, .Name T.st q2] [] pos) (up ⟨X.K, p⟩ G (dUn (fIsi T) da)) :=
  peOf (pe_callB call_isi hg hm PyProof.Rows.boot_isinstance (pa_cons ha (pa_cons (pe_bltn (v := .ty T.nm) hg2 hm2 hv rfl hn hdb) pa_nil he2) he) (by decide) (by decide) he hpl) fun σ H Q ⟨ss, ow, P, R, h, k⟩ => ⟨ss, ow, _, R, h, fun x v H1 s1 r1 ⟨p0, p1⟩ => by
    have R1 := R.stepn s1
    obtain ⟨t, ht⟩ : ∃ t, x.tyn = some t := by
      cases x <;> first | exact ⟨_, rfl⟩ | cases p0
    exact ⟨v, .ty T.nm, .type t, .type T.nm, x.isTy T, rfl, .ty _, tyx_of R1.pail r1 ht, kit_ty (kit_tab T x t ht), k _ _ H1 s1 r_bl p1⟩⟩
/-! ### texts -/
/-- sep.join(a list, a tuple of texts) -/
def fJoin : F2 := fun x y Q => match x with
  | .str a => items y fun ds => ds.all D.isS = true ∧ ((ds.map D.toS).map (·.length)).sum + (ds.map D.toS).length * a.length ≤ 16777216 ∧ Q (.str (Txt.join a (ds.map D.toS)))
  | _ => False
/-- a text's method, of one argument -/
def dM1 (f : F2) (a b : DE) : DE := ⟨a.n + b.n, fun ss Q => a ss fun x => x.isS = true ∧ b ss fun y => f x y Q⟩
def dM1L (f : D → D → (List D → Prop) → Prop) (a b : DE) : DA := ⟨a.n + b.n, fun ss Q => a ss fun x => x.isS = true ∧ b ss fun y => f x y Q⟩
theorem isS_V {H : Hp} {x : D} {v : V} (r : Rp c H x v) (h : x.isS = true) : ∃ z, x = .str z ∧ v = .str z := by
  cases x with
  | str z => exact ⟨z, rfl, r⟩
  | _ => cases h
theorem pd_join {apos : Pos} (ho : PE X a (up ⟨X.K, p⟩ G da)) (he : PE X e (up ⟨X.K, p⟩ G db)) (hs : starEach [e] X.env = [(false, eval e X.env)] := by rfl) (hbase : attributeBase a "join" X.env (eval a X.env) = eval a X.env := by rfl) (hline : (apos.endLine == pos.line) = true := by rfl) :
    PE X (.Call (.Attribute a "join" apos) [e] [] pos) (up ⟨X.K, p⟩ G (dM1 fJoin da db)) :=
  peOf (pe_join ho he hs hbase hline) fun σ H Q ⟨ss, ow, P, R, h, k⟩ => ⟨ss, ow, _, R.l, h, fun x v H1 s1 r1 ⟨p0, p1⟩ => by
    obtain ⟨z, rfl, rfl⟩ := isS_V r1 p0
    refine ⟨⟨_, rfl⟩, ss, ow, _, R.step s1, p1, fun y w H2 s2 r2 p2 => ?_⟩
    obtain ⟨ds, a, xs, rfl, h1, h2, ⟨h3, h4, h5⟩, _⟩ := r2.items_of p2
    refine ⟨z, a, ds.map D.toS, rfl, rfl, ?_, h4, k _ _ H2 (s1.trans s2) r_str h5⟩
    rw [← strs_V h2 h3]
    exact h1.symm.imp_left SqF.l⟩
theorem rps_of_strs {H : Hp} : ∀ {ys : List Str}, Rps c H (ys.map .str) (ys.map .str)
  | [] => .nil
  | _ :: _ => .cons r_str rps_of_strs
theorem rps_of_ints {H : Hp} : ∀ {ys : List Int}, Rps c H (ys.map .int) (ys.map .int)
  | [] => .nil
  | _ :: _ => .cons r_int rps_of_ints
def fSplit : D → D → (List D → Prop) → Prop := fun x y Q => match x, y with
  | .str a, .str b => (b.length == 0) = false ∧ small a.length ∧ Q ((Txt.split a b).map .str)
  | _, _ => False
theorem pl_split {apos : Pos} (ho : PE X a (up ⟨X.K, p⟩ G da)) (he : PE X e (up ⟨X.K, p⟩ G db)) (hs : starEach [e] X.env = [(false, eval e X.env)] := by rfl) (hbase : attributeBase a "split" X.env (eval a X.env) = eval a X.env := by rfl) (hline : (apos.endLine == pos.line) = true := by rfl) :
    PE X (.Call (.Attribute a "split" apos) [e] [] pos) (upL ⟨X.K, p⟩ G (dM1L fSplit da db)) :=
  peOf (pe_split ho he hs hbase hline) fun σ H Q ⟨ss, ow, P, R, h, k⟩ => ⟨ss, ow, _, R.l, h, fun x v H1 s1 r1 ⟨p0, p1⟩ => by
    obtain ⟨z, rfl, rfl⟩ := isS_V r1 p0
    refine ⟨⟨_, rfl⟩, ss, ow, _, R.step s1, p1, fun y w H2 s2 r2 p2 => ?_⟩
    unfold fSplit at p2
    split at p2
    · rename_i z b e1
      cases e1
      cases (show w = _ from r2)
      obtain ⟨h1, h2, h3⟩ := p2
      refine ⟨_, _, rfl, rfl, h1, Nat.le_trans (Nat.add_le_add_right h2 2) (by decide), fun q hq => ?_⟩
      exact k _ q _ _ ((s1.trans s2).then0 (Step.new hq)) ((s1.trans s2).free R.pail hq) upd_same rps_of_strs h3
    · exact p2.elim⟩
def fPart : F2 := fun x y Q => match x, y with
  | .str a, .str b => (b.length == 0) = false ∧ small a.length ∧ Q (.tup [.str (Txt.partition a b).1, .str (Txt.partition a b).2.1, .str (Txt.partition a b).2.2])
  | _, _ => False
theorem pd_partition {apos : Pos} (ho : PE X a (up ⟨X.K, p⟩ G da)) (he : PE X e (up ⟨X.K, p⟩ G db)) (hs : starEach [e] X.env = [(false, eval e X.env)] := by rfl) (hbase : attributeBase a "partition" X.env (eval a X.env) = eval a X.env := by rfl) (hline : (apos.endLine == pos.line) = true := by rfl) :
    PE X (.Call (.Attribute a "partition" apos) [e] [] pos) (up ⟨X.K, p⟩ G (dM1 fPart da db)) :=
  peOf (pe_partition ho he hs hbase hline) fun σ H Q ⟨ss, ow, P, R, h, k⟩ => ⟨ss, ow, _, R.l, h, fun x v H1 s1 r1 ⟨p0, p1⟩ => by
    obtain ⟨z, rfl, rfl⟩ := isS_V r1 p0
    refine ⟨⟨_, rfl⟩, ss, ow, _, R.step s1, p1, fun y w H2 s2 r2 p2 => ?_⟩
    unfold fPart at p2
    split at p2
    · rename_i z b e1
      cases e1
      cases (show w = _ from r2)
      obtain ⟨h1, h2, h3⟩ := p2
      refine ⟨_, _, rfl, rfl, h1, h2.z, fun q hq => ?_⟩
      exact k _ _ _ ((s1.trans s2).then0 (Step.new hq)) (r_tup (SqT.of upd_same) (.cons r_str (.cons r_str (.one r_str)))) h3
    · exact p2.elim⟩
/-! ### f-strings -/
def fFmt (x : D) (Q : D → Prop) : Prop := match x with
  | .str y => small y.length ∧ Q (.str y)
  | .int i => i.natAbs.log2 < 1920 ∧ Q (.str (toString i))
  | _ => False
theorem pd_fmt (ha : PE X a (up ⟨X.K, p⟩ G da)) : PE X (.FormattedValue a (-1) none pos) (up ⟨X.K, p⟩ G (dUn fFmt da)) := peOf (pe_fmt ha) fun σ H Q ⟨ss, ow, P, R, h, k⟩ => ⟨ss, ow, _, R, h, fun x v H1 s1 r1 p1 => by
  unfold fFmt at p1
  split at p1
  · cases (show v = _ from r1)
    exact .inl ⟨_, rfl, p1.1.z, k _ _ H1 s1 r_str p1.2⟩
  · cases (show v = _ from r1)
    exact .inr ⟨_, rfl, p1.1, k _ _ H1 s1 r_str p1.2⟩
  · exact p1.elim⟩
inductive JD (X : Cx) (p : Option Addr) (G : Gm) : List Expr → List DE → Prop where
  | nil : JD X p G [] []
  | cons {e : Expr} {d : DE} {es : List Expr} {ds : List DE} (h : PE X e (up ⟨X.K, p⟩ G d)) (r : JD X p G es ds) : JD X p G (e :: es) (d :: ds)
def dJs : List DE → Str → Sls → (Str → Prop) → Prop
  | [], acc, _, Q => Q acc
  | d :: ds, acc, ss, Q => d ss fun x => match x with
    | .str y => small (acc ++ y).length ∧ dJs ds (acc ++ y) ss Q
    | _ => False
def dJn (ds : List DE) : Nat := ds.foldr (fun d n => d.n + n) 0
def dJoined (ds : List DE) : DE := ⟨dJn ds, fun ss Q => dJs ds Str.empty ss fun z => Q (.str z)⟩
theorem jd_pj {es : List Expr} {ds : List DE} (h : JD X p G es ds) : PJ X es (ds.map (up ⟨X.K, p⟩ G)) := by
  induction h with
  | nil => exact .nil
  | cons h r ih => exact .cons h ih
theorem jd_up {σ : L2.St} {ow : Nat → Addr} {ss : Sls} : ∀ (ds : List DE) (acc : Str) (H : Hp) (Q : Str → Hp → Prop) (P : Str → Prop), RepS ⟨X.K, p⟩ (dJn ds) G H σ ss ow → dJs ds acc ss P → (∀ z H', Step ⟨X.K, p⟩ (dJn ds) H H' → P z → Q z H') → tJs (ds.map (up ⟨X.K, p⟩ G)) acc σ H Q
  | [], acc, H, Q, P, R, h, k => k _ H (Step.refl _ _ _) h
  | d :: ds, acc, H, Q, P, R, h, k => ⟨ss, ow, _, RepS.l (n := dJn ds) (m := d.n) R, h, fun x v H1 s1 r1 p1 => by
    split at p1
    · cases (show v = _ from r1)
      exact ⟨_, rfl, p1.1.z, jd_up ds _ H1 Q P (RepS.step (n := dJn ds) (m := d.n) R s1) p1.2 fun z H2 s2 p2 => k z H2 (s1.trans s2) p2⟩
    · exact p1.elim⟩
theorem pd_joined {v1 v2 : Expr} {rest : List Expr} {ds : List DE} (h : JD X p G (v1 :: v2 :: rest) ds) : PE X (.JoinedStr (v1 :: v2 :: rest) pos) (up ⟨X.K, p⟩ G (dJoined ds)) :=
  peOf (pe_joined (jd_pj h)) fun σ H Q ⟨ss, ow, P, R, h, k⟩ => jd_up ds Str.empty H _ _ R h fun z H' s1 p1 => k _ _ H' s1 r_str p1
theorem pd_joined1 (ha : PE X a (up ⟨X.K, p⟩ G da)) : PE X (.JoinedStr [a] pos) (up ⟨X.K, p⟩ G da) := pe_joined1 ha
end DL
set_option maxRecDepth 100000
set_option maxHeartbeats 2000000
namespace DL
open PySem PySem.Spec PyProof.Rows L2
/-! ### enumerate(a tuple) -/
theorem meets_enumB {v : Value} {o : Obj} {H : Heap → Prop} (B : Begins v o H) :
    Meets (Builtin.«enumerate.__new__» ⟨[.type "enumerate", v], []⟩) (fun _ R s => H s.heap ∧
      R (.ok (.ret (.ref (s.heap.push o).objs.size))) { s with heap := (s.heap.push o).push { cls := .type "enumerate", data := .fields #[.none, .bool false, .ref s.heap.objs.size, rawInt 0, .none, .none] } }) :=
  .of_wp fun prog w A R s h => by
    obtain ⟨hp, g, d, tk, os⟩ := s
    obtain ⟨h1, h⟩ := h
    have hsub := sub_enumerate
    have q1 : ∀ {A' : Around} {E : Value → Shared → Prop} {Q : Value → Shared → Prop}, Q (.ref hp.objs.size) ⟨hp.push o, g, d, tk, os⟩ → wpAny (model prog w) A' (pyIter v) Q E ⟨hp, g, d, tk, os⟩ :=
      fun q => B.iter prog w _ _ ⟨hp, g, d, tk, os⟩ _ h1 q
    wp_walk using q1
    refine wpAny_stack_any fun st => wpAny_pure ?_
    split
    · rename_i c _ _ _ _ _
      cases (c == Value.type "enumerate")
      · wp_walk using q1
        exact ⟨_, rfl, h⟩
      · wp_walk using q1
        exact ⟨_, rfl, h⟩
    · wp_walk using q1
      exact ⟨_, rfl, h⟩
theorem call_enumB {prog : Program} {w : World} {A : Around} {E : Value → Shared → Prop} {s : Shared} {v : Value} {o : Obj} {H : Heap → Prop} {Q : Value → Shared → Prop} (B : Begins v o H) (h1 : H s.heap)
    (h : ∀ h', IsEnum h' (s.heap.objs.size + 1) s.heap.objs.size 0 .none → h'.get? s.heap.objs.size = some o → h'.objs.size = s.heap.objs.size + 2 →
      (∀ b o, s.heap.get? b = some o → h'.get? b = some o) → Q (.ref (s.heap.objs.size + 1)) { s with heap := h' }) :
    wpAny (model prog w) A (call (.type "enumerate") [v]) Q E s := by
  refine callType_new F.called_enumerate (by decide) (F.typeCall_enumerate_1 _) (F.newCall_enumerate_1 _) (fun obj => F.args_object_init_2 obj _) F.entry_enumerate_new
    (meets_enumB B) ⟨h1, ?_⟩
  have hz : (s.heap.push o).objs.size = s.heap.objs.size + 1 := Heap.size_push ..
  show _ ∧ _
  rw [hz]
  have he : IsEnum ((s.heap.push o).push { cls := .type "enumerate", data := .fields #[.none, .bool false, .ref s.heap.objs.size, rawInt 0, .none, .none] }) (s.heap.objs.size + 1) s.heap.objs.size 0 .none := by
    have := Heap.get?_push_size (s.heap.push o) (o := { cls := .type "enumerate", data := .fields #[.none, .bool false, .ref s.heap.objs.size, rawInt 0, .none, .none] }) rfl
    rw [hz] at this; exact this
  refine ⟨⟨_, he, rfl⟩, h _ he (Heap.get?_push_of_some _ (Heap.get?_push_size _ B.free)) (by rw [Heap.size_push, hz]) fun b o x => Heap.get?_push_of_some _ (Heap.get?_push_of_some _ x)⟩
/-- the tuple at a, each item in a new pair -/
def Iet (K : PySem.W.Frag) (a : Addr) : It :=
  ⟨fun i H => ∃ (xs : List V) (x : V), SqT K H a xs ∧ xs[i]? = some x, fun i H v H' => ∃ T x, v = .ref T ∧ H T = none ∧ H' = upd H T (.tup [.int (i : Nat), x]) ∧ ∀ xs, SqT K H a xs → xs[i]? = some x, fun i H => ∃ xs : List V, SqT K H a xs ∧ xs.length ≤ i⟩
theorem turn_enumT {P : Program} {w : World} {K : PySem.W.Frag} {elts : List Expr} {kk : Nat} {tpos : Pos} (a e it : Addr) (hea : e ≠ a) (hia : a ≠ it) :
    Turn P w K (.Tuple elts kk tpos) (Iet K a) [e, it] e (fun i h => (∃ old, IsEnum h e it ((i : Nat) : Int) old) ∧ h.IsTupleIter it a i ∧ e ≠ it) where
  mem := by simp
  obj := fun i h st b hb => by
    obtain ⟨⟨old, he⟩, ⟨o, ho, hc, hd⟩, _⟩ := st
    have e' : b = e ∨ b = it := by simpa using hb
    rcases e' with z | z
    · rw [z]; exact ⟨_, he, fun v q => nomatch q⟩
    · rw [z]; exact ⟨o, ho, fun v q => by rw [hd] at q; cases q⟩
  keep := fun i h h' st k => let ⟨⟨old, he⟩, hi, hne⟩ := st; ⟨⟨old, k e (by simp) _ he⟩, hi.at fun o q => k it (by simp) o q, hne⟩
  item := by
    intro X hP hw hK hc i pins s σ H E I hf st hg
    subst hP hw hK
    obtain ⟨⟨old, he⟩, hit, hne⟩ := st
    obtain ⟨xs, x, hq, hx⟩ := hg
    obtain ⟨its, rv, p, hz⟩ := I.tuple hq
    obtain ⟨u, hu, ru⟩ := rv.get hx
    have hel : e < s.heap.objs.size := Heap.lt_size he
    have hil : it < s.heap.objs.size := by obtain ⟨_, q, _⟩ := hit; exact Heap.lt_size q
    have pt : s.heap.IsTuple a its.toArray := p
    have hlt : i < its.toArray.size := by
      have := (List.getElem?_eq_some_iff.mp hu).1
      simpa using this
    refine wpAny_pyNext_enum_itemD (Draws.tuple (A := X.A.in1) (I.ok.hd hc) it a hia its.toArray) he ⟨hit, pt⟩ hlt hne (by simp [hne, hea]) fun y h' tk hy ho hit' hT hsz hk => ?_
    have hyu : y = u := by
      have h1 : its[i]? = some y := by simpa using hy
      rw [h1] at hu
      exact Option.some.inj hu
    subst hyu
    refine ⟨_, rfl, wpAny_letOwnedTupleGo_enum (s := { s with heap := h', toks := tk + 1 }) ho fun h'' he' sb => ?_⟩
    have hT2 : h''.get? s.heap.objs.size = some { cls := .type "tuple", data := .seq #[.int i tk, y] } := (sb.2 _ (Nat.ne_of_gt hel)).trans hT
    have new : ObjOk X.prog X.w (upd H s.heap.objs.size (.tup [.int (i : Nat), x])) h'' s.heap.objs.size (.tup [.int (i : Nat), x]) :=
      ⟨by show 2 ≤ sizeLine; decide, [.int i tk, y], .cons ⟨_, rfl⟩ (.cons ru .nil), ⟨_, hT2, rfl, _, rfl⟩⟩
    have I1 : Inv X pins σ (upd H s.heap.objs.size (.tup [.int (i : Nat), x])) { s with heap := h'', toks := tk + 1 } :=
      I.turnedNew (ch := [e, it]) (fun b ob hb q => (sb.2 b (fun z => hb (by simp [z]))).trans (hk b ob (fun z => hb (by simp [z])) (fun z => hb (by simp [z])) q)) hf (Nat.le_refl _) new
    refine ⟨.ref s.heap.objs.size, _, I1, rfl, ⟨_, x, rfl, I.hok.fresh (Nat.le_refl _), rfl, fun ys hy => by rw [I.tuple_inj hy hq]; exact hx⟩, ⟨⟨y, ?_⟩, hit'.1.at fun o q => (sb.2 it (Ne.symm hne)).trans q, hne⟩, fun b hb => ?_⟩
    · have e1 : ((i + 1 : Nat) : Int) = (i : Int) + 1 := by omega
      rw [e1]; exact he'
    · have hb' : b < s.heap.objs.size := by
        have e' : b = e ∨ b = it := by simpa using hb
        rcases e' with z | z
        · rw [z]; exact hel
        · rw [z]; exact hil
      rw [upd_ne (Nat.ne_of_lt hb')]
      exact (hf b hb).1
  done := by
    intro X hP hw hK hc i pins s σ H E I hf st hg
    subst hP hw hK
    obtain ⟨⟨old, he⟩, hit, hne⟩ := st
    obtain ⟨xs, hq, hx⟩ := hg
    obtain ⟨its, rv, p, hz⟩ := I.tuple hq
    obtain ⟨f0, f1, f2, f3, f4, f5⟩ := hf it (by simp)
    have hl := rv.length
    have pt : s.heap.IsTuple a its.toArray := p
    have hT : s.TypeIs (.ref e) "enumerate" := ⟨_, he, rfl⟩
    unfold pyNext
    refine wpAny_bind (wpAny_attempt (wpAny_callSpecial?_slot (name := Str.ofString "__next__") hT F.slot_enumerate_next
      (wpAny_call_entry F.slot_enumerate_next hT F.entry_enumerate_next ?_ (F.args_enumerate_next_1 _))))
    show wpAny _ _ (field (.ref e) 2 >>= _) _ _ _
    refine wpAny_bind (wpAny_field he rfl (x := .ref it) rfl ?_)
    refine wpAny_bind (wpAny_nextOf_tuple_end (A := X.A.in1) (I.ok.hd hc) hit pt (by simp; omega) fun h' x eb hx' => ?_)
    obtain ⟨o, ho, hc'⟩ := hx'
    refine wpAny_bind (wpAny_isInstance (T := "StopIteration") (b := true) ⟨o, ho, hc'⟩ isSubtype_stop ?_)
    exact wpAny_pure ⟨rfl, I.turned (t' := s.toks) (fun b o hb q => eb b o hb q) f0 f1 f3 f4 f5⟩
  self := fun A i s Q E st h => let ⟨⟨_, he⟩, _⟩ := st; wpAny_pyIter_enum he h
def iEnT (K : PySem.W.Frag) (ta : TA) : TI := fun σ H R => ta σ H fun vs H1 => ∃ a xs, vs = [.ref a] ∧ SqT K H1 a xs ∧ R (Iet K a) H1
theorem pi_enT {X : Cx} {e : Expr} {ta : TA} {p pos tpos : Pos} {elts : List Expr} {kk : Nat} (hg : Gl X "enumerate") (hm : X.mg "enumerate" = none) (ha : PA X [e] ta) (hs : starEach [e] X.env = [(false, eval e X.env)] := by rfl) :
    PI X (.Tuple elts kk tpos) (.Call (.Name "enumerate" p) [e] [] pos) (iEnT X.K ta) := by
  refine ⟨fun pins s σ H R I h => ?_⟩
  refine Call_ (ld_blt I hg hm boot_enumerate (PyProof.Rows.callWith_type1 (thn (ha.run pos pins s σ H _ I h) fun us s1 ⟨vs, H1, I1, r1, q1⟩ => ?_) hs rfl))
  obtain ⟨a, xs, ex, hq, q⟩ := q1
  subst ex
  cases r1 with
  | cons r rr =>
    cases rr
    cases r
    obtain ⟨its, rv, p', hz⟩ := I1.tuple hq
    have pt : s1.heap.IsTuple a its.toArray := p'
    have hal : a < s1.heap.objs.size := by obtain ⟨_, e, _⟩ := pt; exact Heap.lt_size e
    refine call_enumB (begins_tuple a its.toArray) pt fun h' he hit hsz hk => wpAny_pyIter_enum he ?_
    have I2 : Inv X pins σ H1 { s1 with heap := h' } := I1.kept (t' := s1.toks) hk
    refine ⟨s1.heap.objs.size + 1, [s1.heap.objs.size + 1, s1.heap.objs.size], _, _, H1, rfl, I2, turn_enumT a (s1.heap.objs.size + 1) s1.heap.objs.size (Nat.ne_of_gt (Nat.lt_succ_of_lt hal)) (Nat.ne_of_lt hal), ⟨⟨.none, he⟩, ⟨_, hit, rfl, rfl⟩, Nat.succ_ne_self _⟩, fun b hb => ?_, q⟩
    have e' : b = s1.heap.objs.size + 1 ∨ b = s1.heap.objs.size := by simpa using hb
    have hle : s1.heap.objs.size ≤ b := by
      rcases e' with z | z
      · rw [z]; exact Nat.le_add_right _ _
      · rw [z]; exact Nat.le_refl _
    exact I1.fpOk hle (I1.hok.fresh hle)
end DL
set_option maxRecDepth 100000
set_option maxHeartbeats 2000000
namespace DL
open PySem PySem.Spec PyProof.Rows L2
variable {c : Cf} {X : Cx} {p : Option Addr} {G : Gm} {pos : Pos} {a b e : Expr} {da db : DE}
/-! ### what is walked -/
structure DI where
  n : Nat
  f : Sls → (List D → Prop) → Prop
instance : CoeFun DI fun _ => Sls → (List D → Prop) → Prop := ⟨DI.f⟩
/-- J yields the data ds, in any heap behind H1 -/
def JOk (c : Cf) (J : It) (ds : List D) (H1 : Hp) : Prop := ∀ H, Le H1 H → (∀ i, i < ds.length → J.go i H ∧ ∀ x H', J.yld i H x H' → Step c 0 H H' ∧ ∃ d, ds[i]? = some d ∧ Rp c H' d x) ∧ J.stop ds.length H
def upI (c : Cf) (G : Gm) (d : DI) : TI := fun σ H R => ∃ ss ow P, RepS c d.n G H σ ss ow ∧ d ss P ∧ ∀ ds J H', Step c d.n H H' → P ds → JOk c J ds H' → R J H'
theorem piOf {tg it : Expr} {t t' : TI} (h : PI X tg it t') (w : ∀ σ H R, t σ H R → t' σ H R) : PI X tg it t := ⟨fun pins s σ H R I q => h.run pins s σ H R I (w σ H R q)⟩
variable {tg : Expr}
theorem getV {H : Hp} {ds : List D} {vs : List V} (r : Rps c H ds vs) {i : Nat} (h : i < ds.length) : ∃ v, vs[i]? = some v ∧ ∃ d, ds[i]? = some d ∧ Rp c H d v := by
  obtain ⟨v, e1, e2⟩ := r.get (i := i) (d := ds[i]) (by simp [h])
  exact ⟨v, e1, _, by simp [h], e2⟩
def dItT (a : DE) : DI := ⟨a.n, fun ss Q => a ss fun x => match x with
  | .tup ds => Q ds
  | _ => False⟩
theorem id_tup (ha : PE X a (up ⟨X.K, p⟩ G da)) : PI X tg a (upI ⟨X.K, p⟩ G (dItT da)) := piOf (pi_tup ha) fun σ H R ⟨ss, ow, P, S, h, k⟩ => ⟨ss, ow, _, S, h, fun x v H1 s1 r1 p1 => by
  cases x with
  | tup ds =>
    unfold Rp at r1
    obtain ⟨a, xs, rfl, h1, h2⟩ := r1
    refine ⟨a, rfl, ⟨xs, h1⟩, k ds _ H1 s1 p1 fun H le => ⟨fun i hi => ?_, xs, sqt_le le h1, by rw [h2.length]; exact Nat.le_refl _⟩⟩
    obtain ⟨v, e1, d, e2, e3⟩ := getV h2 hi
    refine ⟨⟨xs, v, sqt_le le h1, e1⟩, fun x H' ⟨e, y⟩ => ?_⟩
    subst e
    have e4 := y xs (sqt_le le h1)
    rw [e1] at e4
    cases e4
    exact ⟨Step.refl _ _ _, d, e2, e3.le le _ _⟩
  | _ => exact p1.elim⟩
def dItL (a : DE) : DI := ⟨a.n, fun ss Q => a ss fun x => match x with
  | .lst ds => Q ds
  | _ => False⟩
theorem id_lst (ha : PE X a (up ⟨X.K, p⟩ G da)) : PI X tg a (upI ⟨X.K, p⟩ G (dItL da)) := piOf (pi_list ha) fun σ H R ⟨ss, ow, P, S, h, k⟩ => ⟨ss, ow, _, S, h, fun x v H1 s1 r1 p1 => by
  cases x with
  | lst ds =>
    unfold Rp at r1
    obtain ⟨a, xs, rfl, h1, h2⟩ := r1
    refine ⟨a, rfl, ⟨xs, h1.l⟩, k ds _ H1 s1 p1 fun H le => ⟨fun i hi => ?_, xs, (h1.le le).l, by rw [h2.length]; exact Nat.le_refl _⟩⟩
    obtain ⟨v, e1, d, e2, e3⟩ := getV h2 hi
    refine ⟨⟨xs, v, (h1.le le).l, e1⟩, fun x H' ⟨e, y⟩ => ?_⟩
    subst e
    have e4 := y xs (h1.le le).l
    rw [e1] at e4
    cases e4
    exact ⟨Step.refl _ _ _, d, e2, e3.le le _ _⟩
  | _ => exact p1.elim⟩
/-- the signs of a text -/
def D.signs (z : Str) : List D := z.cps.toList.map fun n => .str ⟨#[n]⟩
def dItS (a : DE) : DI := ⟨a.n, fun ss Q => a ss fun x => match x with
  | .str z => Q (D.signs z)
  | _ => False⟩
theorem id_str (ha : PE X a (up ⟨X.K, p⟩ G da)) : PI X tg a (upI ⟨X.K, p⟩ G (dItS da)) := piOf (pi_str ha) fun σ H R ⟨ss, ow, P, S, h, k⟩ => ⟨ss, ow, _, S, h, fun x v H1 s1 r1 p1 => by
  cases x with
  | str z =>
    cases (show v = _ from r1)
    refine ⟨z, rfl, k _ _ H1 s1 p1 fun H le => ?_⟩
    have hl : (D.signs z).length = z.cps.size := by unfold D.signs; simp
    refine ⟨fun i hi => ⟨?_, fun x H' ⟨e, n, e1, e2⟩ => ?_⟩, ?_⟩
    · show i < z.cps.size
      rw [← hl]; exact hi
    · subst e e2
      refine ⟨Step.refl _ _ _, .str ⟨#[n]⟩, ?_, r_str⟩
      unfold D.signs
      rw [List.getElem?_map]
      have : z.cps.toList[i]? = some n := by rw [Array.getElem?_toList]; exact e1
      rw [this]
      rfl
    · show z.cps.size ≤ _
      rw [hl]; exact Nat.le_refl _
  | _ => exact p1.elim⟩
/-- lo, lo + 1, .. -/
def D.rng (lo : Int) (n : Nat) : List D := (List.range n).map fun i => .int (lo + (i : Nat))
theorem rng_len (lo : Int) (n : Nat) : (D.rng lo n).length = n := by unfold D.rng; simp
theorem jok_rng (lo : Int) (n : Nat) (H1 : Hp) : JOk c (Itr lo n) (D.rng lo n) H1 := fun H le => by
  refine ⟨fun i hi => ?_, ?_⟩
  · rw [rng_len] at hi
    refine ⟨hi, fun x H' ⟨e1, e2⟩ => ?_⟩
    subst e1 e2
    refine ⟨Step.refl _ _ _, .int (lo + (i : Nat)), ?_, r_int⟩
    unfold D.rng
    rw [List.getElem?_map, List.getElem?_range hi]
    rfl
  · show n ≤ _
    rw [rng_len]; exact Nat.le_refl _
def dRng1 (t : DA) : DI := ⟨t.n, fun ss Q => t ss fun xs => match xs with
  | [.int j] => (-(2 ^ 62) ≤ j ∧ j < 2 ^ 62) ∧ Q (D.rng 0 j.toNat)
  | _ => False⟩
def dRng2 (t : DA) : DI := ⟨t.n, fun ss Q => t ss fun xs => match xs with
  | [.int i, .int j] => (-(2 ^ 62) ≤ i ∧ i < 2 ^ 62 ∧ -(2 ^ 62) ≤ j ∧ j < 2 ^ 62) ∧ Q (D.rng i (j - i).toNat)
  | _ => False⟩
variable {q : Pos} {dt : DA}
theorem id_rng1 (hg : Gl X "range") (hm : X.mg "range" = none) (ha : PA X [a] (upA ⟨X.K, p⟩ G dt)) (hs : starEach [a] X.env = [(false, eval a X.env)] := by rfl) : PI X tg (.Call (.Name "range" q) [a] [] pos) (upI ⟨X.K, p⟩ G (dRng1 dt)) :=
  piOf (pi_range1 hg hm ha hs) fun σ H R ⟨ss, ow, P, S, h, k⟩ => ⟨ss, ow, _, S, h, fun xs vs H1 s1 r1 p1 => by
    split at p1
    · rename_i j
      obtain ⟨v, rfl, r2⟩ := rps1 r1
      cases (show v = _ from r2)
      exact ⟨j, rfl, p1.1.1, p1.1.2, k _ _ H1 s1 p1.2 (jok_rng _ _ _)⟩
    · exact p1.elim⟩
theorem id_rng2 (hg : Gl X "range") (hm : X.mg "range" = none) (ha : PA X [a, b] (upA ⟨X.K, p⟩ G dt)) (hs : starEach [a, b] X.env = [(false, eval a X.env), (false, eval b X.env)] := by rfl) (hs2 : starEach [b] X.env = [(false, eval b X.env)] := by rfl) : PI X tg (.Call (.Name "range" q) [a, b] [] pos) (upI ⟨X.K, p⟩ G (dRng2 dt)) :=
  piOf (pi_range2 hg hm ha hs hs2) fun σ H R ⟨ss, ow, P, S, h, k⟩ => ⟨ss, ow, _, S, h, fun xs vs H1 s1 r1 p1 => by
    split at p1
    · rename_i i j
      obtain ⟨v, w, rfl, r2, r3⟩ := rps2 r1
      cases (show v = _ from r2)
      cases (show w = _ from r3)
      exact ⟨i, j, rfl, p1.1, k _ _ H1 s1 p1.2 (jok_rng _ _ _)⟩
    · exact p1.elim⟩
/-- the items with their places -/
def D.enumFrom : Nat → List D → List D
  | _, [] => []
  | n, d :: ds => .tup [.int (n : Nat), d] :: D.enumFrom (n + 1) ds
theorem enum_len : ∀ (n : Nat) (ds : List D), (D.enumFrom n ds).length = ds.length
  | _, [] => rfl
  | n, d :: ds => by unfold D.enumFrom; rw [List.length_cons, List.length_cons, enum_len]
theorem enum_get : ∀ (n : Nat) (ds : List D) (i : Nat) (d : D), ds[i]? = some d → (D.enumFrom n ds)[i]? = some (.tup [.int ((n + i : Nat)), d])
  | _, [], i, d, h => by simp at h
  | n, x :: ds, 0, d, h => by
    simp at h; subst h; rfl
  | n, x :: ds, i + 1, d, h => by
    unfold D.enumFrom
    rw [List.getElem?_cons_succ]
    have := enum_get (n + 1) ds i d (by simpa using h)
    rw [this]
    have e : n + 1 + i = n + (i + 1) := by omega
    rw [e]
theorem step_pair {H : Hp} {T : Addr} {i : Nat} {d : D} {x : V} (hT : H T = none) (r : Rp c H d x) : Step c 0 H (upd H T (.tup [.int (i : Nat), x])) ∧ Rp c (upd H T (.tup [.int (i : Nat), x])) (.tup [.int (i : Nat), d]) (.ref T) :=
  ⟨Step.new hT, r_tup (SqT.of upd_same) (.cons r_int (.one (r.le (Le.new hT) _ _)))⟩
def dEnL (t : DA) : DI := ⟨t.n, fun ss Q => t ss fun xs => match xs with
  | [.lst ds] => Q (D.enumFrom 0 ds)
  | _ => False⟩
def dEnT (t : DA) : DI := ⟨t.n, fun ss Q => t ss fun xs => match xs with
  | [.tup ds] => Q (D.enumFrom 0 ds)
  | _ => False⟩
variable {elts : List Expr} {kk : Nat} {tpos : Pos}
theorem id_enL (hg : Gl X "enumerate") (hm : X.mg "enumerate" = none) (ha : PA X [a] (upA ⟨X.K, p⟩ G dt)) (hs : starEach [a] X.env = [(false, eval a X.env)] := by rfl) : PI X (.Tuple elts kk tpos) (.Call (.Name "enumerate" q) [a] [] pos) (upI ⟨X.K, p⟩ G (dEnL dt)) :=
  piOf (pi_enum hg hm ha hs) fun σ H R ⟨ss, ow, P, S, h, k⟩ => ⟨ss, ow, _, S, h, fun xs vs H1 s1 r1 p1 => by
    split at p1
    · rename_i ds
      obtain ⟨v, rfl, r2⟩ := rps1 r1
      unfold Rp at r2
      obtain ⟨a, ys, rfl, h1, h2⟩ := r2
      refine ⟨a, ys, rfl, h1.l, k _ _ H1 s1 p1 fun H le => ⟨fun i hi => ?_, ys, (h1.le le).l, by rw [h2.length, enum_len]; exact Nat.le_refl _⟩⟩
      rw [enum_len] at hi
      obtain ⟨v, e1, d, e2, e3⟩ := getV h2 hi
      refine ⟨⟨ys, v, (h1.le le).l, e1⟩, fun x H' ⟨T, w, ex, hT, eH, y⟩ => ?_⟩
      have e4 := y ys (h1.le le).l
      rw [e1] at e4
      cases e4
      subst ex eH
      have q := step_pair (i := i) hT (e3.le le _ _)
      refine ⟨q.1, _, enum_get 0 ds i d e2, ?_⟩
      rw [Nat.zero_add]
      exact q.2
    · exact p1.elim⟩
theorem id_enT (hg : Gl X "enumerate") (hm : X.mg "enumerate" = none) (ha : PA X [a] (upA ⟨X.K, p⟩ G dt)) (hs : starEach [a] X.env = [(false, eval a X.env)] := by rfl) : PI X (.Tuple elts kk tpos) (.Call (.Name "enumerate" q) [a] [] pos) (upI ⟨X.K, p⟩ G (dEnT dt)) :=
  piOf (pi_enT hg hm ha hs) fun σ H R ⟨ss, ow, P, S, h, k⟩ => ⟨ss, ow, _, S, h, fun xs vs H1 s1 r1 p1 => by
    split at p1
    · rename_i ds
      obtain ⟨v, rfl, r2⟩ := rps1 r1
      unfold Rp at r2
      obtain ⟨a, ys, rfl, h1, h2⟩ := r2
      refine ⟨a, ys, rfl, h1, k _ _ H1 s1 p1 fun H le => ⟨fun i hi => ?_, ys, sqt_le le h1, by rw [h2.length, enum_len]; exact Nat.le_refl _⟩⟩
      rw [enum_len] at hi
      obtain ⟨v, e1, d, e2, e3⟩ := getV h2 hi
      refine ⟨⟨ys, v, sqt_le le h1, e1⟩, fun x H' ⟨T, w, ex, hT, eH, y⟩ => ?_⟩
      have e4 := y ys (sqt_le le h1)
      rw [e1] at e4
      cases e4
      subst ex eH
      have q := step_pair (i := i) hT (e3.le le _ _)
      refine ⟨q.1, _, enum_get 0 ds i d e2, ?_⟩
      rw [Nat.zero_add]
      exact q.2
    · exact p1.elim⟩
/-! ### targets -/
abbrev DG := D → Sls → (Sls → Prop) → Prop
/-- g stores what dg says, into slots of vs -/
def GOk (c : Cf) (g : TG) (dg : DG) (vs : List Nat) : Prop := ∀ G n σ H ss ow d x (P : Sls → Prop) (Q : L2.St → Hp → Prop), RepS c n G H σ ss ow → Rp c H d x → dg d ss P →
  (∀ σ' ss', RepS c n G H σ' ss' ow → (∀ us : List Nat, (∀ i ∈ vs, i ∈ us) → wipe σ' us = wipe σ us) → P ss' → Q σ' H) → g x σ H Q
theorem wipe_set : ∀ (vs : List Nat) (σ : L2.St) (i : Nat) (o : Option V), i ∈ vs → wipe (σ.set i o) vs = wipe σ vs
  | [], _, _, _, h => by simp at h
  | v :: vs, σ, i, o, h => by
    unfold wipe
    by_cases e : i ∈ vs
    · rw [wipe_set vs σ i o e]
    · have e1 : i = v := by
        rcases List.mem_cons.mp h with h | h
        · exact h
        · exact absurd h e
      subst e1
      have : ∀ (us : List Nat), i ∉ us → wipe (σ.set i o) us = (wipe σ us).set i o := fun us => by
        induction us with
        | nil => intro _; rfl
        | cons u us ih =>
          intro hn
          have h1 : i ≠ u := fun z => hn (by simp [z])
          have h2 : i ∉ us := fun z => hn (by simp [z])
          unfold wipe
          rw [ih h2, List.set_comm _ _ h1]
      rw [this vs e, List.set_set]
theorem wipe_wipe (σ : L2.St) : ∀ (us vs : List Nat), (∀ i ∈ us, i ∈ vs) → wipe (wipe σ us) vs = wipe σ vs
  | [], _, _ => rfl
  | u :: us, vs, h => by
    show wipe ((wipe σ us).set u none) vs = _
    rw [wipe_set vs _ u none (h u (by simp)), wipe_wipe σ us vs fun i hi => h i (by simp [hi])]
def dgName (i : Nat) : DG := fun d ss Q => Q (ss.set i (.val d))
theorem g_name (i : Nat) : GOk c (gName i) (dgName i) [i] := fun G n σ H ss ow d x P Q R r h k => k _ _ (R.set i r) (fun us hu => wipe_set us σ i _ (hu i (by simp))) h
def dgNames : List Nat → List D → Sls → (Sls → Prop) → Prop
  | [], [], ss, Q => Q ss
  | i :: is, d :: ds, ss, Q => dgNames is ds (ss.set i (.val d)) Q
  | _, _, _, _ => False
def gNames : List Nat → TGs
  | [] => gNil
  | i :: is => gCons (gName i) (gNames is)
def dgTup (is : List Nat) : DG := fun d ss Q => match d with
  | .tup ds => dgNames is ds ss Q
  | _ => False
theorem g_names : ∀ (is : List Nat) (ds : List D) (G : Gm) (n : Nat) (σ : L2.St) (H : Hp) (ss : Sls) (ow : Nat → Addr) (xs : List V) (P : Sls → Prop) (Q : L2.St → Hp → Prop), RepS c n G H σ ss ow → Rps c H ds xs → dgNames is ds ss P →
    (∀ σ' ss', RepS c n G H σ' ss' ow → (∀ us : List Nat, (∀ i ∈ is, i ∈ us) → wipe σ' us = wipe σ us) → P ss' → Q σ' H) → ds.length = is.length ∧ gNames is xs σ H Q
  | [], [], G, n, σ, H, ss, ow, xs, P, Q, R, r, h, k => by
    unfold Rps at r
    exact ⟨rfl, r, k _ _ R (fun _ _ => rfl) h⟩
  | i :: is, d :: ds, G, n, σ, H, ss, ow, xs, P, Q, R, r, h, k => by
    unfold Rps at r
    obtain ⟨y, ys, rfl, r1, r2⟩ := r
    have := g_names is ds G n _ H _ ow ys P Q (R.set i r1) r2 h fun σ' ss' R' w p' => k σ' ss' R' (fun us hu => by
      rw [w us fun j hj => hu j (by simp [hj]), wipe_set us σ i _ (hu i (by simp))]) p'
    exact ⟨by rw [List.length_cons, List.length_cons, this.1], y, ys, rfl, this.2⟩
  | [], _ :: _, _, _, _, _, _, _, _, _, _, _, _, h, _ => h.elim
  | _ :: _, [], _, _, _, _, _, _, _, _, _, _, _, h, _ => h.elim
theorem g_tup (is : List Nat) (n : Nat) (hn : is.length = n) : GOk c (gTup c.K n (gNames is)) (dgTup is) is := fun G m σ H ss ow d x P Q R r h k => by
  unfold dgTup at h
  split at h
  · rename_i ds
    unfold Rp at r
    obtain ⟨a, xs, rfl, h1, h2⟩ := r
    have := g_names is ds G m σ H ss ow xs P Q R h2 h k
    exact ⟨a, xs, rfl, h1, by rw [h2.length, this.1, hn], this.2⟩
  · exact h.elim
/-! ### list comprehensions -/
def wipeS (ss : Sls) : List Nat → Sls
  | [] => ss
  | v :: vs => (wipeS ss vs).set v .no
theorem RepS.wipe {H : Hp} {σ : L2.St} {ss : Sls} {ow : Nat → Addr} {n : Nat} (R : RepS c n G H σ ss ow) : ∀ vs : List Nat, RepS c n G H (L2.wipe σ vs) (wipeS ss vs) ow
  | [] => R
  | v :: vs => (R.wipe vs).no v none
def lcD (g : DG) (tt : DT) (te : DE) (ss : Sls) : List D → List D → (List D → Prop) → Prop
  | [], acc, Q => Q acc
  | d :: ds, acc, Q => g d ss fun ss1 => tt ss1 fun b => if b = true then te ss1 fun y => lcD g tt te ss ds (acc ++ [y]) Q else lcD g tt te ss ds acc Q
def dLc (it : DI) (g : DG) (tt : DT) (te : DE) (vs : List Nat) : DA := ⟨it.n + 1000000 * (tt.n + te.n), fun ss Q => it ss fun ds => small ds.length ∧ lcD g tt te (wipeS ss vs) ds [] Q⟩
theorem up_lc {it : DI} {g : TG} {dg : DG} {tt : DT} {te : DE} {vs us : List Nat} (hg : GOk c g dg us) (hv : ∀ i ∈ us, i ∈ vs) : ∀ σ H Q, upL c G (dLc it dg tt te vs) σ H Q → tLc (upI c G it) g (upT c G tt) (up c G te) vs σ H Q := fun σ H Q ⟨ss, ow, P, R, h, k⟩ =>
  ⟨ss, ow, _, R.l, h, fun ds J H1 s1 ⟨hz, p1⟩ hJ D hD => by
    have R1 := R.step s1
    have hlen : ds.length ≤ 1000000 := hz
    -- the loop's word
    refine ⟨fun i m H' => m = ds.length - i ∧ i ≤ ds.length ∧ ∃ acc xs, Step c (i * (tt.n + te.n)) H1 H' ∧ H' D = some (.lst xs) ∧ Rps c H' acc xs ∧ acc.length ≤ i ∧ lcD dg tt te (wipeS ss vs) (ds.drop i) acc P,
      ⟨_, rfl, Nat.zero_le _, [], [], Step.new hD, upd_same, .nil, Nat.le_refl _, p1⟩, ?_⟩
    rintro i m H' ⟨rfl, hi, acc, xs, s2, hx, rx, hl, lc⟩
    have le2 : Le H1 H' := s2.le R1.pail
    obtain ⟨go, stop⟩ := hJ H' le2
    by_cases hlt : i < ds.length
    · obtain ⟨g1, y1⟩ := go i hlt
      refine .inr ⟨g1, fun H'' => ∃ m', m' < ds.length - i ∧ (m' = ds.length - (i + 1) ∧ i + 1 ≤ ds.length ∧ ∃ acc xs, Step c ((i + 1) * (tt.n + te.n)) H1 H'' ∧ H'' D = some (.lst xs) ∧ Rps c H'' acc xs ∧ acc.length ≤ i + 1 ∧ lcD dg tt te (wipeS ss vs) (ds.drop (i + 1)) acc P), fun H'' z => z, fun x H3 hy => ?_⟩
      obtain ⟨s3, d, hd, rd⟩ := y1 x H3 hy
      have e : ds.drop i = d :: ds.drop (i + 1) := by
        rw [List.drop_eq_getElem_cons hlt]
        congr
        rw [List.getElem?_eq_getElem hlt] at hd
        exact Option.some.inj hd
      rw [e] at lc
      have hk : 1000000 * (tt.n + te.n) = i * (tt.n + te.n) + ((tt.n + te.n) + (1000000 - i - 1) * (tt.n + te.n)) := by
        have : 1000000 = i + (1 + (1000000 - i - 1)) := by omega
        conv => lhs; rw [this]
        rw [Nat.add_mul, Nat.add_mul, Nat.one_mul]
      have R2 : RepS c ((tt.n + te.n) + (1000000 - i - 1) * (tt.n + te.n)) G H' σ ss ow := RepS.step (m := i * (tt.n + te.n)) (R1.wk (by rw [hk]; exact Nat.le_refl _)) s2
      have R3 := (R2.step0 s3).l.wipe vs
      have keepD : ∀ {n : Nat} {Ha Hb : Hp} {w : List V}, Step c n Ha Hb → Ha D = some (.lst w) → Hb D = some (.lst w) := fun s hw => s.1 D _ hw fun z => by
        obtain ⟨_, _, x, y, w, e, _⟩ := R1.pail D z
        rw [hD] at e; cases e
      have hx3 := keepD s3 hx
      refine hg G _ _ H3 _ ow d x _ _ R3 rd lc fun σ' ss' R4 hw p4 => ⟨by rw [hw vs hv, wipe_wipe σ vs vs fun _ z => z], ss', ow, _, R4.l, p4, fun b H4 s4 p5 => ?_⟩
      have R5 := R4.step s4
      have le34 := R4.le s4
      have s14 : Step c (i * (tt.n + te.n) + tt.n) H1 H4 := (s2.then0 s3).trans s4
      have hx4 := keepD s4 hx3
      have rx4 : Rps c H4 acc xs := (rx.le (s3.le (s2.pl R1.pail)) _ _).le le34 _ _
      cases b with
      | true =>
        refine ⟨ss', ow, _, R5, p5, fun y w H5 s5 r5 p6 => ?_⟩
        have hx5 := keepD s5 hx4
        have rx5 := rx4.le (R5.le s5) _ _
        have hll : xs.length < sizeLine := by
          rw [rx.length]
          exact Nat.lt_of_lt_of_le (Nat.lt_of_le_of_lt hl (Nat.lt_of_lt_of_le hlt hlen)) (by decide)
        refine ⟨xs, hx5, hll, ⟨_, by omega, rfl, hlt, acc ++ [y], xs ++ [w], ?_, upd_same, (rx5.append (.one r5)).le (Le.put hx5) _ _, by rw [List.length_append, List.length_singleton]; omega, p6⟩⟩
        have s15 := s14.trans s5
        exact (s15.wk (by rw [Nat.add_mul, Nat.one_mul]; omega)).mut hD
      | false =>
        exact ⟨_, by omega, rfl, hlt, acc, xs, s14.wk (by rw [Nat.add_mul, Nat.one_mul]; omega), hx4, rx4, by omega, p5⟩
    · have e : i = ds.length := by omega
      subst e
      rw [List.drop_length] at lc
      refine .inl ⟨stop, k acc D xs H' ?_ ?_ hx rx lc⟩
      · exact (s1.trans s2).wk (Nat.add_le_add_left (Nat.mul_le_mul_right _ hlen) _)
      · exact s1.free R.pail hD⟩
def dYes : DT := ⟨0, fun _ Q => Q true⟩
theorem tsd_nil {X : Cx} : PTs X [] (upT c G dYes) := ⟨fun pins s σ H Q I ⟨ss, ow, P, R, h, k⟩ => pts_nil.run pins s σ H Q I (k true H (Step.refl _ _ _) h)⟩
theorem tsd_one {X : Cx} {e : Expr} {tt : DT} (h : PT X e (upT c G tt)) : PTs X [e] (upT c G tt) := pts_one h
end DL
set_option maxRecDepth 100000
set_option maxHeartbeats 2000000
namespace DL
open PySem PySem.Spec PyProof.Rows L2
variable {c : Cf} {X : Cx} {p : Option Addr} {G : Gm} {pos : Pos} {a b e : Expr} {da db : DE} {st : Stmt} {sts : List Stmt} {s1 s2 : DS} {dl : DA}
/-! ### the ends -/
theorem Lnk.mono {r r' : Nat} {E : DEnds} {D' : Ends} (L : Lnk c G r E D') (h : r ≤ r') : Lnk c G r' E D' := ⟨fun σ H ss ow R => L.nx σ H ss ow (R.wk h), fun σ H ss ow x v R => L.rt σ H ss ow x v (R.wk h), fun σ H ss ow R => L.bk σ H ss ow (R.wk h), fun σ H ss ow R => L.ct σ H ss ow (R.wk h)⟩
theorem Lnk.back {r : Nat} {E : DEnds} {D' : Ends} {H1 : Hp} {σ : L2.St} {ss : Sls} {ow : Nat → Addr} {n : Nat} (L : Lnk c G r E D') (R : RepS c n G H1 σ ss ow) : Lnk c (G.re H1 ss ow) r E D' :=
  ⟨fun σ H ss ow R' => L.nx σ H ss ow (R.back R'), fun σ H ss ow x v R' => L.rt σ H ss ow x v (R.back R'), fun σ H ss ow R' => L.bk σ H ss ow (R.back R'), fun σ H ss ow R' => L.ct σ H ss ow (R.back R')⟩
theorem Lnk.of {r : Nat} {E : DEnds} {D' : Ends} {N : L2.St → Hp → Prop} {M : Sls → Prop} (L : Lnk c G r E D') (h : ∀ σ H ss ow, RepS c r G H σ ss ow → M ss → N σ H) : Lnk c G r { E with nx := M } { D' with nx := N } := ⟨h, L.rt, L.bk, L.ct⟩
/-! ### suites -/
def dNext : DS := ⟨0, fun E ss => E.nx ss⟩
def dSeq (t u : DS) : DS := ⟨t.n + u.n, fun E ss => t { E with nx := u E } ss⟩
theorem sd_nil : PSs X [] (upS ⟨X.K, p⟩ G dNext) := pssOf pss_nil fun D' σ H ⟨ss, ow, E, r, R, h, L⟩ => L.nx _ _ _ _ R.r h
theorem sd_one (h : PS X st (upS ⟨X.K, p⟩ G s1)) : PSs X [st] (upS ⟨X.K, p⟩ G s1) := pss_one h
theorem sd_cons (h1 : PS X st (upS ⟨X.K, p⟩ G s1)) (h2 : PSs X sts (upS ⟨X.K, p⟩ G s2)) : PSs X (st :: sts) (upS ⟨X.K, p⟩ G (dSeq s1 s2)) :=
  pssOf (pss_cons h1 h2) fun D' σ H ⟨ss, ow, E, r, R, h, L⟩ => ⟨ss, ow, _, s2.n + r, R.wk (by show s1.n + (s2.n + r) ≤ s1.n + s2.n + r; omega), h, (L.mono (Nat.le_add_left r s2.n)).of fun σ' H' ss' ow' R' h' => ⟨ss', ow', E, r, R', h', L⟩⟩
/-! ### simple statements -/
def dPass : DS := dNext
theorem sd_pass : PS X (.Pass pos) (upS ⟨X.K, p⟩ G dNext) := psOf ps_pass fun D' σ H ⟨ss, ow, E, r, R, h, L⟩ => L.nx _ _ _ _ R.r h
def dBreak : DS := ⟨0, fun E ss => E.bk ss⟩
def dCont : DS := ⟨0, fun E ss => E.ct ss⟩
theorem sd_break : PS X (.Break pos) (upS ⟨X.K, p⟩ G dBreak) := psOf ps_break fun D' σ H ⟨ss, ow, E, r, R, h, L⟩ => L.bk _ _ _ _ R.r h
theorem sd_continue : PS X (.Continue pos) (upS ⟨X.K, p⟩ G dCont) := psOf ps_continue fun D' σ H ⟨ss, ow, E, r, R, h, L⟩ => L.ct _ _ _ _ R.r h
def dNever : DS := ⟨0, fun _ _ => False⟩
theorem sd_never : PS X st (upS ⟨X.K, p⟩ G dNever) := psOf ps_never fun D' σ H ⟨ss, ow, E, r, R, h, L⟩ => h
theorem ssd_never : PSs X sts (upS ⟨X.K, p⟩ G dNever) := pssOf pss_never fun D' σ H ⟨ss, ow, E, r, R, h, L⟩ => h
theorem RepS.l3 {m n r : Nat} {H : Hp} {σ : L2.St} {ss : Sls} {ow : Nat → Addr} (R : RepS c (m + n + r) G H σ ss ow) : RepS c m G H σ ss ow := R.wk (by omega)
theorem RepS.st3 {m r : Nat} {H H' : Hp} {σ : L2.St} {ss : Sls} {ow : Nat → Addr} (R : RepS c (m + r) G H σ ss ow) (s : Step c m H H') : RepS c r G H' σ ss ow := R.step s
/-- return e -/
def dRet (a : DE) : DS := ⟨a.n, fun E ss => a ss fun d => E.rt d ss⟩
theorem sd_ret (ha : PE X a (up ⟨X.K, p⟩ G da)) : PS X (.Return (some a) pos) (upS ⟨X.K, p⟩ G (dRet da)) := psOf (ps_ret ha) fun D' σ H ⟨ss, ow, E, r, R, h, L⟩ => ⟨ss, ow, _, R.l, h, fun x v H1 s1 r1 p1 => L.rt _ _ _ _ x v (R.step s1) r1 p1⟩
def dRetN : DS := ⟨0, fun E ss => E.rt .non ss⟩
theorem sd_retN : PS X (.Return none pos) (upS ⟨X.K, p⟩ G dRetN) := psOf ps_retN fun D' σ H ⟨ss, ow, E, r, R, h, L⟩ => L.rt _ _ _ _ .non .non R.r rfl h
/-- e alone -/
def dExpr (a : DE) : DS := ⟨a.n, fun E ss => a ss fun _ => E.nx ss⟩
theorem sd_expr (ha : PE X a (up ⟨X.K, p⟩ G da)) (hs : swapsWith a none pos.line X.env = pure false := by rfl) : PS X (.Expr a pos) (upS ⟨X.K, p⟩ G (dExpr da)) := psOf (ps_expr ha hs) fun D' σ H ⟨ss, ow, E, r, R, h, L⟩ => ⟨ss, ow, _, R.l, h, fun x v H1 s1 r1 p1 => L.nx _ _ _ _ (R.step s1) p1⟩
/-- if -/
def dIfS (t : DT) (u w : DS) : DS := ⟨t.n + (u.n + w.n), fun E ss => t ss fun c => if c = true then u E ss else w E ss⟩
theorem sd_if {ec : Expr} {su sw : List Stmt} {t : DT} (hc : PT X ec (upT ⟨X.K, p⟩ G t)) (ha : PSs X su (upS ⟨X.K, p⟩ G s1)) (hb : PSs X sw (upS ⟨X.K, p⟩ G s2)) : PS X (.If ec su sw pos) (upS ⟨X.K, p⟩ G (dIfS t s1 s2)) :=
  psOf (ps_if hc ha hb) fun D' σ H ⟨ss, ow, E, r, R, h, L⟩ => ⟨ss, ow, _, R.wk (by show t.n ≤ t.n + (s1.n + s2.n) + r; omega), h, fun c H1 st1 p1 => by
    have R1 : RepS ⟨X.K, p⟩ (s1.n + s2.n + r) G H1 σ ss ow := RepS.step (m := t.n) (R.wk (by show t.n + (s1.n + s2.n + r) ≤ t.n + (s1.n + s2.n) + r; omega)) st1
    cases c with
    | true => exact ⟨ss, ow, E, r, R1.wk (by omega), p1, L⟩
    | false => exact ⟨ss, ow, E, r, R1.wk (by omega), p1, L⟩⟩
/-! ### stores -/
def dSet (i : Nat) (a : DE) : DS := ⟨a.n, fun E ss => a ss fun d => E.nx (ss.set i (.val d))⟩
def dSetO (i : Nat) (l : DA) : DS := ⟨l.n, fun E ss => l ss fun ds => E.nx (ss.set i (.own ds))⟩
theorem up_set {i : Nat} : ∀ (D' : Ends) σ H, upS c G (dSet i da) D' σ H → tAsg (up c G da) (gName i) D' σ H := fun D' σ H ⟨ss, ow, E, r, R, h, L⟩ => ⟨ss, ow, _, R.l, h, fun x v H1 s1 r1 p1 => L.nx _ _ _ _ ((R.step s1).set i r1) p1⟩
theorem up_setO {i : Nat} : ∀ (D' : Ends) σ H, upS c G (dSetO i dl) D' σ H → tAsg (upL c G dl) (gName i) D' σ H := fun D' σ H ⟨ss, ow, E, r, R, h, L⟩ => ⟨ss, ow, _, R.l, h, fun ds q xs H1 s1 hq h1 r1 p1 => L.nx _ _ _ _ (R.setO s1 hq h1 r1) p1⟩
section
variable {i : Nat} {x : Str} {q : Pos}
theorem sd_set (i : Nat) (hN : X.N.Nodup) (ha : PE X a (up ⟨X.K, p⟩ G da)) (hi : X.N[i]? = some x := by rfl) (hx : Loc X.env.scope x := by first | exact Or.inl rfl | exact Or.inr rfl) (hs : swapsWith a (some (.Name x q)) pos.line X.env = pure false := by rfl) (hf : X.fn x = true ∨ X.env.scope.names.lookup x = some .local := by first | exact .inl rfl | exact .inr rfl) :
    PS X (.Assign [.Name x q] a pos) (upS ⟨X.K, p⟩ G (dSet i da)) := psOf (ps_set hN hi hx ha hs hf) up_set
theorem sd_setO (i : Nat) (hN : X.N.Nodup) (ha : PE X a (upL ⟨X.K, p⟩ G dl)) (hi : X.N[i]? = some x := by rfl) (hx : Loc X.env.scope x := by first | exact Or.inl rfl | exact Or.inr rfl) (hs : swapsWith a (some (.Name x q)) pos.line X.env = pure false := by rfl) (hf : X.fn x = true ∨ X.env.scope.names.lookup x = some .local := by first | exact .inl rfl | exact .inr rfl) :
    PS X (.Assign [.Name x q] a pos) (upS ⟨X.K, p⟩ G (dSetO i dl)) := psOf (ps_set hN hi hx ha hs hf) up_setO
/-- [elt for target in iter if ..] -/
theorem pl_lc {elt tg iter : Expr} {ifs : List Expr} {scope : Scope} {own : List (Str × Nat)} {it : DI} {g : TG} {dg : DG} {tt : DT} {te : DE} {us : List Nat} (hc : X.calm = true) (hN : X.N.Nodup) (hi : PI X tg iter (upI ⟨X.K, p⟩ G it)) (ok : BlkOk X.N X.env.scope scope own) (hG : GOk ⟨X.K, p⟩ g dg us) (hv : ∀ i ∈ us, i ∈ own.map (·.2))
    (hg : ∀ (s : Shared) (H : Hp) (C : Addr) (cl : List (Str × Addr)) (fp : List Addr), PG (X.blk s H scope (compEnvC scope cl C X.env) fp) tg g) (ht : ∀ (s : Shared) (H : Hp) (C : Addr) (cl : List (Str × Addr)) (fp : List Addr), PTs (X.blk s H scope (compEnvC scope cl C X.env) fp) ifs (upT ⟨X.K, p⟩ G tt))
    (he : ∀ (s : Shared) (H : Hp) (C : Addr) (cl : List (Str × Addr)) (fp : List Addr), PE (X.blk s H scope (compEnvC scope cl C X.env) fp) elt (up ⟨X.K, p⟩ G te)) (hs : ∀ x, foldedSetIterable iter X.env x = pure x := by intro _; rfl) :
    PE X (.ListComp elt [⟨tg, iter, ifs, 0⟩] scope pos) (upL ⟨X.K, p⟩ G (dLc it dg tt te (own.map (·.2)))) := peOf (pe_lc hc hN hi ok hg ht he hs) (up_lc hG hv)
theorem sd_setLc (i : Nat) {elt tg iter : Expr} {ifs : List Expr} {scope : Scope} {own : List (Str × Nat)} {pos2 : Pos} {it : DI} {g : TG} {dg : DG} {tt : DT} {te : DE} {us : List Nat} (hc : X.calm = true) (hN : X.N.Nodup) (hy : X.N[i]? = some x) (hyl : X.env.scope.names.lookup x = some .local)
    (hsw : swapsWith (.ListComp elt [⟨tg, iter, ifs, 0⟩] scope pos) (some (.Name x q)) pos2.line X.env = pure true) (hi : PI X tg iter (upI ⟨X.K, p⟩ G it)) (ok : BlkOk X.N X.env.scope scope own) (hG : GOk ⟨X.K, p⟩ g dg us) (hv : ∀ i ∈ us, i ∈ own.map (·.2))
    (hg : ∀ (s : Shared) (H : Hp) (C : Addr) (cl : List (Str × Addr)) (fp : List Addr), PG (X.blk s H scope (compEnvC scope cl C X.env) fp) tg g) (ht : ∀ (s : Shared) (H : Hp) (C : Addr) (cl : List (Str × Addr)) (fp : List Addr), PTs (X.blk s H scope (compEnvC scope cl C X.env) fp) ifs (upT ⟨X.K, p⟩ G tt))
    (he : ∀ (s : Shared) (H : Hp) (C : Addr) (cl : List (Str × Addr)) (fp : List Addr), PE (X.blk s H scope (compEnvC scope cl C X.env) fp) elt (up ⟨X.K, p⟩ G te)) (hs : ∀ x, foldedSetIterable iter X.env x = pure x := by intro _; rfl) :
    PS X (.Assign [.Name x q] (.ListComp elt [⟨tg, iter, ifs, 0⟩] scope pos) pos2) (upS ⟨X.K, p⟩ G (dSetO i (dLc it dg tt te (own.map (·.2))))) :=
  psOf (ps_setLc hc hN hy hyl hsw hi ok hg ht he hs) fun D' σ H h => up_lc hG hv _ _ _ (up_setO D' σ H h)
/-- a, b = e -/
def dUnp (a : DE) (g : DG) : DS := ⟨a.n, fun E ss => a ss fun d => g d ss E.nx⟩
theorem sd_asg {tg : Expr} {g : TG} {dg : DG} {us : List Nat} (ha : PE X a (up ⟨X.K, p⟩ G da)) (hg : PG X tg g) (hG : GOk ⟨X.K, p⟩ g dg us) (hs : swapsWithSole [tg] a pos.line X.env = pure false := by rfl) (hw : swappedStores [tg] a X.env = pure none := by rfl) (h1 : (assignEach [tg] X.env).map (·.2) = [assign tg X.env] := by rfl) :
    PS X (.Assign [tg] a pos) (upS ⟨X.K, p⟩ G (dUnp da dg)) := psOf (ps_asg ha hg hs hw h1) fun D' σ H ⟨ss, ow, E, r, R, h, L⟩ => ⟨ss, ow, _, R.l, h, fun x v H1 s1 r1 p1 => hG G r σ H1 ss ow x v _ _ (R.step s1) r1 p1 fun σ' ss' R' _ p' => L.nx _ _ _ _ R' p'⟩
/-- x op= e, ints -/
def dAug (i : Nat) (f : Int → Int → Int) (a : DE) : DS := ⟨a.n, fun E ss => match ss[i]? with
  | some (Sl.val (.int u)) => a ss fun d => match d with
    | .int w => E.nx (ss.set i (.val (.int (f u w))))
    | _ => False
  | _ => False⟩
theorem up_aug {f : Int → Int → Int} : ∀ (D' : Ends) σ H, upS c G (dAug i f da) D' σ H → tAug i (up c G da) (ipI f) D' σ H := fun D' σ H ⟨ss, ow, E, r, R, h, L⟩ => by
  simp only [dAug] at h
  split at h
  · rename_i u hu
    obtain ⟨v, e1, e2⟩ := R.val i _ hu
    cases (show v = _ from e2)
    refine ⟨_, e1, ss, ow, _, R.l, h, fun x w H1 s1 r1 p1 => ?_⟩
    split at p1
    · cases (show w = _ from r1)
      exact ⟨u, _, rfl, rfl, L.nx _ _ _ _ ((R.step s1).set i r_int) p1⟩
    · exact p1.elim
  · exact h.elim
theorem sd_augAdd (i : Nat) (hN : X.N.Nodup) (ha : PE X a (up ⟨X.K, p⟩ G da)) (hi : X.N[i]? = some x := by rfl) (hx : Loc X.env.scope x := by first | exact Or.inl rfl | exact Or.inr rfl) (hf : X.fn x = true ∨ X.env.scope.names.lookup x = some .local := by first | exact .inl rfl | exact .inr rfl) :
    PS X (.AugAssign (.Name x q) .Add a pos) (upS ⟨X.K, p⟩ G (dAug i (fun u w => u + w) da)) := psOf (ps_aug hN hi hx ha ip_add hf) up_aug
theorem sd_augSub (i : Nat) (hN : X.N.Nodup) (ha : PE X a (up ⟨X.K, p⟩ G da)) (hi : X.N[i]? = some x := by rfl) (hx : Loc X.env.scope x := by first | exact Or.inl rfl | exact Or.inr rfl) (hf : X.fn x = true ∨ X.env.scope.names.lookup x = some .local := by first | exact .inl rfl | exact .inr rfl) :
    PS X (.AugAssign (.Name x q) .Sub a pos) (upS ⟨X.K, p⟩ G (dAug i (fun u w => u - w) da)) := psOf (ps_aug hN hi hx ha ip_sub hf) up_aug
end
/-! ### lists of the frame's own -/
/-- the slot's list is from now on as it is -/
def frzS (i : Nat) (ss : Sls) (Q : Sls → Prop) : Prop := match ss[i]? with
  | some (Sl.own ds) => Q (ss.set i (.val (.lst ds)))
  | _ => False
def dFz (i : Nat) (t : DS) : DS := ⟨t.n, fun E ss => frzS i ss fun ss' => t E ss'⟩
theorem frz_run {pins : List (Addr × Obj)} {s : Shared} {σ : L2.St} {H : Hp} {i n : Nat} {ss : Sls} {ow : Nat → Addr} {Q : Sls → Prop} (I : Inv X pins σ H s) (R : RepS ⟨X.K, p⟩ n G H σ ss ow) (h : frzS i ss Q) : ∃ H' ss', Inv X pins σ H' s ∧ RepS ⟨X.K, p⟩ n G H' σ ss' ow ∧ Q ss' := by
  unfold frzS at h
  split at h
  · rename_i ds hd
    obtain ⟨e1, xs, e2, e3⟩ := R.own i ds hd
    obtain ⟨o, I2⟩ := I.lock e2 True.intro
    exact ⟨_, _, I2, R.frz hd e2, h⟩
  · exact h.elim
theorem sd_fz (i : Nat) (h : PS X st (upS ⟨X.K, p⟩ G s1)) : PS X st (upS ⟨X.K, p⟩ G (dFz i s1)) := ⟨fun pins s σ H D' I ⟨ss, ow, E, r, R, q, L⟩ => by
  obtain ⟨H', ss', I2, R2, q2⟩ := frz_run I R q
  exact h.run pins s σ H' D' I2 ⟨ss', ow, E, r, R2, q2, L⟩⟩
theorem ssd_fz (i : Nat) (h : PSs X sts (upS ⟨X.K, p⟩ G s1)) : PSs X sts (upS ⟨X.K, p⟩ G (dFz i s1)) := ⟨fun pins s σ H D' I ⟨ss, ow, E, r, R, q, L⟩ => by
  obtain ⟨H', ss', I2, R2, q2⟩ := frz_run I R q
  exact h.run pins s σ H' D' I2 ⟨ss', ow, E, r, R2, q2, L⟩⟩
/-- x.append(e) -/
def dApp (i : Nat) (a : DE) : DS := ⟨a.n, fun E ss => match ss[i]? with
  | some (Sl.own ds) => a ss fun d => small ds.length ∧ E.nx (ss.set i (.own (ds ++ [d])))
  | _ => False⟩
section
variable {x : Str} {q apos cpos : Pos}
theorem sd_app (i : Nat) (ha : PE X a (up ⟨X.K, p⟩ G da)) (hi : X.N[i]? = some x := by rfl) (hv : Vis X.env.scope x := by first | exact Or.inl rfl | exact Or.inr (Or.inl rfl) | exact Or.inr (Or.inr rfl)) (hd : (x == ("__debug__" : Str)) = false := by decide) (hcd : (x == ("__classdict__" : Str)) = false := by decide)
    (hbase : attributeBase (.Name x q) "append" X.env (eval (.Name x q) X.env) = eval (.Name x q) X.env := by rfl)
    (hfew : ((backTo cpos (starEach [a] X.env)).all (fun x => !x.1) && (backToKw cpos (keywordEach [] X.env)).all (fun x => x.1.isSome)
      && decide (([a] : List Expr).length + ([] : List Keyword).length + (if ([] : List Keyword).isEmpty then 0 else 1) < 30)) = true := by rfl)
    (hline : (apos.endLine == cpos.line) = true := by rfl) (hs : starEach [a] X.env = (false, eval a X.env) :: starEach [] X.env := by rfl) (hplain : (backTo cpos (starEach [] X.env)).any (·.1) = false := by rfl) (hsw : swapsWith (.Call (.Attribute (.Name x q) "append" apos) [a] [] cpos) none pos.line X.env = pure false := by rfl) :
    PS X (.Expr (.Call (.Attribute (.Name x q) "append" apos) [a] [] cpos) pos) (upS ⟨X.K, p⟩ G (dApp i da)) :=
  psOf (ps_expr (pe_bm PySem.F.plainAttrs_list PySem.F.slot_list_append PySem.F.type_list_append mt_append (pe_var hi hv hd hcd) (pa_cons ha pa_nil hs) hbase hfew hline hs hplain) hsw) fun D' σ H ⟨ss, ow, E, r, R, h, L⟩ => by
    simp only [dApp] at h
    split at h
    · rename_i ds ho
      obtain ⟨e1, xs, e2, e3⟩ := R.own i ds ho
      refine ⟨_, e1, .inl ⟨rfl, xs, SqL.of e2⟩, ss, ow, _, R.l, h, fun d v H1 s1 r1 p1 => ?_⟩
      have R1 := R.step s1
      obtain ⟨e1', xs', e2', e3'⟩ := R1.own i ds ho
      exact ⟨ow i, xs', v, rfl, rfl, e2', by rw [e3'.length]; exact p1.1.lt, L.nx _ _ _ _ (R1.mutO ho (e3'.append (.one r1))) p1.2⟩
    · exact h.elim
/-- x.extend(a list) -/
def rExtR : V → List V → Hp → VK → Prop := fun x vs H Q => ∃ l b xs zs, x = .ref l ∧ vs = [.ref b] ∧ H l = some (.lst xs) ∧ Rd H b (.lst zs) ∧ xs.length + zs.length ≤ sizeLine ∧ Q .non (upd H l (.lst (xs ++ zs)))
theorem mt_extR : MtM X "list.extend" rExtR := by
  intro pins s σ H x vs v us Q I rx rv h
  obtain ⟨l, b, xs, zs, rfl, rfl, hH, hB, hz, q⟩ := h
  cases rx
  obtain ⟨u, rfl, ru⟩ := rv.one
  cases ru
  obtain ⟨z, its, n, r, hl, e⟩ := I.lstM hH
  obtain ⟨its2, n2, r2, e2⟩ := rd_lst hB I.hok
  have hl2 := r2.length
  have hsz : its.toArray.size + its2.toArray.size ≤ sizeLine := by rw [List.size_toArray, List.size_toArray]; omega
  have hlong : ¬ (!its.toArray.isEmpty && Builtin.List.listTooLong (its.toArray.size + its2.toArray.size)) = true := by
    rw [notLongL hsz, Bool.and_false]
    exact Bool.false_ne_true
  refine call_meets PySem.F.slot_list_extend ⟨_, e, rfl⟩ PySem.F.entry_list_extend (PySem.F.args_list_extend_2 _ _)
    (AutoSeq1.list_extend_list_list_0 l its.toArray n b its2.toArray n2 hlong (by simp only [List.size_toArray]; omega) (by simp only [List.size_toArray]; omega)) ⟨e, e2, ?_⟩
  refine ⟨.non, _, I.lset (its' := its ++ its2) hH e (by simp) (r.append r2) ?_, rfl, q⟩
  rw [List.length_append]
  omega
def dExt (i : Nat) (a : DE) : DS := ⟨a.n, fun E ss => match ss[i]? with
  | some (Sl.own ds) => a ss fun d => litems d fun es => small (ds.length + es.length) ∧ E.nx (ss.set i (.own (ds ++ es)))
  | _ => False⟩
theorem sd_ext (i : Nat) (ha : PE X a (up ⟨X.K, p⟩ G da)) (hi : X.N[i]? = some x := by rfl) (hv : Vis X.env.scope x := by first | exact Or.inl rfl | exact Or.inr (Or.inl rfl) | exact Or.inr (Or.inr rfl)) (hd : (x == ("__debug__" : Str)) = false := by decide) (hcd : (x == ("__classdict__" : Str)) = false := by decide)
    (hbase : attributeBase (.Name x q) "extend" X.env (eval (.Name x q) X.env) = eval (.Name x q) X.env := by rfl)
    (hfew : ((backTo cpos (starEach [a] X.env)).all (fun x => !x.1) && (backToKw cpos (keywordEach [] X.env)).all (fun x => x.1.isSome)
      && decide (([a] : List Expr).length + ([] : List Keyword).length + (if ([] : List Keyword).isEmpty then 0 else 1) < 30)) = true := by rfl)
    (hline : (apos.endLine == cpos.line) = true := by rfl) (hs : starEach [a] X.env = (false, eval a X.env) :: starEach [] X.env := by rfl) (hplain : (backTo cpos (starEach [] X.env)).any (·.1) = false := by rfl) (hsw : swapsWith (.Call (.Attribute (.Name x q) "extend" apos) [a] [] cpos) none pos.line X.env = pure false := by rfl) :
    PS X (.Expr (.Call (.Attribute (.Name x q) "extend" apos) [a] [] cpos) pos) (upS ⟨X.K, p⟩ G (dExt i da)) :=
  psOf (ps_expr (pe_bm PySem.F.plainAttrs_list PySem.F.slot_list_extend PySem.F.type_list_extend mt_extR (pe_var hi hv hd hcd) (pa_cons ha pa_nil hs) hbase hfew hline hs hplain) hsw) fun D' σ H ⟨ss, ow, E, r, R, h, L⟩ => by
    simp only [dExt] at h
    split at h
    · rename_i ds ho
      obtain ⟨e1, xs, e2, e3⟩ := R.own i ds ho
      refine ⟨_, e1, .inl ⟨rfl, xs, SqL.of e2⟩, ss, ow, _, R.l, h, fun d v H1 s1 r1 p1 => ?_⟩
      have R1 := R.step s1
      obtain ⟨e1', xs', e2', e3'⟩ := R1.own i ds ho
      obtain ⟨es, b, ys, rfl, h1, h2, h3, h4⟩ := r1.litems_of p1
      exact ⟨ow i, b, xs', ys, rfl, rfl, e2', h1.rd, by rw [e3'.length, h2.length]; exact h3.z, L.nx _ _ _ _ (R1.mutO ho (e3'.append h2)) h4⟩
    · exact h.elim
/-- x[i] = e -/
def dSetI (i : Nat) (a b : DE) : DS := ⟨a.n + b.n, fun E ss => a ss fun d => b ss fun k => match ss[i]?, k with
  | some (Sl.own ds), .int k => ∃ j, ixN ds.length k = some j ∧ E.nx (ss.set i (.own (ds.set j d)))
  | _, _ => False⟩
def dSetIg (i : Nat) (a b : DE) : DS := ⟨a.n + b.n, fun E ss => match ss[i]? with
  | some (Sl.own ds) => a ss fun d => b ss fun k => match k with
    | .int k => ∃ j, ixN ds.length k = some j ∧ E.nx (ss.set i (.own (ds.set j d)))
    | _ => False
  | _ => False⟩
theorem sd_setI {ei : Expr} {tpos : Pos} (i : Nat) (ha : PE X a (up ⟨X.K, p⟩ G da)) (hb : PE X ei (up ⟨X.K, p⟩ G db)) (hi : X.N[i]? = some x := by rfl) (hv : Vis X.env.scope x := by first | exact Or.inl rfl | exact Or.inr (Or.inl rfl) | exact Or.inr (Or.inr rfl)) (hd : (x == ("__debug__" : Str)) = false := by decide) (hcd : (x == ("__classdict__" : Str)) = false := by decide)
    (hset : ∀ v, assign (.Subscript (.Name x q) ei tpos) X.env v = (do
      let ov ← holding [v] (eval (.Name x q) X.env)
      let iv ← holding [v, ov] (eval ei X.env)
      standAt tpos
      holding [v, ov, iv] (setItem ov iv v)
      release [v, ov, iv] []) := by intro _; rfl)
    (hs : swapsWithSole [.Subscript (.Name x q) ei tpos] a pos.line X.env = pure false := by rfl) (hw : swappedStores [.Subscript (.Name x q) ei tpos] a X.env = pure none := by rfl) (h1 : (assignEach [.Subscript (.Name x q) ei tpos] X.env).map (·.2) = [assign (.Subscript (.Name x q) ei tpos) X.env] := by rfl) :
    PS X (.Assign [.Subscript (.Name x q) ei tpos] a pos) (upS ⟨X.K, p⟩ G (dSetIg i da db)) :=
  psOf (ps_asg ha (pg_sub (pe_var hi hv hd hcd) hb set_list hset) hs hw h1) fun D' σ H ⟨ss, ow, E, r, R, h, L⟩ => by
    simp only [dSetIg] at h
    split at h
    · rename_i ds ho
      refine ⟨ss, ow, _, R.l3, h, fun d v H1 s1 r1 p1 => ?_⟩
      have R1 : RepS ⟨X.K, p⟩ (db.n + r) G H1 σ ss ow := RepS.step (m := da.n) (R.wk (by show da.n + (db.n + r) ≤ da.n + db.n + r; omega)) s1
      obtain ⟨e1', xs', e2', e3'⟩ := R1.own i ds ho
      refine ⟨_, e1', ss, ow, _, R1.l, p1, fun k w H2 s2 r2 p2 => ?_⟩
      split at p2
      · rename_i k
        cases (show w = _ from r2)
        obtain ⟨j, hj, p3⟩ := p2
        have R2 := R1.step s2
        obtain ⟨e1'', xs'', e2'', e3''⟩ := R2.own i ds ho
        exact ⟨ow i, xs'', k, j, rfl, rfl, e2'', by rw [e3''.length]; exact hj, L.nx _ _ _ _ (R2.mutO ho (e3''.set j (r1.le (R1.le s2) _ _))) p3⟩
      · exact p2.elim
    · exact h.elim
end
/-- an expression over a list of the frame's own, its answer no list -/
def D.noL : D → Bool
  | .non => true
  | .bl _ => true
  | .int _ => true
  | .str _ => true
  | _ => false
theorem noL_any {H H' : Hp} {d : D} {v : V} (h : d.noL = true) (r : Rp c H d v) : Rp c H' d v := by
  cases d <;> first | (cases h; done) | exact r
def dBor (i : Nat) (a : DE) : DE := ⟨a.n, fun ss Q => match ss[i]? with
  | some (Sl.own ds) => a (ss.set i (.val (.lst ds))) fun d => d.noL = true ∧ Q d
  | _ => False⟩
def dBorT (i : Nat) (t : DT) : DT := ⟨t.n, fun ss Q => match ss[i]? with
  | some (Sl.own ds) => t (ss.set i (.val (.lst ds))) Q
  | _ => False⟩
theorem step_unlock {n : Nat} {H H' : Hp} {q : Addr} {o : Obj} {xs : List V} (hq : H q = some (.lst xs)) (hp : c.pl ≠ some q) (s : Step c n (upd H q (.frz o (.lst xs))) H') : Step c n H (upd H' q (.lst xs)) := ⟨fun b u e h => by
  by_cases z : b = q
  · rw [z] at e ⊢
    rw [hq] at e
    rw [← Option.some.inj e]
    exact upd_same
  · rw [upd_ne z]
    exact s.1 b u (by rw [upd_ne z]; exact e) h, fun p z e ⟨z0, x, y, w, h1, h2⟩ => by
  have hn : p ≠ q := fun k => hp (by rw [← k]; exact e)
  obtain ⟨z', l, z0', x', y', w', h1', h2'⟩ := s.2 p z e ⟨z0, x, y, w, by rw [upd_ne hn]; exact h1, h2⟩
  exact ⟨z', l, z0', x', y', w', by rw [upd_ne hn]; exact h1', h2'⟩⟩
theorem pd_bor (i : Nat) (ha : PE X a (up ⟨X.K, p⟩ G da)) : PE X a (up ⟨X.K, p⟩ G (dBor i da)) := peOf (pe_lock ha) fun σ H Q ⟨ss, ow, P, R, h, k⟩ => by
  simp only [dBor] at h
  split at h
  · rename_i ds ho
    obtain ⟨e1, xs, e2, e3⟩ := R.own i ds ho
    have hn := (R.fr i ds ho).2
    refine ⟨ow i, _, e2, True.intro, fun od => ⟨_, ow, _, R.frz ho e2, h, fun x v H' s1 r1 ⟨p0, p1⟩ => ⟨?_, k x v _ (step_unlock e2 hn s1) (noL_any p0 r1) p1⟩⟩⟩
    exact s1.1 _ _ upd_same hn
  · exact h.elim
theorem pt_lock {e : Expr} {t : TT} (h : PT X e t) : PT X e (fun σ H Q => ∃ d u, H d = some u ∧ Mut (some u) ∧ ∀ od, t σ (upd H d (.frz od u)) fun b H' => H' d = some (.frz od u) ∧ Q b (upd H' d u)) := by
  refine ⟨fun pins s σ H Q I hw => ?_⟩
  obtain ⟨d, u, hd, mu, hw⟩ := hw
  obtain ⟨od, I1⟩ := I.lock hd mu
  refine thn (h.run pins s σ _ _ I1 (hw od)) fun b s1 ⟨H1, I2, e2, q⟩ => ?_
  exact ⟨_, I2.unlock e2 (I.nofrz hd mu), q⟩
theorem td_bor (i : Nat) {t : DT} (ha : PT X a (upT ⟨X.K, p⟩ G t)) : PT X a (upT ⟨X.K, p⟩ G (dBorT i t)) := ptOf (pt_lock ha) fun σ H Q ⟨ss, ow, P, R, h, k⟩ => by
  simp only [dBorT] at h
  split at h
  · rename_i ds ho
    obtain ⟨e1, xs, e2, e3⟩ := R.own i ds ho
    have hn := (R.fr i ds ho).2
    refine ⟨ow i, _, e2, True.intro, fun od => ⟨_, ow, _, R.frz ho e2, h, fun b H' s1 p1 => ⟨?_, k b _ (step_unlock e2 hn s1) p1⟩⟩⟩
    exact s1.1 _ _ upd_same hn
  · exact h.elim
/-! ### two names at once -/
def dPar (i j : Nat) (t : DA) : DS := ⟨t.n, fun E ss => t ss fun xs => match xs with
  | [x, y] => E.nx ((ss.set i (.val x)).set j (.val y))
  | _ => False⟩
theorem sd_par (i j : Nat) {x y : Str} {a b : Expr} {dt : DA} {px py pt : Pos} {kt k2 pt2} (hc : X.calm = true) (hN : X.N.Nodup) (hij : i ≠ j) (ha : PA X [a, b] (upA ⟨X.K, p⟩ G dt)) (hi : X.N[i]? = some x := by rfl) (hj : X.N[j]? = some y := by rfl)
    (hx : X.env.scope.names.lookup x = some .local := by rfl) (hy : X.env.scope.names.lookup y = some .local := by rfl)
    (hw : swappedStores [.Tuple [.Name x px, .Name y py] kt pt] (.Tuple [a, b] k2 pt2) X.env = pure (some [x, y]) := by rfl)
    (hs : swapsWithSole [.Tuple [.Name x px, .Name y py] kt pt] (.Tuple [a, b] k2 pt2) pos.line X.env = pure false := by rfl) :
    PS X (.Assign [.Tuple [.Name x px, .Name y py] kt pt] (.Tuple [a, b] k2 pt2) pos) (upS ⟨X.K, p⟩ G (dPar i j dt)) :=
  psOf (ps_par hc hN hi hj hij hx hy ha hw hs) fun D' σ H ⟨ss, ow, E, r, R, h, L⟩ => ⟨ss, ow, _, R.l, h, fun xs vs H1 s1 r1 p1 => by
    split at p1
    · obtain ⟨v, w, rfl, r2, r3⟩ := rps2 r1
      exact ⟨v, w, rfl, L.nx _ _ _ _ (((R.step s1).set i r2).set j r3) p1⟩
    · exact p1.elim⟩
/-! ### loops -/
def forD (g : DG) (body : DS) : List D → DEnds → Sls → Prop
  | [], E, ss => E.nx ss
  | d :: ds, E, ss => g d ss fun ss1 => body ⟨fun ss' => forD g body ds E ss', E.rt, E.nx, fun ss' => forD g body ds E ss'⟩ ss1
def dFor (it : DI) (g : DG) (body : DS) : DS := ⟨it.n + 1000000 * body.n, fun E ss => it ss fun ds => small ds.length ∧ forD g body ds E ss⟩
theorem pss_any {t : DS} (h : ∀ G, PSs X sts (upS ⟨X.K, p⟩ G t)) : PSs X sts (fun D' σ H => ∃ G, upS ⟨X.K, p⟩ G t D' σ H) := ⟨fun pins s σ H D' I ⟨G, q⟩ => (h G).run pins s σ H D' I q⟩
theorem sd_for {tg iter : Expr} {body : List Stmt} {it : DI} {g : TG} {dg : DG} {us : List Nat} (hp : PassesOwn (model X.prog X.w) X.A X.env X.xe) (hc : X.calm = true) (hi : PI X tg iter (upI ⟨X.K, p⟩ G it)) (hg : PG X tg g) (hG : GOk ⟨X.K, p⟩ g dg us) (hb : ∀ G, PSs X body (upS ⟨X.K, p⟩ G s1))
    (hs : ∀ x, foldedSetIterable iter X.env x = pure x := by intro _; rfl) : PS X (.For tg iter body [] pos) (upS ⟨X.K, p⟩ G (dFor it dg s1)) := psOf (ps_for hp hc hi hg (pss_any hb) hs) fun D' σ H ⟨ss, ow, E, r, R, h, L⟩ =>
  ⟨ss, ow, _, R.wk (by show it.n ≤ it.n + 1000000 * s1.n + r; omega), h, fun ds J H1 st1 ⟨hz, p1⟩ hJ => by
    have hlen : ds.length ≤ 1000000 := hz
    have R1 : RepS ⟨X.K, p⟩ (1000000 * s1.n + r) G H1 σ ss ow := RepS.step (m := it.n) (R.wk (by show it.n + (1000000 * s1.n + r) ≤ it.n + 1000000 * s1.n + r; omega)) st1
    have L' := L.back R1
    have hmul : ∀ i, i < 1000000 → (1000000 - i) * s1.n = s1.n + (1000000 - (i + 1)) * s1.n := fun i hi => by
      have : 1000000 - i = 1 + (1000000 - (i + 1)) := by omega
      rw [this, Nat.add_mul, Nat.one_mul]
    refine ⟨fun i m σ' H' => m = ds.length - i ∧ i ≤ ds.length ∧ ∃ ss' ow', RepS ⟨X.K, p⟩ ((1000000 - i) * s1.n + r) (G.re H1 ss ow) H' σ' ss' ow' ∧ forD dg s1 (ds.drop i) E ss',
      ⟨_, rfl, Nat.zero_le _, ss, ow, R1.re, p1⟩, ?_⟩
    rintro i m σ' H' ⟨rfl, hi, ss', ow', R', f'⟩
    obtain ⟨go, stop⟩ := hJ H' R'.nl
    by_cases hlt : i < ds.length
    · obtain ⟨g1, y1⟩ := go i hlt
      have e : ∃ d, ds[i]? = some d ∧ ds.drop i = d :: ds.drop (i + 1) := ⟨ds[i], by rw [List.getElem?_eq_getElem hlt], by rw [List.drop_eq_getElem_cons hlt]⟩
      obtain ⟨d0, hd0, e⟩ := e
      rw [e] at f'
      have Nx : ∀ σ2 H2 ss2 ow2, RepS ⟨X.K, p⟩ ((1000000 - (i + 1)) * s1.n + r) (G.re H1 ss ow) H2 σ2 ss2 ow2 → forD dg s1 (ds.drop (i + 1)) E ss2 →
          ∃ m', m' < ds.length - i ∧ (m' = ds.length - (i + 1) ∧ i + 1 ≤ ds.length ∧ ∃ ss' ow', RepS ⟨X.K, p⟩ ((1000000 - (i + 1)) * s1.n + r) (G.re H1 ss ow) H2 σ2 ss' ow' ∧ forD dg s1 (ds.drop (i + 1)) E ss') :=
        fun σ2 H2 ss2 ow2 R2 f2 => ⟨_, by omega, rfl, hlt, ss2, ow2, R2, f2⟩
      refine .inr ⟨g1, fun σ2 H2 => ∃ m', m' < ds.length - i ∧ (m' = ds.length - (i + 1) ∧ i + 1 ≤ ds.length ∧ ∃ ss' ow', RepS ⟨X.K, p⟩ ((1000000 - (i + 1)) * s1.n + r) (G.re H1 ss ow) H2 σ2 ss' ow' ∧ forD dg s1 (ds.drop (i + 1)) E ss'), fun _ _ z => z, fun x H3 hy => ?_⟩
      obtain ⟨s3, d, hd, rd⟩ := y1 x H3 hy
      rw [hd0] at hd
      cases hd
      have R3 := R'.step0 s3
      rw [hmul i (by omega), Nat.add_assoc] at R3
      refine hG (G.re H1 ss ow) _ σ' H3 ss' ow' d0 x _ _ R3 rd f' fun σ4 ss4 R4 _ p4 => ?_
      refine ⟨G.re H1 ss ow, ss4, ow', _, (1000000 - (i + 1)) * s1.n + r, R4, p4, ⟨fun σ2 H2 ss2 ow2 R2 f2 => Nx σ2 H2 ss2 ow2 R2 f2, fun σ2 H2 ss2 ow2 x v R2 => L'.rt σ2 H2 ss2 ow2 x v R2.r, fun σ2 H2 ss2 ow2 R2 => L'.nx σ2 H2 ss2 ow2 R2.r, fun σ2 H2 ss2 ow2 R2 f2 => Nx σ2 H2 ss2 ow2 R2 f2⟩⟩
    · have e : i = ds.length := by omega
      subst e
      rw [List.drop_length] at f'
      exact .inl ⟨stop, L'.nx _ _ _ _ R'.r f'⟩⟩
/-- while, by a word of the slots and a measure: no draws in it -/
def dWhile (t : DT) (body : DS) : DS := ⟨0, fun E ss => t.n = 0 ∧ body.n = 0 ∧ ∃ (I : Sls → Prop) (μ : Sls → Nat), I ss ∧ ∀ ss, I ss → t ss fun b => if b = true then body ⟨fun ss' => I ss' ∧ μ ss' < μ ss, E.rt, E.nx, fun ss' => I ss' ∧ μ ss' < μ ss⟩ ss else E.nx ss⟩
theorem sd_while {ec : Expr} {body : List Stmt} {t : DT} (hp : PassesOwn (model X.prog X.w) X.A X.env X.xe) (hc : ∀ G, PT X ec (upT ⟨X.K, p⟩ G t)) (hb : ∀ G, PSs X body (upS ⟨X.K, p⟩ G s1)) : PS X (.While ec body [] pos) (upS ⟨X.K, p⟩ G (dWhile t s1)) :=
  psOf (ps_while hp (hc G) (hb G)) fun D' σ H ⟨ss, ow, E, r, R, ⟨e1, e2, I, μ, i0, h⟩, L⟩ => by
    refine ⟨fun m σ' H' => ∃ ss' ow', m = μ ss' ∧ RepS ⟨X.K, p⟩ r G H' σ' ss' ow' ∧ I ss', ⟨_, ss, ow, rfl, R.r, i0⟩, ?_⟩
    rintro m σ' H' ⟨ss', ow', rfl, R', i'⟩
    refine ⟨ss', ow', _, R'.wk (by rw [e1]; exact Nat.zero_le _), h ss' i', fun b H2 s2 p2 => ?_⟩
    rw [e1] at s2
    have R2 := R'.step0 s2
    cases b with
    | true =>
      refine ⟨fun σ3 H3 => ∃ m', m' < μ ss' ∧ ∃ ss3 ow3, m' = μ ss3 ∧ RepS ⟨X.K, p⟩ r G H3 σ3 ss3 ow3 ∧ I ss3, fun _ _ z => z, ss', ow', _, r, R2.wk (by rw [e2]; omega), p2, ?_⟩
      exact ⟨fun σ3 H3 ss3 ow3 R3 z => ⟨_, z.2, ss3, ow3, rfl, R3, z.1⟩, fun σ3 H3 ss3 ow3 x v R3 => L.rt σ3 H3 ss3 ow3 x v R3, fun σ3 H3 ss3 ow3 R3 => L.nx σ3 H3 ss3 ow3 R3, fun σ3 H3 ss3 ow3 R3 z => ⟨_, z.2, ss3, ow3, rfl, R3, z.1⟩⟩
    | false => exact L.nx _ _ _ _ R2 p2
end DL
set_option maxRecDepth 100000
set_option maxHeartbeats 2000000
namespace DL
open PySem PySem.Spec PyProof.Rows L2
/-! ### what a def does, over data -/
structure FS where
  n : Nat
  f : List D → (D → Prop) → Prop
def PlN (c : Cf) (n : Nat) (H : Hp) : Prop := ∀ p, c.pl = some p → ∃ z, Pail H p z ∧ z + n ≤ ZL
def spOf (K : PySem.W.Frag) (S : FS) : Sp := fun vs H Q _ => ∃ (p : Option Addr) (xs : List D) (P : D → Prop), PlN ⟨K, p⟩ S.n H ∧ Rps ⟨K, p⟩ H xs vs ∧ S.f xs P ∧ ∀ d v H', Step ⟨K, p⟩ S.n H H' → Rp ⟨K, p⟩ H' d v → P d → Q v H'
theorem RepS.pln {c : Cf} {n : Nat} {G : Gm} {H : Hp} {σ : L2.St} {ss : Sls} {ow : Nat → Addr} (R : RepS c n G H σ ss ow) : PlN c n H := fun p e => by
  obtain ⟨⟨z, h1, h2, h3⟩, _⟩ := R.pl p e
  exact ⟨z, h1, by omega⟩
def dCall (S : FS) (t : DA) : DE := ⟨t.n + S.n, fun ss Q => t ss fun xs => S.f xs Q⟩
section
variable {X : Cx} {p : Option Addr} {G : Gm} {pos q : Pos} {e : Expr} {es : List Expr} {dt : DA} {S : FS} {k j : Nat} {x : Str}
theorem up_call : ∀ σ H Q, up ⟨X.K, p⟩ G (dCall S dt) σ H Q → tCall (spOf X.K S) [] C8.E0 (upA ⟨X.K, p⟩ G dt) σ H Q := fun σ H Q ⟨ss, ow, P, R, h, kk⟩ =>
  ⟨ss, ow, _, R.l, h, fun xs vs H1 s1 r1 p1 => ⟨p, xs, P, (R.step s1).pln, by rw [List.append_nil]; exact r1, p1, fun d v H' s2 r2 p2 => kk d v H' (s1.trans s2) r2 p2⟩⟩
theorem pd_call (c : C8.Cal X.prog X.w X.K X.mg X.base k x (spOf X.K S) []) (hr : Room j X.A) (ha : PA X (e :: es) (upA ⟨X.K, p⟩ G dt)) (hk : k ≤ j := by decide) (hg : Gl X x := by rfl)
    (hdb : (x == ("__debug__" : Str)) = false := by decide) (he : starEach (e :: es) X.env = (false, eval e X.env) :: starEach es X.env := by rfl) (hpl : (backTo pos (starEach es X.env)).any (·.1) = false := by rfl) :
    PE X (.Call (.Name x q) (e :: es) [] pos) (up ⟨X.K, p⟩ G (dCall S dt)) := peOf (C8.pe_c c hr hk hg ha hdb he hpl) up_call
end
/-! ### a def keeps its promise -/
def startS (N : List Str) (xs : List D) : Sls := xs.map Sl.val ++ List.replicate (N.length - xs.length) Sl.no
def Gm.at (p : Option Addr) (H : Hp) (zt : Nat) : Gm := ⟨H, fun b => p = some b, zt⟩
/-- the slots at the beginning: data, raw values -/
def startA (N : List Str) (as : Sls) : Sls := as ++ List.replicate (N.length - as.length) Sl.no
inductive ArgR (c : Cf) (H : Hp) : Sls → List V → Prop where
  | nil : ArgR c H [] []
  | val {d : D} {v : V} {as : Sls} {vs : List V} (h : Rp c H d v) (t : ArgR c H as vs) : ArgR c H (.val d :: as) (v :: vs)
  | raw {v : V} {as : Sls} {vs : List V} (t : ArgR c H as vs) : ArgR c H (.raw v :: as) (v :: vs)
theorem ArgR.len {c : Cf} {H : Hp} : ∀ {as : Sls} {vs : List V}, ArgR c H as vs → vs.length = as.length
  | _, _, .nil => rfl
  | _, _, .val _ t => by rw [List.length_cons, List.length_cons, t.len]
  | _, _, .raw t => by rw [List.length_cons, List.length_cons, t.len]
theorem ArgR.get {c : Cf} {H : Hp} : ∀ {as : Sls} {vs : List V}, ArgR c H as vs → ∀ {i : Nat} {x : Sl}, as[i]? = some x → (∃ d v, x = .val d ∧ vs[i]? = some v ∧ Rp c H d v) ∨ ∃ v, x = .raw v ∧ vs[i]? = some v
  | _, _, .nil, i, x, e => by simp at e
  | _, _, .val h t, 0, x, e => by simp at e; exact .inl ⟨_, _, e.symm, rfl, h⟩
  | _, _, .val h t, i + 1, x, e => by simpa using t.get (i := i) (by simpa using e)
  | _, _, .raw t, 0, x, e => by simp at e; exact .inr ⟨_, e.symm, rfl⟩
  | _, _, .raw t, i + 1, x, e => by simpa using t.get (i := i) (by simpa using e)
theorem ArgR.of {c : Cf} {H : Hp} : ∀ {xs : List D} {vs : List V}, Rps c H xs vs → ArgR c H (xs.map Sl.val) vs
  | [], _, h => by unfold Rps at h; rw [h]; exact .nil
  | d :: ds, _, h => by
    unfold Rps at h
    obtain ⟨x, xs, rfl, h1, h2⟩ := h
    exact .val h1 (ArgR.of h2)
theorem reps_startA {c : Cf} {H : Hp} {n : Nat} {N : List Str} {as : Sls} {vs : List V} (hp : PlN c n H) (r : ArgR c H as vs) : ∃ zt, RepS c n (Gm.at c.pl H zt) H (L2.start N vs) (startA N as) (fun _ => 0) ∧ ∀ p z, c.pl = some p → Pail H p z → zt = z + n := by
  have hl := r.len
  have hz : ∃ zt, ∀ p, c.pl = some p → ∃ z, Pail H p z ∧ zt = z + n ∧ zt ≤ ZL := by
    cases e : c.pl with
    | none => exact ⟨0, fun p q => by cases q⟩
    | some p =>
      obtain ⟨z, h1, h2⟩ := hp p e
      exact ⟨z + n, fun p' q => by cases q; exact ⟨z, h1, rfl, h2⟩⟩
  obtain ⟨zt, hz⟩ := hz
  have look : ∀ (i : Nat) (x : Sl), (startA N as)[i]? = some x → x = .no ∨ ∃ v, (L2.start N vs)[i]? = some (some v) ∧ ((∃ d, x = .val d ∧ Rp c H d v) ∨ x = .raw v) := fun i x h => by
    unfold startA at h
    unfold L2.start
    rw [List.getElem?_append] at h
    split at h
    · rename_i hi
      rcases r.get h with ⟨d, v, e, e1, e2⟩ | ⟨v, e, e1⟩
      · exact .inr ⟨v, by rw [List.getElem?_append_left (by rw [List.length_map, hl]; exact hi), List.getElem?_map, e1]; rfl, .inl ⟨d, e, e2⟩⟩
      · exact .inr ⟨v, by rw [List.getElem?_append_left (by rw [List.length_map, hl]; exact hi), List.getElem?_map, e1]; rfl, .inr e⟩
    · rw [List.getElem?_replicate] at h
      split at h
      · exact .inl (Option.some.inj h).symm
      · cases h
  have noOwn : ∀ (i : Nat) ds, (startA N as)[i]? = some (Sl.own ds) → False := fun i ds h => by
    rcases look i _ h with e | ⟨v, _, ⟨d, e, _⟩ | e⟩ <;> cases e
  refine ⟨zt, ⟨?_, fun i d h => ?_, fun i ds h => (noOwn i ds h).elim, fun i j ds es h => (noOwn i ds h).elim, fun i ds h => (noOwn i ds h).elim, fun b o e _ => e, Le.refl H, fun _ e => e, fun p e => ?_, fun i v h => ?_⟩, fun p z e hP => ?_⟩
  · unfold L2.start startA
    simp [hl]
  · rcases look i _ h with e | ⟨v, e1, ⟨d', e, e2⟩ | e⟩
    · cases e
    · cases e
      exact ⟨v, e1, e2⟩
    · cases e
  · obtain ⟨z, h1, h2, h3⟩ := hz p e
    exact ⟨⟨z, h1, by show z + n ≤ zt; omega, h3⟩, e⟩
  · rcases look i _ h with e | ⟨v', e1, ⟨d', e, e2⟩ | e⟩
    · cases e
    · cases e
    · cases e
      exact e1
  · obtain ⟨z', ⟨e1, _⟩, h2, _⟩ := hz p e
    obtain ⟨e2, _⟩ := hP
    omega
theorem reps_start {c : Cf} {H : Hp} {n : Nat} {N : List Str} {xs : List D} {vs : List V} (hp : PlN c n H) (r : Rps c H xs vs) : ∃ zt, RepS c n (Gm.at c.pl H zt) H (L2.start N vs) (startS N xs) (fun _ => 0) ∧ ∀ p z, c.pl = some p → Pail H p z → zt = z + n := by
  have e : startS N xs = startA N (xs.map Sl.val) := by unfold startS startA; rw [List.length_map]
  rw [e]
  exact reps_startA hp (.of r)
theorem reps_end {c : Cf} {H H' : Hp} {n r zt : Nat} {σ : L2.St} {ss : Sls} {ow : Nat → Addr} (R : RepS c r (Gm.at c.pl H zt) H' σ ss ow) (hz : ∀ p z, c.pl = some p → Pail H p z → zt = z + n) : Step c n H H' := ⟨fun b o e h => R.keep b o e h, fun p z e hP => by
  obtain ⟨⟨z', h1, h2, h3⟩, _⟩ := R.pl p e
  have e1 := hz p z e hP
  have h2 : z' + r ≤ zt := h2
  exact ⟨z', by omega, h1⟩⟩
section
variable {P : Program} {w : World} {K : PySem.W.Frag} {mg : Str → Option Value} {base : Heap} {x qual : Str} {params : Arguments} {body : List Stmt} {scope : Scope} {dvs : List V} {kws : List (Str × V)} {f : Addr} {fd : FuncData} {N ps : List Str} {k : Nat}
theorem fn_ok {S : FS} {t : DS} (F : FunD K x qual params body scope dvs kws f fd) (sc : FnScope N ps scope) (hl : ∀ xs P, S.f xs P → xs.length = ps.length) (hn : t.n ≤ S.n)
    (hb : ∀ (cdv : Value) (A : Around) (outer : List Env) (s : Shared) (H : Hp) (E : XK) (p : Option Addr) (G : Gm), Room k (A.deeper (envOfC qual scope s.heap.objs.size f cdv)) → PSs (cxOf C8.CX0 P w K mg base N qual scope f cdv A outer s H E).nox body (upS ⟨K, p⟩ G t))
    (hd : ∀ xs P, S.f xs P → t.f ⟨fun _ => P .non, fun d _ => P d, fun _ => False, fun _ => False⟩ (startS N xs)) : FnOk P w K mg base C8.CX0 (k + 1) f fd ps (spOf K S) := by
  refine F.ok sc (fun vs H Q E ⟨p, xs, P0, _, r, h, _⟩ => by rw [r.length]; exact hl xs P0 h) fun cdv A outer s H vs Q E hr ⟨p, xs, P0, hp, r, h, kk⟩ => ?_
  obtain ⟨zt, R, hz⟩ := reps_start (N := N) hp r
  refine ⟨_, PSs.nox (hb cdv A outer s H E p (Gm.at p H zt) hr), startS N xs, fun _ => 0, _, 0, R.wk (by omega), hd xs P0 h, ?_⟩
  exact ⟨fun σ' H' ss ow R' p' => kk .non .non H' (reps_end R' hz) rfl p', fun σ' H' ss ow d v R' r' p' => kk d v H' (reps_end R' hz) r' p', fun _ _ _ _ _ z => z.elim, fun _ _ _ _ _ z => z.elim⟩
theorem cal_ok {S : FS} {t : DS} (F : FunD K x qual params body scope [] kws f fd) (hm : mg x = some (.ref f)) (sc : FnScope N ps scope)
    (hbind : ∀ (kV doc pm : Value) (an : Option Addr) (cdv ct : Value) (us : List Value), us.length = ps.length → bindArgs (PySem.W.fnOf x qual params body scope .none kV doc pm an cdv ct) ⟨us, []⟩ = pure (ps.zip us))
    (hl : ∀ xs P, S.f xs P → xs.length = ps.length) (hn : t.n ≤ S.n)
    (hb : ∀ (cdv : Value) (A : Around) (outer : List Env) (s : Shared) (H : Hp) (E : XK) (p : Option Addr) (G : Gm), Room k (A.deeper (envOfC qual scope s.heap.objs.size f cdv)) → PSs (cxOf C8.CX0 P w K mg base N qual scope f cdv A outer s H E).nox body (upS ⟨K, p⟩ G t))
    (hd : ∀ xs P, S.f xs P → t.f ⟨fun _ => P .non, fun d _ => P d, fun _ => False, fun _ => False⟩ (startS N xs)) : C8.Cal P w K mg base (k + 1) x (spOf K S) [] :=
  ⟨f, fd, ps, [], fn_ok F sc hl hn hb hd, hm, F.kp, F.bindsN hbind, .nil⟩
end
/-! ### comprehensions and loops, over data -/
def lcI (g : DG) (tt : DT) (te : DE) (ss : Sls) (d : D) (Kk : Option D → Prop) : Prop := g d ss fun ss1 => tt ss1 fun b => if b = true then te ss1 fun y => Kk (some y) else Kk none
theorem lc_filterMap {g : DG} {tt : DT} {te : DE} {ss : Sls} {Q : List D → Prop} (f : D → Option D) : ∀ (ds acc : List D), (∀ d ∈ ds, ∀ Kk : Option D → Prop, Kk (f d) → lcI g tt te ss d Kk) → Q (acc ++ ds.filterMap f) → lcD g tt te ss ds acc Q
  | [], acc, _, q => by
    unfold lcD
    simpa using q
  | d :: ds, acc, h, q => by
    refine h d (by simp) (fun o => match o with
      | some y => lcD g tt te ss ds (acc ++ [y]) Q
      | none => lcD g tt te ss ds acc Q) ?_
    cases e : f d with
    | none =>
      refine lc_filterMap f ds acc (fun d hd => h d (by simp [hd])) ?_
      simpa [List.filterMap_cons, e] using q
    | some y =>
      refine lc_filterMap f ds (acc ++ [y]) (fun d hd => h d (by simp [hd])) ?_
      simpa [List.filterMap_cons, e] using q
theorem lc_map {g : DG} {tt : DT} {te : DE} {ss : Sls} {Q : List D → Prop} (f : D → D) (ds : List D) (h : ∀ d ∈ ds, ∀ Kk : Option D → Prop, Kk (some (f d)) → lcI g tt te ss d Kk) (q : Q (ds.map f)) : lcD g tt te ss ds [] Q := by
  refine lc_filterMap (fun d => some (f d)) ds [] h ?_
  simpa using q
/-- each item's answer is known by a relation only -/
inductive Alls {α β : Type} (R : α → β → Prop) : List α → List β → Prop where
  | nil : Alls R [] []
  | cons {a : α} {b : β} {as : List α} {bs : List β} (h : R a b) (t : Alls R as bs) : Alls R (a :: as) (b :: bs)
theorem Alls.length {α β : Type} {R : α → β → Prop} : ∀ {as : List α} {bs : List β}, Alls R as bs → bs.length = as.length
  | _, _, .nil => rfl
  | _, _, .cons _ t => by rw [List.length_cons, List.length_cons, t.length]
theorem lc_rel {g : DG} {tt : DT} {te : DE} {ss : Sls} {Q : List D → Prop} (R : D → D → Prop) : ∀ (ds acc : List D), (∀ d ∈ ds, ∀ Kk : Option D → Prop, (∀ y, R d y → Kk (some y)) → lcI g tt te ss d Kk) → (∀ ys, Alls R ds ys → Q (acc ++ ys)) → lcD g tt te ss ds acc Q
  | [], acc, _, q => by
    unfold lcD
    simpa using q [] .nil
  | d :: ds, acc, h, q => by
    refine h d (by simp) (fun o => match o with
      | some y => lcD g tt te ss ds (acc ++ [y]) Q
      | none => lcD g tt te ss ds acc Q) fun y hy => ?_
    refine lc_rel R ds (acc ++ [y]) (fun d hd => h d (by simp [hd])) fun ys hys => ?_
    have := q (y :: ys) (.cons hy hys)
    simpa using this
theorem for_inv {g : DG} {body : DS} {E : DEnds} (I : Nat → Sls → Prop) : ∀ (ds : List D) (i0 : Nat) (ss : Sls), I i0 ss →
    (∀ (i : Nat) d, ds[i]? = some d → ∀ ss, I (i0 + i) ss → ∀ N : Sls → Prop, (∀ ss, I (i0 + i + 1) ss → N ss) → g d ss fun ss1 => body ⟨N, E.rt, E.nx, N⟩ ss1) → (∀ ss, I (i0 + ds.length) ss → E.nx ss) → forD g body ds E ss
  | [], i0, ss, h0, _, hd => hd ss h0
  | d :: ds, i0, ss, h0, hs, hd => by
    refine hs 0 d rfl ss h0 _ fun ss' h' => ?_
    refine for_inv I ds (i0 + 1) ss' h' (fun i d' hd' ss2 h2 N hN => ?_) fun ss2 h2 => hd ss2 ?_
    · have e : i0 + 1 + i = i0 + (i + 1) := by omega
      rw [e] at h2 hN
      exact hs (i + 1) d' (by simpa using hd') ss2 h2 N hN
    · have e : i0 + 1 + ds.length = i0 + (ds.length + 1) := by omega
      rw [e] at h2
      exact h2
end DL
set_option maxRecDepth 100000
set_option maxHeartbeats 2000000
namespace DL
open PySem PySem.Spec PyProof.Rows L2
variable {c : Cf} {X : Cx} {p : Option Addr} {G : Gm} {pos : Pos} {a b e ec : Expr} {da db dc : DE} {dl : DA}
/-! ### a < b < c -/
def dChain (f g : F2) (a b c : DE) : DE := ⟨a.n + (b.n + c.n), fun ss Q => a ss fun x => b ss fun y => f x y fun z => isB z fun k => if k = true then c ss fun w => g y w Q else Q (.bl false)⟩
theorem up_chain {r r' : R2} {f g : F2} (hl : LR ⟨X.K, p⟩ r f) (hl' : LR ⟨X.K, p⟩ r' g) : ∀ σ H Q, up ⟨X.K, p⟩ G (dChain f g da db dc) σ H Q → tChain r r' (up ⟨X.K, p⟩ G da) (up ⟨X.K, p⟩ G db) (up ⟨X.K, p⟩ G dc) σ H Q := fun σ H Q ⟨ss, ow, P, R, h, k⟩ =>
  ⟨ss, ow, _, R.l, h, fun x u H1 s1 r1 p1 => ⟨ss, ow, _, (R.step s1).l, p1, fun y v H2 s2 r2 p2 => by
    have R1 := R.step s1
    have R2 := R1.step s2
    refine hl H2 x y u v _ _ R2.pail (r1.le (R1.le s2) _ _) r2 p2 fun z w H3 s3 r3 p3 => ?_
    cases z with
    | bl b =>
      cases (show w = _ from r3)
      refine ⟨b, rfl, ?_⟩
      cases b with
      | true =>
        refine ⟨ss, ow, _, R2.step0 s3, p3, fun w' v' H4 s4 r4 p4 => ?_⟩
        refine hl' H4 y w' v v' P Q ((R2.step0 s3).stepn s4).pail (((r2.le (s3.le R2.pail) _ _).le ((R2.step0 s3).le s4) _ _)) r4 p4 fun d v5 H5 s5 r5 p5 => k d v5 H5 ?_ r5 p5
        exact s1.trans (s2.trans (((s3.trans s4).then0 s5).wk (by omega)))
      | false => exact k (.bl false) (.bl false) H3 (s1.trans ((s2.then0 s3).wk (Nat.le_add_right _ _))) rfl p3
    | _ => exact p3.elim⟩⟩
theorem pd_chain {op op' : CmpOp} {r r' : R2} {f g : F2} (ho : OpR X (compareOp op) r) (hl : LR ⟨X.K, p⟩ r f) (ho' : OpR X (compareOp op') r') (hl' : LR ⟨X.K, p⟩ r' g) (ha : PE X a (up ⟨X.K, p⟩ G da)) (hb : PE X b (up ⟨X.K, p⟩ G db)) (hc : PE X ec (up ⟨X.K, p⟩ G dc))
    (hm : lastMarks [op, op'] [b, ec] = false := by with_unfolding_all rfl) : PE X (.Compare a [op, op'] [b, ec] pos) (up ⟨X.K, p⟩ G (dChain f g da db dc)) := peOf (pe_chain ho ho' ha hb hc hm) (up_chain hl hl')
theorem td_chain {op op' : CmpOp} {r r' : R2} {f g : F2} (ho : OpR X (compareOp op) r) (hl : LR ⟨X.K, p⟩ r f) (ho' : OpR X (compareOp op') r') (hl' : LR ⟨X.K, p⟩ r' g) (ha : PE X a (up ⟨X.K, p⟩ G da)) (hb : PE X b (up ⟨X.K, p⟩ G db)) (hc : PE X ec (up ⟨X.K, p⟩ G dc))
    (hm : lastMarks [op, op'] [b, ec] = false := by with_unfolding_all rfl) : PT X (.Compare a [op, op'] [b, ec] pos) (upT ⟨X.K, p⟩ G (dTest (dChain f g da db dc))) := ptOf (pt_chain ho ho' ha hb hc hm) fun σ H Q ⟨ss, ow, P, R, h, k⟩ => by
  have q := up_test (X := X) (p := p) (G := G) (da := dChain f g da db dc) σ H Q ⟨ss, ow, P, R, h, k⟩
  exact up_chain hl hl' σ H _ q
/-! ### == of nested data -/
mutual
def D.py : D → PyData
  | .non => .none
  | .bl b => .bool b
  | .int i => .int i
  | .str x => .str x
  | .tup ds => .tuple (D.pys ds)
  | .lst ds => .list (D.pys ds)
  | _ => .none
def D.pys : List D → List PyData
  | [] => []
  | d :: ds => d.py :: D.pys ds
end
mutual
/-- plain data all the way -/
def D.dat : D → Bool
  | .non => true
  | .bl _ => true
  | .int _ => true
  | .str _ => true
  | .tup ds => D.dats ds
  | .lst ds => D.dats ds
  | _ => false
def D.dats : List D → Bool
  | [] => true
  | d :: ds => d.dat && D.dats ds
end
mutual
theorem dp_of {H : Hp} : ∀ (d : D) (v : V), Rp c H d v → d.dat = true → Dp c.K H v d.py
  | .non, v, r, _ => by cases (show v = _ from r); unfold D.py; exact .non
  | .bl _, v, r, _ => by cases (show v = _ from r); unfold D.py; exact .bl _
  | .int _, v, r, _ => by cases (show v = _ from r); unfold D.py; exact .int _
  | .str _, v, r, _ => by cases (show v = _ from r); unfold D.py; exact .str _
  | .tup ds, v, r, h => by
    unfold Rp at r
    unfold D.dat at h
    obtain ⟨a, xs, rfl, h1, h2⟩ := r
    unfold D.py
    exact .tup h1 (dps_of ds xs h2 h)
  | .lst ds, v, r, h => by
    unfold Rp at r
    unfold D.dat at h
    obtain ⟨a, xs, rfl, h1, h2⟩ := r
    unfold D.py
    exact .lst h1.l (dps_of ds xs h2 h)
  | .scr _, _, _, h => by unfold D.dat at h; cases h
  | .pail, _, _, h => by unfold D.dat at h; cases h
  | .prog _ _ _, _, _, h => by unfold D.dat at h; cases h
  | .stg _ _ _, _, _, h => by unfold D.dat at h; cases h
  | .ld _ _ _, _, _, h => by unfold D.dat at h; cases h
theorem dps_of {H : Hp} : ∀ (ds : List D) (vs : List V), Rps c H ds vs → D.dats ds = true → DpAll c.K H vs (D.pys ds)
  | [], vs, r, _ => by
    unfold Rps at r
    rw [r]
    unfold D.pys
    exact .nil
  | d :: ds, vs, r, h => by
    unfold Rps at r
    unfold D.dats at h
    rw [Bool.and_eq_true] at h
    obtain ⟨x, xs, rfl, h1, h2⟩ := r
    unfold D.pys
    exact .cons (dp_of d x h1 h.1) (dps_of ds xs h2 h.2)
end
def D.okE (d : D) : Prop := d.dat = true ∧ SeqAt.shaped d.py = true
def fEqD : F2 := fun x y Q => x.okE ∧ y.okE ∧ Q (.bl (PyData.eqv x.py y.py))
def fNeD : F2 := fun x y Q => x.okE ∧ y.okE ∧ Q (.bl (!PyData.eqv x.py y.py))
theorem lr_eqD : LR c (rEqD c.K) fEqD := fun H x y u v P Q hp r1 r2 ⟨q1, q2, q3⟩ k => ⟨_, _, dp_of x u r1 q1.1, dp_of y v r2 q2.1, q1.2, q2.2, k _ _ H (Step.refl _ _ _) r_bl q3⟩
theorem lr_neD : LR c (rNeD c.K) fNeD := fun H x y u v P Q hp r1 r2 ⟨q1, q2, q3⟩ k => ⟨_, _, dp_of x u r1 q1.1, dp_of y v r2 q2.1, q1.2, q2.2, k _ _ H (Step.refl _ _ _) r_bl q3⟩
/-! ### a new list from a list of the frame's own -/
def dBorL (i : Nat) (l : DA) : DA := ⟨l.n, fun ss Q => match ss[i]? with
  | some (Sl.own ds) => l (ss.set i (.val (.lst ds))) fun es => es.all D.noL = true ∧ Q es
  | _ => False⟩
theorem noLs_any {H H' : Hp} : ∀ {ds : List D} {vs : List V}, ds.all D.noL = true → Rps c H ds vs → Rps c H' ds vs
  | [], _, _, r => by unfold Rps at r ⊢; exact r
  | d :: ds, vs, h, r => by
    unfold Rps at r
    rw [List.all_cons, Bool.and_eq_true] at h
    obtain ⟨x, xs, rfl, h1, h2⟩ := r
    exact .cons (noL_any h.1 h1) (noLs_any h.2 h2)
theorem pl_bor (i : Nat) (ha : PE X a (upL ⟨X.K, p⟩ G dl)) : PE X a (upL ⟨X.K, p⟩ G (dBorL i dl)) := peOf (pe_lock ha) fun σ H Q ⟨ss, ow, P, R, h, k⟩ => by
  simp only [dBorL] at h
  split at h
  · rename_i ds ho
    obtain ⟨e1, xs, e2, e3⟩ := R.own i ds ho
    have hn := (R.fr i ds ho).2
    refine ⟨ow i, _, e2, True.intro, fun od => ⟨_, ow, _, R.frz ho e2, h, fun es q ys H' s1 hq h1 r1 ⟨p0, p1⟩ => ⟨?_, ?_⟩⟩⟩
    · exact s1.1 _ _ upd_same hn
    · have hne : q ≠ ow i := fun z => by rw [z, upd_same] at hq; cases hq
      refine k es q ys _ (step_unlock e2 hn s1) ?_ ?_ (noLs_any p0 r1) p1
      · rw [upd_ne hne] at hq; exact hq
      · rw [upd_ne hne]; exact h1
  · exact h.elim
/-! ### slices of the script; divmod; the names of a program -/
def dSlC (a : DE) (l h : DO) : DA := ⟨a.n + (l.n + h.n), fun ss Q => a ss fun x => l ss fun lo => h ss fun hi => match x with
  | .scr ns => Q ((cutD ns lo hi).map .int)
  | _ => False⟩
theorem cut_map (ns : List Int) (lo hi : Option Int) : cutV (ns.map V.int) lo hi = (cutD ns lo hi).map V.int := by
  unfold cutV cutD
  rw [List.length_map, ← List.map_drop, ← List.map_take]
theorem pl_slC {lo hi : Option Expr} {d1 d2 : DO} {p2 : Pos} (ha : PE X a (up ⟨X.K, p⟩ G da)) (hl : PO X lo (upO ⟨X.K, p⟩ G d1)) (hh : PO X hi (upO ⟨X.K, p⟩ G d2)) : PE X (.Subscript a (.Slice lo hi none p2) pos) (upL ⟨X.K, p⟩ G (dSlC da d1 d2)) :=
  peOf (pe_slice sl_list ha hl hh) fun σ H Q ⟨ss, ow, P, R, h, k⟩ => ⟨ss, ow, _, R.l, h, fun x v H1 s1 r1 p1 => ⟨ss, ow, _, (R.step s1).l, p1, fun l H2 s2 p2 => ⟨ss, ow, _, (R.step s1).step s2, p2, fun u H3 s3 p3 => by
    have R2 := (R.step s1).step s2
    have r3 := (r1.le ((R.step s1).le s2) _ _).le (R2.le s3) _ _
    have s := s1.trans (s2.trans s3)
    cases x with
    | scr ns =>
      unfold Rp at r3
      obtain ⟨a, rfl, h1⟩ := r3
      refine ⟨a, _, rfl, h1.l, fun q hq => k _ q _ _ (s.then0 (Step.new hq)) (s.free R.pail hq) upd_same ?_ p3⟩
      rw [cut_map]
      exact rps_of_ints
    | _ => exact p3.elim⟩⟩⟩
def fDivmod : FC := fun xs Q => match xs with
  | [.int i, .int j] => CDiv i j ∧ Q (.tup [.int (i / j), .int (i % j)])
  | _ => False
theorem lc_divmod : LCR c (fun xs H Q => ∃ i j, xs = [.int i, .int j] ∧ CDiv i j ∧ ∀ p, H p = none → Q (.ref p) (upd H p (.tup [.int (i / j), .int (i % j)]))) fDivmod := fun H xs vs P Q hp rs q k => by
  unfold fDivmod at q
  split at q
  · obtain ⟨v, w, rfl, r1, r2⟩ := rps2 rs
    cases (show v = _ from r1)
    cases (show w = _ from r2)
    exact ⟨_, _, rfl, q.1, fun l hl => k _ _ _ (Step.new hl) (r_tup (SqT.of upd_same) (.cons r_int (.one r_int))) q.2⟩
  · exact q.elim
end DL
set_option maxRecDepth 100000
set_option maxHeartbeats 2000000
namespace DL
open PySem PySem.Spec PyProof.Rows L2
variable {c : Cf} {X : Cx} {p : Option Addr} {G : Gm} {pos : Pos} {a b e ec : Expr} {da db dc : DE} {dl : DA}
/-! ### a tuple times an int -/
theorem tuple_mul1 (l : Addr) (items : Array Value) (n : Nat) (dd : Option Addr) (sl : Array (Option Value)) (u : Tok) :
    Meets (Builtin.«tuple.__mul__» ⟨[.ref l, .int 1 u], []⟩) (fun _ R s => s.heap.get? l = some { cls := .type "tuple", dict := dd, data := .seq items n, slots := sl } ∧
      R (.ok (.ret (.ref l))) s) :=
  .of_wp fun prog w A R s h => by
    obtain ⟨hp, g, d, tk, os⟩ := s
    obtain ⟨hl, h⟩ := h
    have f1 := AutoSeq1.idx_int
    wp_walk using wpAny_loadPart' hl
    exact ⟨_, rfl, h⟩
def rRep1 (K : PySem.W.Frag) : R2 := fun x y H Q => ∃ l xs, x = .ref l ∧ y = .int 1 ∧ SqT K H l xs ∧ Q (.ref l) H
theorem op_rep1 : OpR X (binaryOp .Mult) (rRep1 X.K) := by
  intro pins s σ H x y v u Q I rx ry h
  obtain ⟨l, xs, rfl, rfl, hT, q⟩ := h
  cases rx
  obtain ⟨t, rfl⟩ := ry
  obtain ⟨its, r, ⟨⟨cls, dd, data, sl⟩, ho, hc, n, hd⟩, hs⟩ := I.tuple hT
  simp only at hc hd
  subst hc hd
  refine wpAny_binaryOp_repeat_ref (T := "tuple") (U := "int") (by decide) ⟨_, ho, rfl⟩ (fun s' => typeIs_int s' 1 t) noFill_tuple_mul F.fills_int_mul F.slot_int_rmul repeat_tuple F.slot_int_index.lookup
    (call_meets F.slot_int_rmul (typeIs_int s 1 t) F.entry_int_rmul (F.args_int_rmul_2 _ _) (int_rmul_tuple 1 t l its.toArray n dd sl)
      ⟨ho, rfl, ⟨_, ho, rfl⟩, call_meets F.slot_tuple_mul ⟨_, ho, rfl⟩ F.entry_tuple_mul (F.args_tuple_mul_2 _ _) (tuple_mul1 l its.toArray n dd sl t) ⟨ho, ?_⟩⟩)
  exact ⟨.ref l, H, I, rfl, q⟩
theorem OpR.or {f : Value → Value → Sem Value} {r r' : R2} (h : OpR X f r) (h' : OpR X f r') : OpR X f (fun x y H Q => r x y H Q ∨ r' x y H Q) := fun pins s σ H x y v u Q I rx ry z => z.elim (h pins s σ H x y v u Q I rx ry) (h' pins s σ H x y v u Q I rx ry)
def fMulT : F2 := fun x y Q => match x, y with
  | .tup ds, .int k => ds ≠ [] ∧ (1 ≤ k ∧ k ≤ 1000) ∧ ds.length ≤ 1000 ∧ Q (.tup (List.replicate k.toNat ds).flatten)
  | _, _ => False
theorem rps_rep {H : Hp} {ds : List D} {vs : List V} (r : Rps c H ds vs) : ∀ n : Nat, Rps c H (List.replicate n ds).flatten (List.replicate n vs).flatten
  | 0 => .nil
  | n + 1 => by
    rw [List.replicate_succ, List.replicate_succ, List.flatten_cons, List.flatten_cons]
    exact r.append (rps_rep r n)
theorem lr_mult : LR c (fun x y H Q => rRepT c.K x y H Q ∨ rRep1 c.K x y H Q) fMulT := fun H x y u v P Q hp r1 r2 q k => by
  unfold fMulT at q
  split at q
  · rename_i ds n
    unfold Rp at r1
    obtain ⟨a, xs, rfl, h1, h2⟩ := r1
    cases (show v = _ from r2)
    obtain ⟨q1, ⟨q2, q3⟩, q4, q5⟩ := q
    by_cases h : n = 1
    · subst h
      refine .inr ⟨a, xs, rfl, rfl, h1, k _ _ H (Step.refl _ _ _) (r_tup h1 h2) ?_⟩
      simpa using q5
    · refine .inl ⟨a, n, xs, rfl, rfl, h1, fun e => q1 ?_, by omega, q3, by rw [h2.length]; exact q4, fun l hl => k _ _ _ (Step.new hl) (r_tup (SqT.of upd_same) ((rps_rep h2 _).le (Le.new hl) _ _)) q5⟩
      have := h2.length
      rw [e] at this
      exact List.length_eq_zero_iff.mp this.symm
  · exact q.elim
theorem pd_mult (ha : PE X a (up ⟨X.K, p⟩ G da)) (hb : PE X b (up ⟨X.K, p⟩ G db)) : PE X (.BinOp a .Mult b pos) (up ⟨X.K, p⟩ G (dOp fMulT da db)) := pd_op (OpR.or op_repT op_rep1) (lr_mult (c := ⟨X.K, p⟩)) ha hb
/-! ### the built-in names -/
theorem bt_len : bootBuiltins "len" = some (.builtin "len") := by decide +kernel
theorem bt_abs : bootBuiltins "abs" = some (.builtin "abs") := by decide +kernel
theorem bt_sum : bootBuiltins "sum" = some (.builtin "sum") := by decide +kernel
theorem bt_all : bootBuiltins "all" = some (.builtin "all") := by decide +kernel
theorem bt_any : bootBuiltins "any" = some (.builtin "any") := by decide +kernel
theorem bt_divmod : bootBuiltins "divmod" = some (.builtin "divmod") := by decide +kernel
theorem bt_max : bootBuiltins "max" = some (.builtin "max") := by decide +kernel
theorem bt_min : bootBuiltins "min" = some (.builtin "min") := by decide +kernel
theorem bt_isinstance : bootBuiltins "isinstance" = some (.builtin "isinstance") := by decide +kernel
theorem bt_repr : bootBuiltins "repr" = some (.builtin "repr") := by decide +kernel
theorem bt_sorted : bootBuiltins "sorted" = some (.builtin "sorted") := by decide +kernel
theorem bt_tuple : bootBuiltins "tuple" = some (.type "tuple") := by decide +kernel
theorem bt_int : bootBuiltins "int" = some (.type "int") := by decide +kernel
theorem bt_str : bootBuiltins "str" = some (.type "str") := by decide +kernel
theorem bt_list : bootBuiltins "list" = some (.type "list") := by decide +kernel
theorem bt_bool : bootBuiltins "bool" = some (.type "bool") := by decide +kernel
theorem bt_dict : bootBuiltins "dict" = some (.type "dict") := by decide +kernel
theorem bt_enumerate : bootBuiltins "enumerate" = some (.type "enumerate") := by decide +kernel
theorem bt_range : bootBuiltins "range" = some (.type "range") := by decide +kernel
theorem bt_zip : bootBuiltins "zip" = some (.type "zip") := by decide +kernel
/-! ### programs: instances with slots -/
structure PrFx (K : PySem.W.Frag) : Prop where
  cls : SlX.SCls K (progC K)
  b : ∃ q, SlX.Slot1 K (progC K) "own_branches" q 0
  n : ∃ q, SlX.Slot1 K (progC K) "own_names" q 1
  s : ∃ q, SlX.Slot1 K (progC K) "own_sayings" q 2
  isi : SlX.SIsi K (progC K)
  one : PySem.W.kitOne K (.ref (progC K)) (.ref (progC K)) = some true
  non : ∀ t ∈ ["NoneType", "bool", "int", "str", "tuple", "list"], PySem.W.kitOne K (.type t) (.ref (progC K)) = some false
def fPN (x : D) (Q : D → Prop) : Prop := match x with
  | .prog n _ _ => Q n
  | _ => False
def fPS (x : D) (Q : D → Prop) : Prop := match x with
  | .prog _ s _ => Q s
  | _ => False
def fPB (x : D) (Q : D → Prop) : Prop := match x with
  | .prog _ _ b => Q b
  | _ => False
theorem up_slot {K : PySem.W.Frag} {c : Cf} {f : D → (D → Prop) → Prop} {nm : Str} {i : Nat} (pr : PrFx c.K) (hs : ∃ q, SlX.Slot1 c.K (progC c.K) nm q i) (hf : ∀ x Q, f x Q → ∃ n s b d, x = .prog n s b ∧ [b, n, s][i]? = some d ∧ Q d) : ∀ σ H Q, up c G (dUn f da) σ H Q → SlX.tSl c.K (up c G da) nm σ H Q := fun σ H Q ⟨ss, ow, P, R, h, k⟩ => ⟨ss, ow, _, R, h, fun x v H1 s1 r1 p1 => by
  obtain ⟨n, s, b, d, rfl, e1, e2⟩ := hf x P p1
  unfold Rp at r1
  obtain ⟨a, dx, vn, vs, vb, rfl, h1, h2, h3, h4⟩ := r1
  obtain ⟨q, hq⟩ := hs
  rcases i with _ | _ | _ | i
  · simp at e1; subst e1
    exact ⟨a, progC c.K, dx, q, _, 0, vb, rfl, h1, pr.cls, hq, rfl, k _ _ H1 s1 h4 e2⟩
  · simp at e1; subst e1
    exact ⟨a, progC c.K, dx, q, _, 1, vn, rfl, h1, pr.cls, hq, rfl, k _ _ H1 s1 h2 e2⟩
  · simp at e1; subst e1
    exact ⟨a, progC c.K, dx, q, _, 2, vs, rfl, h1, pr.cls, hq, rfl, k _ _ H1 s1 h3 e2⟩
  · simp at e1⟩
theorem pd_pN (pr : PrFx X.K) (ha : PE X a (up ⟨X.K, p⟩ G da)) (hb : attributeBase a "own_names" X.env (eval a X.env) = eval a X.env := by rfl) : PE X (.Attribute a "own_names" pos) (up ⟨X.K, p⟩ G (dUn fPN da)) :=
  peOf (SlX.pe_sl ha hb) (up_slot (K := X.K) (i := 1) pr pr.n fun x Q h => by
    cases x <;> first | exact ⟨_, _, _, _, rfl, rfl, h⟩ | exact h.elim)
theorem pd_pS (pr : PrFx X.K) (ha : PE X a (up ⟨X.K, p⟩ G da)) (hb : attributeBase a "own_sayings" X.env (eval a X.env) = eval a X.env := by rfl) : PE X (.Attribute a "own_sayings" pos) (up ⟨X.K, p⟩ G (dUn fPS da)) :=
  peOf (SlX.pe_sl ha hb) (up_slot (K := X.K) (i := 2) pr pr.s fun x Q h => by
    cases x <;> first | exact ⟨_, _, _, _, rfl, rfl, h⟩ | exact h.elim)
theorem pd_pB (pr : PrFx X.K) (ha : PE X a (up ⟨X.K, p⟩ G da)) (hb : attributeBase a "own_branches" X.env (eval a X.env) = eval a X.env := by rfl) : PE X (.Attribute a "own_branches" pos) (up ⟨X.K, p⟩ G (dUn fPB da)) :=
  peOf (SlX.pe_sl ha hb) (up_slot (K := X.K) (i := 0) pr pr.b fun x Q h => by
    cases x <;> first | exact ⟨_, _, _, _, rfl, rfl, h⟩ | exact h.elim)
/-- isinstance(x, Program) -/
def fIsP (x : D) (Q : D → Prop) : Prop := x.noIns = true ∧ Q (.bl x.isPg)
def rIsP (K : PySem.W.Frag) : List V → Hp → VK → Prop := fun xs H Q => SlX.rIsiSl K (.ref (progC K)) xs H Q ∨ rIsi K xs H Q
theorem pd_isP {q q2 : Pos} (pr : PrFx X.K) (ha : PE X a (up ⟨X.K, p⟩ G da)) (hg : Gl X "isinstance") (hm : X.mg "isinstance" = none) (hg2 : Gl X "Program") (hm2 : X.mg "Program" = some (.ref (progC X.K)))
    (he : starEach [a, .Name "Program" q2] X.env = (false, eval a X.env) :: starEach [.Name "Program" q2] X.env := by rfl) (he2 : starEach [.Name "Program" q2] X.env = (false, eval (.Name "Program" q2) X.env) :: starEach [] X.env := by rfl) (hpl : (backTo pos (starEach [.Name "Program" q2] X.env)).any (·.1) = false := by rfl) :
    PE X (.Call (.Name "isinstance" q) [a, .Name "Program" q2] [] pos) (up ⟨X.K, p⟩ G (dUn fIsP da)) :=
  peOf (pe_callB (CallR.or (SlX.call_isiSl (.ref (progC X.K))) call_isi) hg hm PyProof.Rows.boot_isinstance (pa_cons ha (pa_cons (pe_glob (v := .ref (progC X.K)) hg2 hm2 rfl (by decide)) pa_nil he2) he) (by decide) (by decide) he hpl) fun σ H Q ⟨ss, ow, P, R, h, k⟩ => ⟨ss, ow, _, R, h, fun x v H1 s1 r1 p1 => by
    have R1 := R.stepn s1
    show _ ∨ _
    by_cases hx : x.isPg = true
    · left
      cases x with
      | prog n s b =>
        unfold Rp at r1
        obtain ⟨a, dx, vn, vs, vb, rfl, h1, h2, h3, h4⟩ := r1
        exact ⟨a, progC X.K, dx, _, .ref (progC X.K), true, rfl, rfl, fun w r => r, h1, pr.cls, pr.isi, pr.one, k _ _ H1 s1 r_bl p1.2⟩
      | _ => cases hx
    · right
      obtain ⟨t, ht, hm⟩ : ∃ t, x.tyn = some t ∧ t ∈ ["NoneType", "bool", "int", "str", "tuple", "list"] := by
        have p0 := p1.1
        cases x <;> first | exact ⟨_, rfl, by decide⟩ | exact absurd rfl hx | cases p0
      have e : x.isPg = false := by cases q : x.isPg <;> simp_all
      refine ⟨v, .ref (progC X.K), .type t, .ref (progC X.K), false, rfl, .own _, tyx_of R1.pail r1 ht, pr.non t hm, k _ _ H1 s1 r_bl ?_⟩
      unfold fIsP at p1
      rw [e] at p1
      exact p1.2⟩
/-- the body of a def reads so -/
abbrev Body (P : Program) (w : World) (K : PySem.W.Frag) (mg : Str → Option Value) (base : Heap) (N : List Str) (qual : Str) (scope : Scope) (k : Nat) (body : List Stmt) (t : DS) : Prop :=
  ∀ (f : Addr) (cdv : Value) (A : Around) (outer : List Env) (s : Shared) (H : Hp) (E : XK) (p : Option Addr) (G : Gm), Room k (A.deeper (envOfC qual scope s.heap.objs.size f cdv)) → PSs (cxOf C8.CX0 P w K mg base N qual scope f cdv A outer s H E).nox body (upS ⟨K, p⟩ G t)
end DL
set_option maxRecDepth 100000
set_option maxHeartbeats 2000000
namespace DL
open PySem PySem.Spec PyProof.Rows L2
/-! ### the readings, opened -/
section
variable {ss : Sls} {Q : D → Prop} {QB : Bool → Prop} {QL : List D → Prop} {QO : Option Int → Prop} {E : DEnds} {a b e : DE} {t u : DT} {dt : DA} {s1 s2 : DS} {l h : DO} {it : DI} {dg : DG}
@[simp] theorem x_var {i : Nat} : (dVar i).f ss Q = match ss[i]? with
  | some (Sl.val d) => Q d
  | _ => False := rfl
@[simp] theorem x_c {d : D} : (dC d).f ss Q = Q d := rfl
@[simp] theorem x_nil : dNil.f ss QL = QL [] := rfl
@[simp] theorem x_cons : (dCons a dt).f ss QL = a.f ss fun x => dt.f ss fun xs => QL (x :: xs) := rfl
@[simp] theorem x_star : (dStar a dt).f ss QL = a.f ss fun x => items x fun ys => dt.f ss fun xs => QL (ys ++ xs) := rfl
@[simp] theorem x_tup : (dTup dt).f ss Q = dt.f ss fun ds => small ds.length ∧ Q (.tup ds) := rfl
@[simp] theorem x_lst : (dLst dt).f ss QL = dt.f ss fun ds => small ds.length ∧ QL ds := rfl
@[simp] theorem x_l : (dL dt).f ss Q = dt.f ss fun ds => Q (.lst ds) := rfl
@[simp] theorem x_op {f : F2} : (dOp f a b).f ss Q = a.f ss fun x => b.f ss fun y => f x y Q := rfl
@[simp] theorem x_test : (dTest a).f ss QB = a.f ss fun x => isB x QB := rfl
@[simp] theorem x_isB {k : Bool} : isB (.bl k) QB = QB k := rfl
@[simp] theorem x_and : (dAnd t u).f ss QB = t.f ss fun k => if k = true then u.f ss QB else QB false := rfl
@[simp] theorem x_or : (dOr t u).f ss QB = t.f ss fun k => if k = true then QB true else u.f ss QB := rfl
@[simp] theorem x_not : (dNot t).f ss QB = t.f ss fun k => QB (!k) := rfl
@[simp] theorem x_andV : (dAndV a b).f ss Q = a.f ss fun x => isB x fun k => if k = true then b.f ss Q else Q (.bl false) := rfl
@[simp] theorem x_orV : (dOrV a b).f ss Q = a.f ss fun x => isB x fun k => if k = true then Q (.bl true) else b.f ss Q := rfl
@[simp] theorem x_notV : (dNotV a).f ss Q = a.f ss fun x => isB x fun k => Q (.bl (!k)) := rfl
@[simp] theorem x_if : (dIf t a b).f ss Q = t.f ss fun k => if k = true then a.f ss Q else b.f ss Q := rfl
@[simp] theorem x_un {f : D → (D → Prop) → Prop} : (dUn f a).f ss Q = a.f ss fun x => f x Q := rfl
@[simp] theorem x_on : dOn.f ss QO = QO none := rfl
@[simp] theorem x_os : (dOs a).f ss QO = a.f ss fun x => match x with
  | .int i => QO (some i)
  | _ => False := rfl
@[simp] theorem x_sl {f : D → Option Int → Option Int → (D → Prop) → Prop} : (dSl f a l h).f ss Q = a.f ss fun x => l.f ss fun lo => h.f ss fun hi => f x lo hi Q := rfl
@[simp] theorem x_slL : (dSlL a l h).f ss QL = a.f ss fun x => l.f ss fun lo => h.f ss fun hi => match x with
  | .lst ds => QL (cutD ds lo hi)
  | _ => False := rfl
@[simp] theorem x_slC : (dSlC a l h).f ss QL = a.f ss fun x => l.f ss fun lo => h.f ss fun hi => match x with
  | .scr ns => QL ((cutD ns lo hi).map .int)
  | _ => False := rfl
@[simp] theorem x_cat : (dCat a b).f ss QL = a.f ss fun x => b.f ss fun y => match x, y with
  | .lst i, .lst j => small (i.length + j.length) ∧ QL (i ++ j)
  | _, _ => False := rfl
@[simp] theorem x_fn {f : FC} : (dFn f dt).f ss Q = dt.f ss fun xs => f xs Q := rfl
@[simp] theorem x_fnL {f : FCL} : (dFnL f dt).f ss QL = dt.f ss fun xs => f xs QL := rfl
@[simp] theorem x_m1 {f : F2} : (dM1 f a b).f ss Q = a.f ss fun x => x.isS = true ∧ b.f ss fun y => f x y Q := rfl
@[simp] theorem x_m1L {f : D → D → (List D → Prop) → Prop} : (dM1L f a b).f ss QL = a.f ss fun x => x.isS = true ∧ b.f ss fun y => f x y QL := rfl
@[simp] theorem x_joined {ds : List DE} : (dJoined ds).f ss Q = dJs ds Str.empty ss fun z => Q (.str z) := rfl
@[simp] theorem x_js0 {acc : Str} {QS : Str → Prop} : dJs [] acc ss QS = QS acc := by unfold dJs; rfl
@[simp] theorem x_js1 {ds : List DE} {acc : Str} {QS : Str → Prop} : dJs (a :: ds) acc ss QS = a.f ss fun x => match x with
  | .str y => small (acc ++ y).length ∧ dJs ds (acc ++ y) ss QS
  | _ => False := by
  rw [dJs] <;> rfl
@[simp] theorem x_call {S : FS} : (dCall S dt).f ss Q = dt.f ss fun xs => S.f xs Q := rfl
@[simp] theorem x_chain {f g : F2} {cc : DE} : (dChain f g a b cc).f ss Q = a.f ss fun x => b.f ss fun y => f x y fun z => isB z fun k => if k = true then cc.f ss fun w => g y w Q else Q (.bl false) := rfl
@[simp] theorem x_bor {i : Nat} : (dBor i a).f ss Q = match ss[i]? with
  | some (Sl.own ds) => a.f (ss.set i (.val (.lst ds))) fun d => d.noL = true ∧ Q d
  | _ => False := rfl
@[simp] theorem x_borT {i : Nat} : (dBorT i t).f ss QB = match ss[i]? with
  | some (Sl.own ds) => t.f (ss.set i (.val (.lst ds))) QB
  | _ => False := rfl
@[simp] theorem x_borL {i : Nat} : (dBorL i dt).f ss QL = match ss[i]? with
  | some (Sl.own ds) => dt.f (ss.set i (.val (.lst ds))) fun es => es.all D.noL = true ∧ QL es
  | _ => False := rfl
/-! statements -/
@[simp] theorem x_next : dNext.f E ss = E.nx ss := rfl
@[simp] theorem x_seq : (dSeq s1 s2).f E ss = s1.f { E with nx := s2.f E } ss := rfl
@[simp] theorem x_break : dBreak.f E ss = E.bk ss := rfl
@[simp] theorem x_cont : dCont.f E ss = E.ct ss := rfl
@[simp] theorem x_never : dNever.f E ss = False := rfl
@[simp] theorem x_ret : (dRet a).f E ss = a.f ss fun d => E.rt d ss := rfl
@[simp] theorem x_retN : dRetN.f E ss = E.rt .non ss := rfl
@[simp] theorem x_expr : (dExpr a).f E ss = a.f ss fun _ => E.nx ss := rfl
@[simp] theorem x_ifS : (dIfS t s1 s2).f E ss = t.f ss fun k => if k = true then s1.f E ss else s2.f E ss := rfl
@[simp] theorem x_set {i : Nat} : (dSet i a).f E ss = a.f ss fun d => E.nx (ss.set i (.val d)) := rfl
@[simp] theorem x_setO {i : Nat} : (dSetO i dt).f E ss = dt.f ss fun ds => E.nx (ss.set i (.own ds)) := rfl
@[simp] theorem x_unp : (dUnp a dg).f E ss = a.f ss fun d => dg d ss E.nx := rfl
@[simp] theorem x_aug {i : Nat} {f : Int → Int → Int} : (dAug i f a).f E ss = match ss[i]? with
  | some (Sl.val (.int u)) => a.f ss fun d => match d with
    | .int w => E.nx (ss.set i (.val (.int (f u w))))
    | _ => False
  | _ => False := rfl
@[simp] theorem x_fz {i : Nat} : (dFz i s1).f E ss = frzS i ss fun ss' => s1.f E ss' := rfl
@[simp] theorem x_frzS {i : Nat} {P : Sls → Prop} : frzS i ss P = match ss[i]? with
  | some (Sl.own ds) => P (ss.set i (.val (.lst ds)))
  | _ => False := rfl
@[simp] theorem x_app {i : Nat} : (dApp i a).f E ss = match ss[i]? with
  | some (Sl.own ds) => a.f ss fun d => small ds.length ∧ E.nx (ss.set i (.own (ds ++ [d])))
  | _ => False := rfl
@[simp] theorem x_ext {i : Nat} : (dExt i a).f E ss = match ss[i]? with
  | some (Sl.own ds) => a.f ss fun d => litems d fun es => small (ds.length + es.length) ∧ E.nx (ss.set i (.own (ds ++ es)))
  | _ => False := rfl
@[simp] theorem x_setIg {i : Nat} : (dSetIg i a b).f E ss = match ss[i]? with
  | some (Sl.own ds) => a.f ss fun d => b.f ss fun k => match k with
    | .int k => ∃ j, ixN ds.length k = some j ∧ E.nx (ss.set i (.own (ds.set j d)))
    | _ => False
  | _ => False := rfl
@[simp] theorem x_par {i j : Nat} : (dPar i j dt).f E ss = dt.f ss fun xs => match xs with
  | [x, y] => E.nx ((ss.set i (.val x)).set j (.val y))
  | _ => False := rfl
@[simp] theorem x_for : (dFor it dg s1).f E ss = it.f ss fun ds => small ds.length ∧ forD dg s1 ds E ss := rfl
@[simp] theorem x_lc {te : DE} {vs : List Nat} : (dLc it dg t te vs).f ss QL = it.f ss fun ds => small ds.length ∧ lcD dg t te (wipeS ss vs) ds [] QL := rfl
@[simp] theorem x_lcI {te : DE} {d : D} {Kk : Option D → Prop} : lcI dg t te ss d Kk = dg d ss fun ss1 => t.f ss1 fun k => if k = true then te.f ss1 fun y => Kk (some y) else Kk none := rfl
@[simp] theorem x_yes : dYes.f ss QB = QB true := rfl
@[simp] theorem x_dgName {i : Nat} {d : D} {P : Sls → Prop} : dgName i d ss P = P (ss.set i (.val d)) := rfl
@[simp] theorem x_dgTup {is : List Nat} {ds : List D} {P : Sls → Prop} : dgTup is (.tup ds) ss P = dgNames is ds ss P := rfl
@[simp] theorem x_dgN0 {P : Sls → Prop} : dgNames [] [] ss P = P ss := rfl
@[simp] theorem x_dgN1 {i : Nat} {is : List Nat} {d : D} {ds : List D} {P : Sls → Prop} : dgNames (i :: is) (d :: ds) ss P = dgNames is ds (ss.set i (.val d)) P := rfl
@[simp] theorem x_wipe0 : wipeS ss [] = ss := rfl
@[simp] theorem x_wipe1 {i : Nat} {is : List Nat} : wipeS ss (i :: is) = (wipeS ss is).set i .no := rfl
/-! walks -/
@[simp] theorem x_itT : (dItT a).f ss QL = a.f ss fun x => match x with
  | .tup ds => QL ds
  | _ => False := rfl
@[simp] theorem x_itL : (dItL a).f ss QL = a.f ss fun x => match x with
  | .lst ds => QL ds
  | _ => False := rfl
@[simp] theorem x_itS : (dItS a).f ss QL = a.f ss fun x => match x with
  | .str z => QL (D.signs z)
  | _ => False := rfl
@[simp] theorem x_rng1 : (dRng1 dt).f ss QL = dt.f ss fun xs => match xs with
  | [.int j] => (-(2 ^ 62) ≤ j ∧ j < 2 ^ 62) ∧ QL (D.rng 0 j.toNat)
  | _ => False := rfl
@[simp] theorem x_rng2 : (dRng2 dt).f ss QL = dt.f ss fun xs => match xs with
  | [.int i, .int j] => (-(2 ^ 62) ≤ i ∧ i < 2 ^ 62 ∧ -(2 ^ 62) ≤ j ∧ j < 2 ^ 62) ∧ QL (D.rng i (j - i).toNat)
  | _ => False := rfl
@[simp] theorem x_enL : (dEnL dt).f ss QL = dt.f ss fun xs => match xs with
  | [.lst ds] => QL (D.enumFrom 0 ds)
  | _ => False := rfl
@[simp] theorem x_enT : (dEnT dt).f ss QL = dt.f ss fun xs => match xs with
  | [.tup ds] => QL (D.enumFrom 0 ds)
  | _ => False := rfl
end
/-! ### the operators, opened -/
section
variable {Q : D → Prop} {QL : List D → Prop} {i j : Int} {ds es : List D} {x y : Str}
@[simp] theorem x_fI {g : Int → Int → D} : fI g (.int i) (.int j) Q = Q (g i j) := rfl
@[simp] theorem x_fIC {C : Int → Int → Prop} {g : Int → Int → D} : fIC C g (.int i) (.int j) Q = (C i j ∧ Q (g i j)) := rfl
@[simp] theorem x_addS : fAddS (.str x) (.str y) Q = (small (x.length + y.length) ∧ Q (.str (x ++ y))) := rfl
@[simp] theorem x_addT : fAddT (.tup ds) (.tup es) Q = (small (ds.length + es.length) ∧ Q (.tup (ds ++ es))) := rfl
@[simp] theorem x_mulT : fMulT (.tup ds) (.int i) Q = (ds ≠ [] ∧ (1 ≤ i ∧ i ≤ 1000) ∧ ds.length ≤ 1000 ∧ Q (.tup (List.replicate i.toNat ds).flatten)) := rfl
@[simp] theorem x_neg : fNeg (.int i) Q = Q (.int (-i)) := rfl
@[simp] theorem x_eqI : fEq (.int i) (.int j) Q = Q (.bl (decide (i = j))) := by simp [fEq, D.scal, D.eqF]
@[simp] theorem x_eqS : fEq (.str x) (.str y) Q = Q (.bl (decide (x = y))) := by simp [fEq, D.scal, D.eqF]
@[simp] theorem x_eqB {a b : Bool} : fEq (.bl a) (.bl b) Q = Q (.bl (decide (a = b))) := by simp [fEq, D.scal, D.eqF]
@[simp] theorem x_neI : fNe (.int i) (.int j) Q = Q (.bl (!decide (i = j))) := by simp [fNe, D.scal, D.eqF]
@[simp] theorem x_neS : fNe (.str x) (.str y) Q = Q (.bl (!decide (x = y))) := by simp [fNe, D.scal, D.eqF]
@[simp] theorem x_neB {a b : Bool} : fNe (.bl a) (.bl b) Q = Q (.bl (!decide (a = b))) := by simp [fNe, D.scal, D.eqF]
@[simp] theorem x_is {d : D} : fIs d .non Q = Q (.bl d.isNon) := rfl
@[simp] theorem x_isnot {d : D} : fIsNot d .non Q = Q (.bl (!d.isNon)) := rfl
@[simp] theorem x_isNon0 : D.isNon .non = true := rfl
@[simp] theorem x_isNon1 : D.isNon (.int i) = false := rfl
@[simp] theorem x_isNon2 : D.isNon (.tup ds) = false := rfl
@[simp] theorem x_isNon3 : D.isNon (.lst ds) = false := rfl
@[simp] theorem x_isNon4 : D.isNon (.str x) = false := rfl
@[simp] theorem x_isNon5 {a b c : D} : D.isNon (.prog a b c) = false := rfl
@[simp] theorem x_isNon6 {a b c : D} : D.isNon (.stg a b c) = false := rfl
@[simp] theorem x_isNon7 {x : List Int} : D.isNon (.scr x) = false := rfl
@[simp] theorem x_itemsT : items (.tup ds) QL = QL ds := rfl
@[simp] theorem x_itemsL : items (.lst ds) QL = QL ds := rfl
@[simp] theorem x_litems : litems (.lst ds) QL = QL ds := rfl
@[simp] theorem x_ixT : fIx (.tup ds) (.int i) Q = (∃ d, atI ds i = some d ∧ Q d) := rfl
@[simp] theorem x_ixL : fIx (.lst ds) (.int i) Q = (∃ d, atI ds i = some d ∧ Q d) := rfl
@[simp] theorem x_ixS : fIx (.str x) (.int i) Q = (small x.length ∧ ∃ n, atI x.cps.toList i = some n ∧ Q (.str ⟨#[n]⟩)) := rfl
@[simp] theorem x_ixC {ns : List Int} : fIx (.scr ns) (.int i) Q = (∃ n, atI ns i = some n ∧ Q (.int n)) := rfl
@[simp] theorem x_slT {lo hi : Option Int} : fSlT (.tup ds) lo hi Q = Q (.tup (cutD ds lo hi)) := rfl
@[simp] theorem x_slS {lo hi : Option Int} : fSlS (.str x) lo hi Q = (small x.length ∧ Q (.str (cutS x lo hi))) := rfl
@[simp] theorem x_f1 {f : D → (D → Prop) → Prop} {d : D} : f1 f [d] Q = f d Q := rfl
@[simp] theorem x_f1L {f : D → (List D → Prop) → Prop} {d : D} : f1L f [d] QL = f d QL := rfl
@[simp] theorem x_lenT : fLen (.tup ds) Q = Q (.int ds.length) := rfl
@[simp] theorem x_lenL : fLen (.lst ds) Q = Q (.int ds.length) := rfl
@[simp] theorem x_lenC {ns : List Int} : fLen (.scr ns) Q = Q (.int ns.length) := rfl
@[simp] theorem x_lenS : fLen (.str x) Q = (small x.length ∧ Q (.int x.length)) := rfl
@[simp] theorem x_tupleL : fTuple (.lst ds) Q = Q (.tup ds) := rfl
@[simp] theorem x_tupleT : fTuple (.tup ds) Q = Q (.tup ds) := rfl
@[simp] theorem x_sum : fSum (.lst ds) Q = (ds.all D.isI = true ∧ Q (.int (ds.map D.toI).sum)) := rfl
@[simp] theorem x_all : fAll (.lst ds) Q = (ds.all D.isBl = true ∧ Q (.bl (ds.all D.toB))) := rfl
@[simp] theorem x_any : fAny (.lst ds) Q = (ds.all D.isBl = true ∧ Q (.bl (ds.any D.toB))) := rfl
@[simp] theorem x_abs : fAbs (.int i) Q = Q (.int (if i < 0 then -i else i)) := rfl
@[simp] theorem x_2I {g : Int → Int → D} : f2I g [.int i, .int j] Q = Q (g i j) := rfl
@[simp] theorem x_intI : fInt (.int i) Q = Q (.int i) := rfl
@[simp] theorem x_intB {k : Bool} : fInt (.bl k) Q = Q (.int (if k then 1 else 0)) := rfl
@[simp] theorem x_intS : fIntS (.str x) Q = (x.length ≤ 640 ∧ ∃ n, PySem.intText? x = some n ∧ Q (.int n)) := rfl
@[simp] theorem x_strI : fStrI (.int i) Q = (i.natAbs.log2 < 1920 ∧ Q (.str (toString i))) := rfl
@[simp] theorem x_isi {T : Ty} {d : D} : fIsi T d Q = (d.isPr = false ∧ Q (.bl (d.isTy T))) := rfl
@[simp] theorem x_isP {d : D} : fIsP d Q = (d.noIns = true ∧ Q (.bl d.isPg)) := rfl
@[simp] theorem x_join {d : D} : fJoin (.str x) d Q = items d fun ds => ds.all D.isS = true ∧ ((ds.map D.toS).map (·.length)).sum + (ds.map D.toS).length * x.length ≤ 16777216 ∧ Q (.str (Txt.join x (ds.map D.toS))) := rfl
@[simp] theorem x_split : fSplit (.str x) (.str y) QL = ((y.length == 0) = false ∧ small x.length ∧ QL ((Txt.split x y).map .str)) := rfl
@[simp] theorem x_fmtS : fFmt (.str x) Q = (small x.length ∧ Q (.str x)) := rfl
@[simp] theorem x_fmtI : fFmt (.int i) Q = (i.natAbs.log2 < 1920 ∧ Q (.str (toString i))) := rfl
@[simp] theorem x_pN {a b c : D} : fPN (.prog a b c) Q = Q a := rfl
@[simp] theorem x_pS {a b c : D} : fPS (.prog a b c) Q = Q b := rfl
@[simp] theorem x_pB {a b c : D} : fPB (.prog a b c) Q = Q c := rfl
@[simp] theorem x_prS : D.isPr (.str x) = false := rfl
@[simp] theorem x_prI : D.isPr (.int i) = false := rfl
@[simp] theorem x_prT : D.isPr (.tup ds) = false := rfl
@[simp] theorem x_prL : D.isPr (.lst ds) = false := rfl
@[simp] theorem x_prN : D.isPr .non = false := rfl
@[simp] theorem x_prB {k : Bool} : D.isPr (.bl k) = false := rfl
@[simp] theorem x_prP {a b c : D} : D.isPr (.prog a b c) = true := rfl
@[simp] theorem x_pgP {a b c : D} : D.isPg (.prog a b c) = true := rfl
@[simp] theorem x_niP {a b c : D} : D.noIns (.prog a b c) = true := rfl
@[simp] theorem x_tyS : D.isTy .str (.str x) = true := rfl
@[simp] theorem x_tyT : D.isTy .tuple (.tup ds) = true := rfl
@[simp] theorem x_tyI : D.isTy .int (.int i) = true := rfl
@[simp] theorem x_tyBI : D.isTy .bool (.int i) = false := rfl
@[simp] theorem x_start1 {a : Str} {d : D} : startS [a] [d] = [.val d] := rfl
@[simp] theorem x_isSs : D.isS (.str x) = true := rfl
@[simp] theorem x_toS : D.toS (.str x) = x := rfl
@[simp] theorem x_isII : D.isI (.int i) = true := rfl
@[simp] theorem x_toI : D.toI (.int i) = i := rfl
@[simp] theorem x_isBB {k : Bool} : D.isBl (.bl k) = true := rfl
@[simp] theorem x_toB {k : Bool} : D.toB (.bl k) = k := rfl
end
end DL
set_option maxRecDepth 100000
set_option maxHeartbeats 2000000
/-! What the defs do, over plain data. -/
namespace KK
open PySem PySem.Spec PyProof.Rows L2 DL
abbrev tl (z : Str) : List Nat := z.cps.toList
def dF (f : List Int) : D := .tup (f.map .int)
def dFs (fs : List (List Int)) : D := .tup (fs.map dF)
structure Br where
  src : Str
  tgt : Str
  tests : List (List Int)
  chs : List (List Int)
structure Sy where
  pl : Str
  f : List Int
structure Pt where
  names : List Str
  says : List Sy
  arms : List Br
def dBr (b : Br) : D := .tup [.str b.src, .str b.tgt, dFs b.tests, dFs b.chs]
def dSy (s : Sy) : D := .tup [.str s.pl, dF s.f]
def dNm (ns : List Str) : D := .tup (ns.map .str)
def dSs (ss : List Sy) : D := .tup (ss.map dSy)
def dBs (bs : List Br) : D := .tup (bs.map dBr)
def dPg (p : Pt) : D := .prog (dNm p.names) (dSs p.says) (dBs p.arms)
def dPt (p : Pt) : D := .lst [dNm p.names, dSs p.says, dBs p.arms]
/-- a state: the place, the point -/
structure Sta where
  pl : Str
  pt : List Int
def dSt (s : Sta) : D := .tup [.str s.pl, dF s.pt]
def LET : List Nat := tl "abcdefghijklmnopqrstuvwxyz"
def DIG : List Nat := tl "0123456789"
/-- a name: a letter, then letters and digits, eight signs at the most -/
def NmOk (z : Str) : Prop := ∃ c r, tl z = c :: r ∧ r.length ≤ 7 ∧ c ∈ LET ∧ ∀ d ∈ r, d ∈ LET ∨ d ∈ DIG
def FmOk (m : Nat) (f : List Int) : Prop := f.length = m + 1 ∧ ∀ i ∈ f, -1000000 ≤ i ∧ i ≤ 1000000
structure BrOk (m : Nat) (b : Br) : Prop where
  s : NmOk b.src
  t : NmOk b.tgt
  lt : b.tests.length ≤ 3
  lc : b.chs.length = m
  ft : ∀ f ∈ b.tests, FmOk m f
  fc : ∀ f ∈ b.chs, FmOk m f
structure SyOk (m : Nat) (s : Sy) : Prop where
  p : NmOk s.pl
  f : FmOk m s.f
/-- the items that are not among the earlier ones -/
def dedFrom (seen : List Str) : List Str → List Str
  | [] => []
  | x :: xs => if x ∈ seen then dedFrom (seen ++ [x]) xs else x :: dedFrom (seen ++ [x]) xs
def ded (xs : List Str) : List Str := dedFrom [] xs
def allPl (ss : List Sy) (bs : List Br) : List Str := ss.map Sy.pl ++ bs.flatMap fun b => [b.src, b.tgt]
def plcs (ss : List Sy) (bs : List Br) : List Str := ded (allPl ss bs)
structure PtOk (p : Pt) : Prop where
  n0 : p.names ≠ []
  n3 : p.names.length ≤ 3
  nd : p.names.Nodup
  nn : ∀ z ∈ p.names, NmOk z
  s3 : p.says.length ≤ 3
  ss : ∀ s ∈ p.says, SyOk p.names.length s
  a0 : p.arms ≠ []
  a5 : p.arms.length ≤ 5
  aa : ∀ b ∈ p.arms, BrOk p.names.length b
  pl : (plcs p.says p.arms).length ≤ 3
/-- the form's value at a point -/
def dot : List Int → List Int → Int
  | a :: f, b :: p => a * b + dot f p
  | _, _ => 0
def val (f p : List Int) : Int := dot f p + f.getLastD 0
def blk (b : Br) (p : List Int) : Option Nat := b.tests.findIdx? fun f => decide (val f p < 0)
def mvd (b : Br) (p : List Int) : List Int := b.chs.map fun f => val f p
def free (b : Br) (s : Sta) : Bool := decide (b.src = s.pl) && (blk b s.pt).isNone
/-- ints of a width -/
def wInt (i : Int) : Prop := i.natAbs.log2 < 1900
def words (f : List Int) : Str := Txt.join " " (f.map fun i => ((toString i : String) : Str))
/-! ### the promises -/
def S_is_integer : FS := ⟨0, fun xs P => ∃ x, xs = [x] ∧ x.isPr = false ∧ P (.bl x.isI)⟩
def S_is_name : FS := ⟨0, fun xs P => ∃ z, xs = [.str z] ∧ NmOk z ∧ P (.bl true)⟩
def areInts (x : D) (m : Int) : Bool := match x with
  | .tup ds => decide ((ds.length : Int) = m) && ds.all D.isI
  | _ => false
def noPr (x : D) : Prop := x.isPr = false ∧ ∀ ds, x = .tup ds → small ds.length ∧ ∀ d ∈ ds, d.isPr = false
def S_are_integers : FS := ⟨0, fun xs P => ∃ x m, xs = [x, .int m] ∧ noPr x ∧ P (.bl (areInts x m))⟩
def S_is_form : FS := ⟨0, fun xs P => ∃ f m, xs = [dF f, .int (m : Nat)] ∧ FmOk m f ∧ m ≤ 3 ∧ P (.bl true)⟩
def S_is_saying : FS := ⟨0, fun xs P => ∃ s m, xs = [dSy s, .int (m : Nat)] ∧ SyOk m s ∧ m ≤ 3 ∧ P (.bl true)⟩
def S_is_branch : FS := ⟨0, fun xs P => ∃ b m, xs = [dBr b, .int (m : Nat)] ∧ BrOk m b ∧ m ≤ 3 ∧ P (.bl true)⟩
def S_wrong_name : FS := ⟨0, fun xs P => ∃ ns, xs = [dNm ns] ∧ ns ≠ [] ∧ ns.length ≤ 3 ∧ ns.Nodup ∧ (∀ z ∈ ns, NmOk z) ∧ P .non⟩
def S_wrong_saying : FS := ⟨0, fun xs P => ∃ ss m, xs = [dSs ss, .int (m : Nat)] ∧ m ≤ 3 ∧ ss.length ≤ 3 ∧ (∀ s ∈ ss, SyOk m s) ∧ P .non⟩
def S_places_in : FS := ⟨0, fun xs P => ∃ ss bs, xs = [dSs ss, dBs bs] ∧ ss.length ≤ 3 ∧ bs.length ≤ 5 ∧ P (dNm (plcs ss bs))⟩
def S_wrong_branch : FS := ⟨0, fun xs P => ∃ ss bs m, xs = [dSs ss, dBs bs, .int (m : Nat)] ∧ m ≤ 3 ∧ ss.length ≤ 3 ∧ bs ≠ [] ∧ bs.length ≤ 5 ∧ (∀ b ∈ bs, BrOk m b) ∧ (plcs ss bs).length ≤ 3 ∧ P .non⟩
/-- forms whose texts are short -/
def FmW (f : List Int) : Prop := f.length ≤ 4 ∧ ∀ i ∈ f, -1000000 ≤ i ∧ i ≤ 1000000
def S_form_words : FS := ⟨0, fun xs P => ∃ f, xs = [dF f] ∧ FmW f ∧ P (.str (words f))⟩
def S_value_at : FS := ⟨0, fun xs P => ∃ f p, xs = [dF f, dF p] ∧ f.length = p.length + 1 ∧ p.length ≤ 3 ∧ (∀ i ∈ f, -1000000 ≤ i ∧ i ≤ 1000000) ∧ P (.int (val f p))⟩
def S_blocking : FS := ⟨0, fun xs P => ∃ b p, xs = [dBr b, dF p] ∧ p.length ≤ 3 ∧ BrOk p.length b ∧ P (match blk b p with
  | some i => .int (i : Nat)
  | none => .non)⟩
def S_moved : FS := ⟨0, fun xs P => ∃ b p, xs = [dBr b, dF p] ∧ p.length ≤ 3 ∧ BrOk p.length b ∧ P (dF (mvd b p))⟩
def S_is_free : FS := ⟨0, fun xs P => ∃ b s, xs = [dBr b, .str s.pl, dF s.pt] ∧ s.pt.length ≤ 3 ∧ BrOk s.pt.length b ∧ P (.bl (free b s))⟩
end KK
set_option maxRecDepth 100000
set_option maxHeartbeats 2000000
/-! Small laws for the promises. -/
namespace KK
open PySem PySem.Spec PyProof.Rows L2 DL
abbrev En (P : D → Prop) : DEnds := ⟨fun _ => P .non, fun d _ => P d, fun _ => False, fun _ => False⟩
section
variable {α : Type} {a b c d : α} {r : List α}
@[simp] theorem at0 : atI (a :: r) 0 = some a := by simp [atI, ixN]
@[simp] theorem at1 : atI (a :: b :: r) 1 = some b := by
  have h : (1 : Int) < (r.length : Int) + 1 + 1 := by omega
  simp [atI, ixN, h]
@[simp] theorem at2 : atI (a :: b :: c :: r) 2 = some c := by
  have h : (2 : Int) < (r.length : Int) + 1 + 1 + 1 := by omega
  simp [atI, ixN, h]
@[simp] theorem at3 : atI (a :: b :: c :: d :: r) 3 = some d := by
  have h : (3 : Int) < (r.length : Int) + 1 + 1 + 1 + 1 := by omega
  simp [atI, ixN, h]
theorem atI_natE {xs : List α} {j : Nat} (h : j < xs.length) : atI xs (j : Int) = some xs[j] := atI_nat (by simp [h])
theorem atI_mapE {β : Type} (f : α → β) (xs : List α) (i : Int) : atI (xs.map f) i = (atI xs i).map f := by
  unfold atI
  rw [List.length_map]
  cases ixN xs.length i with
  | none => rfl
  | some j => simp
theorem atI_m1 {xs : List α} (h : xs ≠ []) : atI xs (-1) = some (xs.getLast h) := by
  have hl : 0 < xs.length := List.length_pos_iff.mpr h
  have e : ixN xs.length (-1) = some (xs.length - 1) := by
    unfold ixN
    rw [if_neg (by omega), if_pos (by omega)]
    congr
    omega
  unfold atI
  rw [e]
  simp [List.getLast_eq_getElem]
end
theorem ixN_natE {n j : Nat} (hj : j < n) : ixN n (j : Int) = some j := by
  unfold ixN
  rw [if_pos (by omega), if_pos (by omega)]
  simp
theorem slen {z : Str} : z.length = (tl z).length := by
  show z.cps.size = z.cps.toList.length
  simp
theorem rng_mem {lo : Int} {n : Nat} {d : D} (h : d ∈ D.rng lo n) : ∃ i : Nat, i < n ∧ d = .int (lo + i) := by
  unfold D.rng at h
  obtain ⟨i, hi, e⟩ := List.mem_map.mp h
  exact ⟨i, List.mem_range.mp hi, e.symm⟩
theorem enum_mem : ∀ {n : Nat} {ds : List D} {d : D}, d ∈ D.enumFrom n ds → ∃ (i : Nat) (x : D), ds[i]? = some x ∧ d = .tup [.int ((n + i : Nat) : Int), x]
  | n, [], d, h => by simp [D.enumFrom] at h
  | n, x :: ds, d, h => by
    unfold D.enumFrom at h
    rcases List.mem_cons.mp h with e | h
    · exact ⟨0, x, rfl, by rw [e]; rfl⟩
    · obtain ⟨i, y, e1, e2⟩ := enum_mem h
      exact ⟨i + 1, y, by simpa using e1, by rw [e2]; congr 4; omega⟩
theorem small_le {n : Nat} (h : n ≤ 1000000) : small n := h
/-- the sum over the places is the sum over the pairs -/
theorem dot_range : ∀ (f p : List Int), p.length ≤ f.length → ((List.range p.length).map fun k => f.getD k 0 * p.getD k 0).sum = dot f p
  | f, [], _ => by cases f <;> simp [dot]
  | [], _ :: _, h => by simp at h
  | a :: f, b :: p, h => by
    rw [List.length_cons, List.range_succ_eq_map]
    simp only [List.map_cons, List.map_map, List.sum_cons]
    have e := dot_range f p (by simpa using h)
    unfold dot
    rw [← e]
    congr 1
theorem getLastD_get {f : List Int} {n : Nat} (h : f.length = n + 1) : f.getLastD 0 = f.getD n 0 := by
  have h0 : f ≠ [] := fun e => by rw [e] at h; cases h
  rw [List.getLastD_eq_getLast?, List.getLast?_eq_getElem?, h]
  simp [List.getD]
theorem imul_small {i j : Int} (h : -1000000 ≤ i ∧ i ≤ 1000000) : IntMulOk i j := (show CMul i j from .inl ⟨by omega, by omega⟩).ok
theorem mem_getD {f : List Int} {k : Nat} (h : k < f.length) : f.getD k 0 ∈ f := by
  simp [List.getD, h]
theorem sum_le {α : Type} {f : α → Nat} {k : Nat} : ∀ {l : List α}, (∀ x ∈ l, f x ≤ k) → (l.map f).sum ≤ l.length * k
  | [], _ => by simp
  | x :: l, h => by
    have e := sum_le (l := l) fun y hy => h y (by simp [hy])
    have e1 := h x (by simp)
    rw [List.map_cons, List.sum_cons, List.length_cons, Nat.add_mul]
    omega
/-- the text of an int -/
abbrev iTx (i : Int) : Str := ((toString i : String) : Str)
theorem iTx_len {i : Int} (h : -1000000 ≤ i ∧ i ≤ 1000000) : (iTx i).length ≤ 8 := by
  have e := int_text_length_le10 (a := i) (k := 7) (by decide) (by omega)
  show (Str.ofString (toString i)).length ≤ 8
  rw [PySem.ofString_length]
  exact e
theorem log_small {i : Int} (h : -1000000 ≤ i ∧ i ≤ 1000000) : i.natAbs.log2 < 1920 := by
  have h1 : i.natAbs < 2 ^ 20 := by omega
  by_cases h0 : i.natAbs = 0
  · rw [h0]; decide
  · have := (Nat.log2_lt h0).mpr h1
    omega
theorem cut_to {α : Type} (xs : List α) {i : Nat} (h : i ≤ xs.length) : DL.cutD xs none (some (i : Int)) = xs.take i := by
  unfold DL.cutD
  rw [HT.sIx_none, HT.sIx_nat, Nat.min_eq_left h]
  simp
theorem inF_strs (x : Str) (l : List Str) : (D.str x).inF (l.map D.str) = decide (x ∈ l) := by
  induction l with
  | nil => simp [D.inF]
  | cons y l ih =>
    unfold D.inF at ih ⊢
    rw [List.map_cons, List.any_cons, ih]
    by_cases h : y = x
    · simp [D.eqF, h]
    · have h' : ¬ x = y := fun e => h e.symm
      simp [D.eqF, h, h']
theorem in_strs {neg : Bool} {x : Str} {l : List Str} {Q : D → Prop} (d : D) (hd : d = .tup (l.map .str) ∨ d = .lst (l.map .str)) (h : Q (.bl (if neg then !decide (x ∈ l) else decide (x ∈ l)))) : fIn neg (.str x) d Q := by
  have a1 : (l.map D.str).all D.flat = true := by
    rw [List.all_map]
    exact List.all_eq_true.mpr fun _ _ => rfl
  have a2 : ((l.map D.str).all fun y => y.kin (.str x)) = true := by
    rw [List.all_map]
    exact List.all_eq_true.mpr fun _ _ => rfl
  unfold fIn
  rcases hd with e | e
  · rw [e]
    exact ⟨rfl, a1, a2, by rw [inF_strs]; exact h⟩
  · rw [e]
    exact ⟨rfl, a1, a2, by rw [inF_strs]; exact h⟩
/-- the items that are not among the earlier ones, by their places -/
def newAt (xs : List Str) (d : D) : Option D := match d with
  | .tup [.int i, .str x] => if x ∈ xs.take i.toNat then none else some (.str x)
  | _ => none
theorem ded_at (xs : List Str) : ∀ (seen rest : List Str), xs = seen ++ rest → (D.enumFrom seen.length (rest.map .str)).filterMap (newAt xs) = (dedFrom seen rest).map .str
  | seen, [], _ => rfl
  | seen, x :: rest, e => by
    rw [List.map_cons]
    unfold D.enumFrom dedFrom
    have e2 : xs = (seen ++ [x]) ++ rest := by rw [e]; simp
    have ih := ded_at xs (seen ++ [x]) rest e2
    rw [List.length_append, List.length_singleton] at ih
    have e3 : xs.take ((seen.length : Nat) : Int).toNat = seen := by rw [e]; simp
    rw [List.filterMap_cons, ih]
    have e4 : newAt xs (.tup [.int (seen.length : Nat), .str x]) = if x ∈ seen then none else some (.str x) := by
      show (if x ∈ xs.take ((seen.length : Nat) : Int).toNat then none else some (D.str x)) = _
      rw [e3]
    rw [e4]
    by_cases h : x ∈ seen <;> simp [h]
theorem ded_eq (xs : List Str) : (D.enumFrom 0 (xs.map .str)).filterMap (newAt xs) = (ded xs).map .str := ded_at xs [] xs rfl
end KK
set_option maxRecDepth 100000
/-! Readings, printed by gen.py. -/
namespace KK
open PySem PySem.Spec PyProof.Rows L2 DL
def t_is_integer : DS := (dRet (dAndV (dUn (fIsi .int) (dVar 0)) (dNotV (dUn (fIsi .bool) (dVar 0)))))
def t_is_name : DS := (dSeq (dIfS (dOr (dNot (dTest (dUn (fIsi .str) (dVar 0)))) (dOr (dNot (dTest (dChain fLe fLe (dC (.int 1)) (dFn (f1 fLen) (dCons (dVar 0) dNil)) (dC (.int 8))))) (dTest (dOp (fInS true) (dOp fIx (dVar 0) (dC (.int 0))) (dC (.str "abcdefghijklmnopqrstuvwxyz")))))) (dRet (dC (.bl false))) dNext)
    (dRet (dFn (f1 fAll) (dCons (dL (dLc (dItS (dVar 0)) (dgName 1) dYes (dOrV (dOp (fInS false) (dVar 1) (dC (.str "abcdefghijklmnopqrstuvwxyz"))) (dOp (fInS false) (dVar 1) (dC (.str "0123456789")))) [1])) dNil))))
def t_are_integers : DS := (dRet (dAndV (dUn (fIsi .tuple) (dVar 0)) (dAndV (dOp fEq (dFn (f1 fLen) (dCons (dVar 0) dNil)) (dVar 1)) (dFn (f1 fAll) (dCons (dL (dLc (dItT (dVar 0)) (dgName 2) dYes (dCall S_is_integer (dCons (dVar 2) dNil)) [2])) dNil)))))
def t_is_form : DS := (dRet (dAndV (dCall S_are_integers (dCons (dVar 0) (dCons (dOp fAdd (dVar 1) (dC (.int 1))) dNil))) (dFn (f1 fAll) (dCons (dL (dLc (dItT (dVar 0)) (dgName 2) dYes (dOp fLe (dFn (f1 fAbs) (dCons (dVar 2) dNil)) (dC (.int 1000000))) [2])) dNil))))
def t_is_saying : DS := (dSeq (dIfS (dOr (dNot (dTest (dUn (fIsi .tuple) (dVar 0)))) (dTest (dOp fNe (dFn (f1 fLen) (dCons (dVar 0) dNil)) (dC (.int 2))))) (dRet (dC (.bl false))) dNext)
    (dRet (dAndV (dCall S_is_name (dCons (dOp fIx (dVar 0) (dC (.int 0))) dNil)) (dCall S_is_form (dCons (dOp fIx (dVar 0) (dC (.int 1))) (dCons (dVar 1) dNil))))))
def t_is_branch : DS := (dSeq (dIfS (dOr (dNot (dTest (dUn (fIsi .tuple) (dVar 0)))) (dOr (dTest (dOp fNe (dFn (f1 fLen) (dCons (dVar 0) dNil)) (dC (.int 4)))) (dOr (dNot (dTest (dCall S_is_name (dCons (dOp fIx (dVar 0) (dC (.int 0))) dNil)))) (dNot (dTest (dCall S_is_name (dCons (dOp fIx (dVar 0) (dC (.int 1))) dNil))))))) (dRet (dC (.bl false))) dNext)
    (dSeq (dIfS (dOr (dNot (dTest (dUn (fIsi .tuple) (dOp fIx (dVar 0) (dC (.int 2)))))) (dNot (dTest (dUn (fIsi .tuple) (dOp fIx (dVar 0) (dC (.int 3))))))) (dRet (dC (.bl false))) dNext)
    (dSeq (dIfS (dOr (dTest (dOp fGt (dFn (f1 fLen) (dCons (dOp fIx (dVar 0) (dC (.int 2))) dNil)) (dC (.int 3)))) (dTest (dOp fNe (dFn (f1 fLen) (dCons (dOp fIx (dVar 0) (dC (.int 3))) dNil)) (dVar 1)))) (dRet (dC (.bl false))) dNext)
    (dRet (dFn (f1 fAll) (dCons (dL (dLc (dItT (dTup (dStar (dOp fIx (dVar 0) (dC (.int 2))) (dStar (dOp fIx (dVar 0) (dC (.int 3))) dNil)))) (dgName 2) dYes (dCall S_is_form (dCons (dVar 2) (dCons (dVar 1) dNil))) [2])) dNil))))))
def t_wrong_name : DS := (dSeq (dIfS (dOr (dNot (dTest (dUn (fIsi .tuple) (dVar 0)))) (dTest (dOp fEq (dFn (f1 fLen) (dCons (dVar 0) dNil)) (dC (.int 0))))) (dRet (dUn fNeg (dC (.int 1)))) dNext)
    (dSeq (dFor (dEnT (dCons (dVar 0) dNil)) (dgTup [1, 2]) (dIfS (dOr (dTest (dOp fEq (dVar 1) (dC (.int 3)))) (dOr (dNot (dTest (dCall S_is_name (dCons (dVar 2) dNil)))) (dTest (dOp (fIn false) (dVar 2) (dSl fSlT (dVar 0) dOn (dOs (dVar 1))))))) (dRet (dVar 1)) dNext))
    (dRet (dC .non))))
def t_wrong_saying : DS := (dSeq (dIfS (dNot (dTest (dUn (fIsi .tuple) (dVar 0)))) (dRet (dUn fNeg (dC (.int 1)))) dNext)
    (dSeq (dFor (dEnT (dCons (dVar 0) dNil)) (dgTup [2, 3]) (dIfS (dOr (dTest (dOp fEq (dVar 2) (dC (.int 3)))) (dNot (dTest (dCall S_is_saying (dCons (dVar 3) (dCons (dVar 1) dNil)))))) (dRet (dVar 2)) dNext))
    (dRet (dC .non))))
def t_places_in : DS := (dSeq (dSetO 2 (dLst dNil))
    (dSeq (dFor (dItT (dVar 0)) (dgTup [3, 4]) (dApp 2 (dVar 3)))
    (dSeq (dFor (dItT (dVar 1)) (dgTup [5, 6, 7, 8]) (dExt 2 (dL (dLst (dCons (dVar 5) (dCons (dVar 6) dNil))))))
    (dFz 2 (dRet (dFn (f1 fTuple) (dCons (dL (dLc (dEnL (dCons (dVar 2) dNil)) (dgTup [9, 3]) (dTest (dOp (fIn true) (dVar 3) (dL (dSlL (dVar 2) dOn (dOs (dVar 9)))))) (dVar 3) [9, 3])) dNil)))))))
def t_wrong_branch : DS := (dSeq (dIfS (dOr (dNot (dTest (dUn (fIsi .tuple) (dVar 1)))) (dTest (dOp fEq (dFn (f1 fLen) (dCons (dVar 1) dNil)) (dC (.int 0))))) (dRet (dUn fNeg (dC (.int 1)))) dNext)
    (dSeq (dFor (dEnT (dCons (dVar 1) dNil)) (dgTup [3, 4]) (dSeq (dIfS (dOr (dTest (dOp fEq (dVar 3) (dC (.int 5)))) (dNot (dTest (dCall S_is_branch (dCons (dVar 4) (dCons (dVar 2) dNil)))))) (dRet (dVar 3)) dNext)
    (dIfS (dTest (dOp fGt (dFn (f1 fLen) (dCons (dCall S_places_in (dCons (dVar 0) (dCons (dSl fSlT (dVar 1) dOn (dOs (dOp fAdd (dVar 3) (dC (.int 1))))) dNil))) dNil)) (dC (.int 3)))) (dRet (dVar 3)) dNext)))
    (dRet (dC .non))))
def t_form_words : DS := (dRet (dM1 fJoin (dC (.str " ")) (dL (dLc (dItT (dVar 0)) (dgName 1) dYes (dFn (f1 fStrI) (dCons (dVar 1) dNil)) [1]))))
def t_value_at : DS := (dRet (dOp fAdd (dFn (f1 fSum) (dCons (dL (dLc (dRng1 (dCons (dFn (f1 fLen) (dCons (dVar 1) dNil)) dNil)) (dgName 2) dYes (dOp fMul (dOp fIx (dVar 0) (dVar 2)) (dOp fIx (dVar 1) (dVar 2))) [2])) dNil)) (dOp fIx (dVar 0) (dFn (f1 fLen) (dCons (dVar 1) dNil)))))
def t_blocking : DS := (dSeq (dFor (dEnT (dCons (dOp fIx (dVar 0) (dC (.int 2))) dNil)) (dgTup [2, 3]) (dIfS (dTest (dOp fLt (dCall S_value_at (dCons (dVar 3) (dCons (dVar 1) dNil))) (dC (.int 0)))) (dRet (dVar 2)) dNext))
    (dRet (dC .non)))
def t_moved : DS := (dRet (dFn (f1 fTuple) (dCons (dL (dLc (dItT (dOp fIx (dVar 0) (dC (.int 3)))) (dgName 2) dYes (dCall S_value_at (dCons (dVar 2) (dCons (dVar 1) dNil))) [2])) dNil)))
def t_is_free : DS := (dRet (dAndV (dOp fEq (dOp fIx (dVar 0) (dC (.int 0))) (dVar 1)) (dOp fIs (dCall S_blocking (dCons (dVar 0) (dCons (dVar 2) dNil))) (dC .non))))
end KK
set_option maxRecDepth 100000
set_option maxHeartbeats 2000000
namespace KK
open PySem PySem.Spec PyProof.Rows L2 DL
theorem all_true {α : Type} {xs : List α} : (xs.map fun _ => D.bl true).all D.toB = true := by
  rw [List.all_map]
  simp [Function.comp_def]
theorem all_bl {α : Type} {xs : List α} {f : α → Bool} : ∀ x ∈ xs.map fun a => D.bl (f a), x.isBl = true := fun x hx => by
  obtain ⟨a, _, rfl⟩ := List.mem_map.mp hx
  rfl
theorem d_is_integer (xs : List D) (P : D → Prop) (h : S_is_integer.f xs P) : t_is_integer.f (En P) (startS ["value"] xs) := by
  obtain ⟨x, rfl, h1, h2⟩ := h
  simp [t_is_integer, h1]
  cases x <;> simp_all [D.isTy, D.isI]
theorem d_is_name (xs : List D) (P : D → Prop) (h : S_is_name.f xs P) : t_is_name.f (En P) (startS ["value", "sign"] xs) := by
  obtain ⟨z, rfl, ⟨c, r, hc, hr, h1, h2⟩, h3⟩ := h
  have hl : z.length = r.length + 1 := by rw [slen, hc]; rfl
  have hs : small z.length := by unfold small; omega
  have h8 : (z.length : Int) ≤ 8 := by omega
  have h10 : (1 : Int) ≤ z.length := by omega
  have h1' : c ∈ (Str.ofString "abcdefghijklmnopqrstuvwxyz").cps := by simpa [LET, tl] using h1
  have hc' : z.cps.toList = c :: r := hc
  have hd : D.signs z = (c :: r).map fun n => .str ⟨#[n]⟩ := by unfold D.signs; rw [hc']
  simp [t_is_name, startS, hs, h8, h10, fInS, hc', h1', hd]
  refine ⟨small_le (by omega), lc_map (fun _ => .bl true) _ (fun d hd Kk hK => ?_) ?_⟩
  · have : ∃ n, n ∈ c :: r ∧ d = .str ⟨#[n]⟩ := by simpa [eq_comm] using hd
    obtain ⟨n, hn, rfl⟩ := this
    have : n ∈ LET ∨ n ∈ DIG := by
      rcases List.mem_cons.mp hn with e | e
      · subst e; exact .inl h1
      · exact h2 n e
    by_cases q : n ∈ LET
    · have : n ∈ (Str.ofString "abcdefghijklmnopqrstuvwxyz").cps := by simpa [LET, tl] using q
      simp [fInS, this, hK]
    · have q1 : n ∉ (Str.ofString "abcdefghijklmnopqrstuvwxyz").cps := by simpa [LET, tl] using q
      have q2 : n ∈ (Str.ofString "0123456789").cps := by simpa [DIG, tl] using this.resolve_left q
      simp [fInS, q1, q2, hK]
  · refine ⟨all_bl, ?_⟩
    rw [all_true]
    exact h3
theorem d_are_integers (xs : List D) (P : D → Prop) (h : S_are_integers.f xs P) : t_are_integers.f (En P) (startS ["value", "many", "part"] xs) := by
  obtain ⟨x, m, rfl, ⟨h1, h2⟩, h3⟩ := h
  cases x with
  | tup ds =>
    obtain ⟨h4, h5⟩ := h2 ds rfl
    unfold areInts at h3
    simp [t_are_integers, startS]
    by_cases q : (ds.length : Int) = m
    · simp [q, h4]
      refine lc_map (fun d => .bl d.isI) _ (fun d hd Kk hK => ?_) ?_
      · simp [S_is_integer, h5 d hd]
        exact hK
      · simp [q] at h3
        simp [D.isBl, D.toB, List.all_map]
        simpa [Function.comp_def, D.toB] using h3
    · simp [q] at h3 ⊢
      exact h3
  | prog _ _ _ => cases h1
  | _ => simpa [t_are_integers, startS, D.isTy, h1, areInts] using h3
theorem d_value_at (xs : List D) (P : D → Prop) (h : S_value_at.f xs P) : t_value_at.f (En P) (startS ["form", "point", "k"] xs) := by
  obtain ⟨f, p, rfl, h1, h2, h3, h4⟩ := h
  simp [t_value_at, startS, dF, rng_len]
  refine ⟨by omega, small_le (by omega), lc_map (fun d => .int (f.getD d.toI.toNat 0 * p.getD d.toI.toNat 0)) _ (fun d hd Kk hK => ?_) ?_⟩
  · obtain ⟨i, hi, rfl⟩ := rng_mem hd
    simp only [Int.zero_add] at hK ⊢
    have e1 : atI f (i : Int) = some (f.getD i 0) := by rw [atI_natE (by omega)]; simp [List.getD, show i < f.length by omega]
    have e2 : atI p (i : Int) = some (p.getD i 0) := by rw [atI_natE hi]; simp [List.getD, hi]
    simp [atI_mapE, e1, e2]
    exact ⟨imul_small (h3 _ (mem_getD (by omega))), by simpa using hK⟩
  · refine ⟨fun x hx => ?_, .int (f.getD p.length 0), ?_, ?_⟩
    · obtain ⟨d, _, rfl⟩ := List.mem_map.mp hx
      rfl
    · rw [atI_mapE, atI_natE (by omega)]
      simp [List.getD, show p.length < f.length by omega]
    · have e : (List.map D.toI (List.map (fun d => D.int (f.getD d.toI.toNat 0 * p.getD d.toI.toNat 0)) (D.rng 0 p.length))).sum = dot f p := by
        rw [← dot_range f p (by omega)]
        unfold D.rng
        simp only [List.map_map]
        congr 1
        refine List.map_congr_left fun i _ => ?_
        simp
      rw [e, ← getLastD_get h1]
      exact h4
theorem d_is_form (xs : List D) (P : D → Prop) (h : S_is_form.f xs P) : t_is_form.f (En P) (startS ["value", "many", "part"] xs) := by
  obtain ⟨f, m, rfl, ⟨h1, h2⟩, hm, h3⟩ := h
  simp only [t_is_form, startS, S_are_integers]
  simp [startS, dF]
  refine ⟨_, _, ⟨rfl, rfl⟩, ⟨rfl, fun ds e => ?_⟩, ?_⟩
  · cases e
    refine ⟨small_le (by rw [List.length_map]; omega), fun d hd => ?_⟩
    obtain ⟨i, _, rfl⟩ := List.mem_map.mp hd
    rfl
  · have e : areInts (D.tup (f.map D.int)) ((m : Int) + 1) = true := by
      unfold areInts
      simp [h1]
    simp [e]
    refine ⟨small_le (by omega), lc_map (fun _ => .bl true) _ (fun d hd Kk hK => ?_) ?_⟩
    · obtain ⟨i, hi, rfl⟩ := List.mem_map.mp hd
      have := h2 i hi
      have e : decide ((if i < 0 then -i else i) ≤ 1000000) = true := by
        apply decide_eq_true
        split <;> omega
      simp [e, hK]
    · refine ⟨all_bl, ?_⟩
      rw [all_true]
      exact h3
theorem d_is_saying (xs : List D) (P : D → Prop) (h : S_is_saying.f xs P) : t_is_saying.f (En P) (startS ["value", "many"] xs) := by
  obtain ⟨s, m, rfl, ⟨h1, h2⟩, hm, h3⟩ := h
  simp [t_is_saying, startS, dSy, S_is_name, S_is_form]
  exact ⟨h1, s.f, m, ⟨rfl, rfl⟩, h2, hm, h3⟩
theorem d_is_branch (xs : List D) (P : D → Prop) (h : S_is_branch.f xs P) : t_is_branch.f (En P) (startS ["value", "many", "form"] xs) := by
  obtain ⟨b, m, rfl, ⟨h1, h2, h3, h4, h5, h6⟩, hm, h7⟩ := h
  have q3 : ¬ (3 : Int) < b.tests.length := by omega
  simp [t_is_branch, startS, dBr, S_is_name, dFs]
  refine ⟨h1, h2, ?_⟩
  simp [q3, h4]
  refine ⟨small_le (by omega), lc_map (fun _ => .bl true) _ (fun d hd Kk hK => ?_) ?_⟩
  · have : ∃ f, FmOk m f ∧ d = dF f := by
      rcases List.mem_append.mp hd with hd | hd
      · obtain ⟨f, hf, rfl⟩ := List.mem_map.mp hd
        exact ⟨f, h5 f hf, rfl⟩
      · obtain ⟨f, hf, rfl⟩ := List.mem_map.mp hd
        exact ⟨f, h6 f hf, rfl⟩
    obtain ⟨f, hf, rfl⟩ := this
    simp [S_is_form]
    exact ⟨f, m, ⟨rfl, rfl⟩, hf, hm, hK⟩
  · refine ⟨all_bl, ?_⟩
    rw [all_true]
    exact h7
theorem d_blocking (xs : List D) (P : D → Prop) (h : S_blocking.f xs P) : t_blocking.f (En P) (startS ["branch", "point", "at", "form"] xs) := by
  obtain ⟨b, p, rfl, h1, h2, h3⟩ := h
  simp [t_blocking, startS, dF, dBr, dFs]
  refine ⟨small_le (by rw [enum_len]; have := h2.lt; simp; omega), ?_⟩
  -- the turns, from any place on
  have key : ∀ (ts : List (List Int)) (n : Nat) (u v : Sl), (∀ f ∈ ts, FmOk p.length f) → P (match ts.findIdx? fun f => decide (val f p < 0) with
    | some i => D.int ((n + i : Nat) : Int)
    | none => D.non) → forD (dgTup [2, 3]) (dIfS (dTest (dOp fLt (dCall S_value_at (dCons (dVar 3) (dCons (dVar 1) dNil))) (dC (D.int 0)))) (dRet (dVar 2)) dNext)
      (D.enumFrom n (ts.map dF)) { nx := (dRet (dC D.non)).f (En P), rt := fun d x => P d } [Sl.val (dBr b), Sl.val (dF p), u, v] := by
    intro ts
    induction ts with
    | nil =>
      intro n u v _ hP
      simpa [D.enumFrom, forD] using hP
    | cons f ts ih =>
      intro n u v hf hP
      obtain ⟨q1, q2⟩ := hf f (by simp)
      simp [D.enumFrom, forD, S_value_at]
      refine ⟨f, p, ⟨rfl, rfl⟩, q1, h1, q2, ?_⟩
      rw [List.findIdx?_cons] at hP
      by_cases hv : val f p < 0
      · simp [hv] at hP ⊢
        simpa using hP
      · simp [hv] at hP ⊢
        refine ih (n + 1) _ _ (fun g hg => hf g (by simp [hg])) ?_
        cases e : ts.findIdx? fun f => decide (val f p < 0) with
        | none => simpa [e] using hP
        | some i =>
          simp [e] at hP ⊢
          have : ((n : Int) + 1 + i) = n + (i + 1) := by omega
          rw [this]
          exact hP
  unfold blk at h3
  have := key b.tests 0 .no .no h2.ft (by simp only [Nat.zero_add]; exact h3)
  simpa [dF, dBr, dFs] using this
theorem d_moved (xs : List D) (P : D → Prop) (h : S_moved.f xs P) : t_moved.f (En P) (startS ["branch", "point", "form"] xs) := by
  obtain ⟨b, p, rfl, h1, h2, h3⟩ := h
  simp [t_moved, startS, dBr, dFs]
  refine ⟨small_le (by have := h2.lc; omega), lc_map (fun d => .int (val (match d with | .tup ds => ds.map D.toI | _ => []) p)) _ (fun d hd Kk hK => ?_) ?_⟩
  · obtain ⟨f, hf, rfl⟩ := List.mem_map.mp hd
    obtain ⟨q1, q2⟩ := h2.fc f hf
    simp [S_value_at]
    refine ⟨f, p, ⟨rfl, rfl⟩, q1, h1, q2, ?_⟩
    simpa [dF, Function.comp_def] using hK
  · have e : (b.chs.map dF).map (fun d => D.int (val (match d with | .tup ds => ds.map D.toI | _ => []) p)) = (mvd b p).map D.int := by
      unfold mvd
      simp [dF, Function.comp_def]
    rw [e]
    exact h3
theorem d_is_free (xs : List D) (P : D → Prop) (h : S_is_free.f xs P) : t_is_free.f (En P) (startS ["branch", "place", "point"] xs) := by
  obtain ⟨b, s, rfl, h1, h2, h3⟩ := h
  simp [t_is_free, startS, dBr]
  unfold free at h3
  by_cases q : b.src = s.pl
  · simp [q, S_blocking]
    refine ⟨b, s.pt, ⟨by simp [dBr, q], rfl⟩, h1, h2, ?_⟩
    cases e : blk b s.pt with
    | none => simpa [q, e] using h3
    | some i => simpa [q, e] using h3
  · simpa [q] using h3
theorem d_form_words (xs : List D) (P : D → Prop) (h : S_form_words.f xs P) : t_form_words.f (En P) (startS ["form", "part"] xs) := by
  obtain ⟨f, rfl, ⟨h1, h2⟩, h3⟩ := h
  simp [t_form_words, startS, dF]
  refine ⟨small_le (by omega), lc_map (fun d => .str (iTx d.toI)) _ (fun d hd Kk hK => ?_) ?_⟩
  · obtain ⟨i, hi, rfl⟩ := List.mem_map.mp hd
    simp
    exact ⟨log_small (h2 i hi), hK⟩
  · have e : ((f.map D.int).map fun d => D.str (iTx d.toI)).map D.toS = f.map iTx := by simp [Function.comp_def]
    rw [e]
    refine ⟨fun x hx => ?_, ?_, h3⟩
    · obtain ⟨d, _, rfl⟩ := List.mem_map.mp hx
      rfl
    · have := sum_le (f := fun x : Str => x.length) (k := 8) (l := f.map iTx) fun x hx => by
        obtain ⟨i, hi, rfl⟩ := List.mem_map.mp hx
        exact iTx_len (h2 i hi)
      rw [List.length_map] at this ⊢
      have e1 : (Str.ofString " ").length = 1 := by decide
      rw [e1]
      simp only [List.map_map, List.length_map] at this ⊢
      have ef : (((fun x : Str => x.length) ∘ D.toS) ∘ (fun d => D.str (iTx d.toI)) ∘ D.int) = ((fun x : Str => x.length) ∘ iTx) := rfl
      rw [ef]
      omega
theorem d_wrong_saying (xs : List D) (P : D → Prop) (h : S_wrong_saying.f xs P) : t_wrong_saying.f (En P) (startS ["value", "many", "at", "saying"] xs) := by
  obtain ⟨ss, m, rfl, h1, h2, h3, h4⟩ := h
  simp [t_wrong_saying, startS, dSs, enum_len]
  refine ⟨small_le (by omega), for_inv (fun i s => ∃ u v, s = [.val (dSs ss), .val (.int m), u, v]) _ 0 _ ⟨_, _, rfl⟩ (fun i d hd s hs N hN => ?_) fun s hs => ?_⟩
  · obtain ⟨u, v, rfl⟩ := hs
    have hi : i < ss.length := by
      have := (List.getElem?_eq_some_iff.mp hd).1
      simpa [enum_len] using this
    have e := enum_get 0 (ss.map dSy) i (dSy ss[i]) (by simp [hi])
    rw [e] at hd
    cases hd
    simp
    have q : ¬ ((i : Int) = 3) := by omega
    simp [q, S_is_saying]
    exact ⟨ss[i], m, ⟨rfl, rfl⟩, h3 _ (by simp), h1, hN _ ⟨_, _, rfl⟩⟩
  · obtain ⟨u, v, rfl⟩ := hs
    exact h4
theorem d_wrong_name (xs : List D) (P : D → Prop) (h : S_wrong_name.f xs P) : t_wrong_name.f (En P) (startS ["value", "at", "name"] xs) := by
  obtain ⟨ns, rfl, h0, h1, h2, h3, h4⟩ := h
  have hl : ¬ ns.length = 0 := fun e => h0 (List.length_eq_zero_iff.mp e)
  have hl' : ¬ (ns.length : Int) = 0 := by omega
  simp [t_wrong_name, startS, dNm, enum_len, hl', h0]
  refine ⟨small_le (by omega), for_inv (fun i s => ∃ u v, s = [.val (dNm ns), u, v]) _ 0 _ ⟨_, _, rfl⟩ (fun i d hd s hs N hN => ?_) fun s hs => ?_⟩
  · obtain ⟨u, v, rfl⟩ := hs
    have hi : i < ns.length := by
      have := (List.getElem?_eq_some_iff.mp hd).1
      simpa [enum_len] using this
    have e := enum_get 0 (ns.map .str) i (.str ns[i]) (by simp [hi])
    rw [e] at hd
    cases hd
    simp
    have q : ¬ ((i : Int) = 3) := by omega
    have q2 : ns[i] ∉ ns.take i := fun hm => by
      obtain ⟨j, hj, e⟩ := List.mem_iff_getElem.mp hm
      rw [List.length_take] at hj
      rw [List.getElem_take] at e
      have := (List.getElem_inj h2).mp e
      omega
    simp [q, S_is_name, h3 _ (List.getElem_mem hi)]
    rw [show dNm ns = .tup (ns.map .str) from rfl]
    simp
    rw [cut_to _ (by simp; omega), ← List.map_take]
    refine in_strs (l := ns.take i) _ (.inl rfl) ?_
    simp [q2]
    exact hN _ ⟨_, _, rfl⟩
  · obtain ⟨u, v, rfl⟩ := hs
    exact h4
theorem allPl_succ {ss : List Sy} {bs : List Br} {i : Nat} (hi : i < bs.length) : allPl ss (bs.take (i + 1)) = allPl ss (bs.take i) ++ [bs[i].src, bs[i].tgt] := by
  unfold allPl
  rw [List.take_succ_eq_append_getElem hi, List.flatMap_append, List.append_assoc]
  rfl
theorem d_places_in (xs : List D) (P : D → Prop) (h : S_places_in.f xs P) : t_places_in.f (En P) (startS ["sayings", "branches", "found", "place", "form", "source", "target", "tests", "changes", "at"] xs) := by
  obtain ⟨ss, bs, rfl, h1, h2, h3⟩ := h
  simp [t_places_in, startS, dSs]
  refine ⟨small_le (by omega), small_le (by omega), for_inv (fun i s => ∃ u v, s = [.val (dSs ss), .val (dBs bs), .own ((ss.take i).map fun s => .str s.pl), u, v, .no, .no, .no, .no, .no]) _ 0 _ ⟨_, _, rfl⟩ (fun i d hd s hs N hN => ?_) fun s hs => ?_⟩
  · obtain ⟨u, v, rfl⟩ := hs
    have hi : i < ss.length := by
      have := (List.getElem?_eq_some_iff.mp hd).1
      simpa using this
    have e : d = dSy ss[i] := by
      rw [List.getElem?_map, List.getElem?_eq_getElem hi] at hd
      exact (Option.some.inj hd).symm
    subst e
    simp [dSy]
    refine ⟨small_le (by omega), hN _ ⟨.val (.str ss[i].pl), .val (dF ss[i].f), ?_⟩⟩
    rw [Nat.zero_add, List.take_succ_eq_append_getElem hi, List.map_append, List.map_take]
    rfl
  · obtain ⟨u, v, rfl⟩ := hs
    simp [dBs]
    refine ⟨small_le (by omega), for_inv (fun i s => ∃ a b c d, s = [.val (dSs ss), .val (dBs bs), .own ((allPl ss (bs.take i)).map .str), u, v, a, b, c, d, .no]) _ 0 _ ⟨.no, .no, .no, .no, ?_⟩ (fun i d hd s hs N hN => ?_) fun s hs => ?_⟩
    · simp [allPl, dSs, dBs]
    · obtain ⟨a, b, c, d, rfl⟩ := hs
      have hi : i < bs.length := by
        have := (List.getElem?_eq_some_iff.mp hd).1
        simpa using this
      rw [List.getElem?_map, List.getElem?_eq_getElem hi] at hd
      cases hd
      simp [dBr]
      refine ⟨small_le (by decide), ?_, hN _ ⟨.val (.str bs[i].src), .val (.str bs[i].tgt), .val (dFs bs[i].tests), .val (dFs bs[i].chs), ?_⟩⟩
      · refine small_le ?_
        have : (allPl ss (bs.take i)).length ≤ 100 := by
          unfold allPl
          rw [List.length_append, List.length_map, List.length_flatMap]
          have := sum_le (f := fun b : Br => [b.src, b.tgt].length) (k := 2) (l := bs.take i) fun _ _ => by simp
          have e : (bs.take i).length ≤ 5 := by rw [List.length_take]; omega
          simp at this ⊢
          omega
        omega
      · rw [Nat.zero_add, allPl_succ hi]
        simp
    · obtain ⟨a, b, c, d, rfl⟩ := hs
      have e0 : bs.take (0 + (bs.map dBr).length) = bs := by simp
      rw [e0]
      have hal : (allPl ss bs).length ≤ 100 := by
        unfold allPl
        rw [List.length_append, List.length_map, List.length_flatMap]
        have := sum_le (f := fun b : Br => [b.src, b.tgt].length) (k := 2) (l := bs) fun _ _ => by simp
        simp at this ⊢
        omega
      simp [enum_len]
      refine ⟨small_le (by omega), lc_filterMap (newAt (allPl ss bs)) _ _ (fun d hd Kk hK => ?_) ?_⟩
      · obtain ⟨i, x, e1, rfl⟩ := enum_mem hd
        have hi : i < (allPl ss bs).length := by
          have := (List.getElem?_eq_some_iff.mp e1).1
          simpa using this
        rw [List.getElem?_map, List.getElem?_eq_getElem hi] at e1
        cases e1
        simp
        rw [cut_to _ (by simp; omega), ← List.map_take]
        refine in_strs (l := (allPl ss bs).take i) _ (.inr rfl) ?_
        simp [newAt] at hK
        by_cases q : (allPl ss bs)[i] ∈ (allPl ss bs).take i
        · simpa [q] using hK
        · simpa [q] using hK
      · rw [ded_eq]
        exact h3
theorem ded_len : ∀ (seen xs ys : List Str), (dedFrom seen xs).length ≤ (dedFrom seen (xs ++ ys)).length
  | seen, [], ys => Nat.zero_le _
  | seen, x :: xs, ys => by
    rw [List.cons_append]
    unfold dedFrom
    have := ded_len (seen ++ [x]) xs ys
    by_cases h : x ∈ seen
    · rw [if_pos h, if_pos h]; exact this
    · rw [if_neg h, if_neg h, List.length_cons, List.length_cons]; omega
theorem d_wrong_branch (xs : List D) (P : D → Prop) (h : S_wrong_branch.f xs P) : t_wrong_branch.f (En P) (startS ["sayings", "value", "many", "at", "branch"] xs) := by
  obtain ⟨ss, bs, m, rfl, hm, h1, h0, h2, h3, h4, h5⟩ := h
  have hl : ¬ bs.length = 0 := fun e => h0 (List.length_eq_zero_iff.mp e)
  have hl' : ¬ (bs.length : Int) = 0 := by omega
  simp [t_wrong_branch, startS, dBs, enum_len, hl', h0]
  refine ⟨small_le (by omega), for_inv (fun i s => ∃ u v, s = [.val (dSs ss), .val (dBs bs), .val (.int m), u, v]) _ 0 _ ⟨_, _, rfl⟩ (fun i d hd s hs N hN => ?_) fun s hs => ?_⟩
  · obtain ⟨u, v, rfl⟩ := hs
    have hi : i < bs.length := by
      have := (List.getElem?_eq_some_iff.mp hd).1
      simpa [enum_len] using this
    have e := enum_get 0 (bs.map dBr) i (dBr bs[i]) (by simp [hi])
    rw [e] at hd
    cases hd
    simp
    have q : ¬ ((i : Int) = 5) := by omega
    simp [q, S_is_branch]
    refine ⟨bs[i], m, ⟨rfl, rfl⟩, h3 _ (by simp), hm, ?_⟩
    simp [dBs]
    have e1 : ((i : Int) + 1) = ((i + 1 : Nat) : Int) := by omega
    rw [e1, cut_to _ (by simp; omega), ← List.map_take]
    simp [S_places_in]
    refine ⟨ss, bs.take (i + 1), ⟨rfl, by simp [dBs, List.map_take]⟩, h1, by rw [List.length_take]; omega, ?_⟩
    have e2 : (plcs ss (bs.take (i + 1))).length ≤ 3 := by
      refine Nat.le_trans ?_ h4
      unfold plcs ded
      have e3 : allPl ss bs = allPl ss (bs.take (i + 1)) ++ (bs.drop (i + 1)).flatMap fun b => [b.src, b.tgt] := by
        unfold allPl
        rw [List.append_assoc, ← List.flatMap_append, List.take_append_drop]
      rw [e3]
      exact ded_len [] _ _
    have e4 : ¬ (3 : Int) < (plcs ss (bs.take (i + 1))).length := by omega
    simp [dNm, e4]
    exact hN _ ⟨_, _, rfl⟩
  · obtain ⟨u, v, rfl⟩ := hs
    exact h5
end KK
set_option maxRecDepth 100000
set_option maxHeartbeats 2000000
namespace KK
open PySem PySem.Spec PyProof.Rows L2 DL
/-! ### the law's own defs -/
def S__law_cast : FS := ⟨0, fun xs P => ∃ m : Int, xs = [.pail, .int m] ∧ 0 < m ∧ m < 1000000000 ∧ ∀ r : Int, 0 ≤ r → r < m → P (.int r)⟩
def S__law_any_of : FS := ⟨0, fun xs P => ∃ d ds, xs = [.pail, d] ∧ (d = .lst ds ∨ d = .tup ds) ∧ ds ≠ [] ∧ ds.length ≤ 1000 ∧ ∀ x ∈ ds, P x⟩
def S__law_vast : FS := ⟨0, fun xs P => ∃ m : Int, xs = [.pail, .int m] ∧ 0 < m ∧ ∀ r : Int, 0 ≤ r → r < m → P (.int r)⟩
def MENU : List Str := ["x", "y", "a", "b", "k9", "vars", "say", "then", "test", "branch", "abcdefgh", "n", "z0000000", "undo"]
def S__law_tags : FS := ⟨0, fun xs P => ∃ n : Nat, xs = [.pail, .int n] ∧ n ≤ 14 ∧ ∀ zs : List Str, zs.length = n → zs.Nodup → (∀ z ∈ zs, NmOk z) → P (.lst (zs.map .str))⟩
def S__law_words : FS := ⟨0, fun xs P => ∃ f, xs = [dF f] ∧ FmW f ∧ P (.str (words f))⟩
/-- a branch whose texts are short -/
structure BrW (b : Br) : Prop where
  s : b.src.length ≤ 8
  t : b.tgt.length ≤ 8
  lt : b.tests.length ≤ 3
  lc : b.chs.length ≤ 3
  ft : ∀ f ∈ b.tests, FmW f
  fc : ∀ f ∈ b.chs, FmW f
def armL (b : Br) : List Str := [("branch " : Str) ++ b.src ++ (" " : Str) ++ b.tgt] ++ (b.tests.map fun f => ("test " : Str) ++ words f) ++ [("then " : Str) ++ Txt.join "; " (b.chs.map words)]
def S__law_arm_lines : FS := ⟨0, fun xs P => ∃ b, xs = [dBr b] ∧ BrW b ∧ P (.lst ((armL b).map .str))⟩
structure PtW (p : Pt) : Prop where
  n : p.names.length ≤ 3
  nn : ∀ z ∈ p.names, z.length ≤ 8
  s : p.says.length ≤ 3
  ss : ∀ s ∈ p.says, s.pl.length ≤ 8 ∧ FmW s.f
  a : p.arms.length ≤ 5
  aa : ∀ b ∈ p.arms, BrW b
def ptL (p : Pt) : List Str := [("vars " : Str) ++ Txt.join " " p.names] ++ (p.says.map fun s => ("say " : Str) ++ s.pl ++ (" " : Str) ++ words s.f) ++ p.arms.flatMap armL
def S__law_lines : FS := ⟨0, fun xs P => ∃ p, xs = [dPt p] ∧ PtW p ∧ P (.lst ((ptL p).map .str))⟩
def S__law_sheet : FS := ⟨0, fun xs P => ∃ p, xs = [dPt p] ∧ PtW p ∧ P (.str (Txt.join "\n" (ptL p)))⟩
def S__law_spots : FS := ⟨0, fun xs P => ∃ p, xs = [dPt p] ∧ p.says.length ≤ 3 ∧ p.arms.length ≤ 5 ∧ ∀ zs : List Str, zs.length ≤ 100 → (∀ z, z ∈ zs ↔ z ∈ allPl p.says p.arms) → P (.tup (zs.map .str))⟩
def unit (s : Nat) (a : Int) : List Int := (List.range (s + 1)).map fun (k : Nat) => if (k : Int) = a then 1 else 0
def S__law_unit : FS := ⟨0, fun xs P => ∃ (s : Nat) (a : Int), xs = [.int s, .int a] ∧ s ≤ 3 ∧ P (dF (unit s a))⟩
def S__law_shift : FS := ⟨0, fun xs P => ∃ (f : List Int) (b : Int), xs = [dF f, .int b] ∧ f ≠ [] ∧ f.length ≤ 100 ∧ P (dF (f.dropLast ++ [f.getLastD 0 + b]))⟩
/-- forms of small ints -/
def FmS (m : Nat) (f : List Int) : Prop := f.length = m + 1 ∧ ∀ i ∈ f, -10 ≤ i ∧ i ≤ 10
def S__law_little : FS := ⟨0, fun xs P => ∃ s : Nat, xs = [.pail, .int s] ∧ s ≤ 3 ∧ ∀ f, FmS s f → P (dF f)⟩
def S__law_ask : FS := ⟨0, fun xs P => ∃ (s : Nat) (a : Int), xs = [.pail, .int s, .int a] ∧ 1 ≤ s ∧ s ≤ 3 ∧ ∀ f, FmS s f → P (dF f)⟩
def S__law_turn : FS := S__law_ask
structure BrS (m : Nat) (sp : List Str) (b : Br) : Prop where
  s : b.src ∈ sp
  t : b.tgt ∈ sp
  lt : b.tests.length ≤ 2
  lc : b.chs.length = m
  ft : ∀ f ∈ b.tests, FmS m f
  fc : ∀ f ∈ b.chs, FmS m f
def S__law_arm : FS := ⟨0, fun xs P => ∃ (s : Nat) (sp : List Str), xs = [.pail, .int s, .lst (sp.map .str)] ∧ 1 ≤ s ∧ s ≤ 3 ∧ sp ≠ [] ∧ sp.length ≤ 20 ∧ ∀ b, BrS s sp b → P (dBr b)⟩
/-- parts as the law draws them -/
structure PtS (p : Pt) : Prop where
  n0 : 1 ≤ p.names.length
  n2 : p.names.length ≤ 2
  nd : p.names.Nodup
  nn : ∀ z ∈ p.names, NmOk z
  sp : ∃ sp : List Str, sp ≠ [] ∧ sp.length ≤ 3 ∧ sp.Nodup ∧ (∀ z ∈ sp, NmOk z) ∧ (∀ s ∈ p.says, s.pl ∈ sp) ∧ ∀ b ∈ p.arms, BrS p.names.length sp b
  s2 : p.says.length ≤ 2
  ss : ∀ s ∈ p.says, FmS p.names.length s.f
  a0 : p.arms ≠ []
  a5 : p.arms.length ≤ 5
def S__law_small : FS := ⟨0, fun xs P => ∃ m : Nat, xs = [.pail, .int m] ∧ 1 ≤ m ∧ m ≤ 5 ∧ ∀ p, PtS p → P (dPt p)⟩
def S__law_value : FS := ⟨0, fun xs P => ∃ f p, xs = [dF f, dF p] ∧ f.length = p.length + 1 ∧ p.length ≤ 3 ∧ (∀ i ∈ f, -1000000 ≤ i ∧ i ≤ 1000000) ∧ P (.int (val f p))⟩
def S__law_lets : FS := ⟨0, fun xs P => ∃ b s, xs = [dBr b, dSt s] ∧ s.pt.length ≤ 3 ∧ BrOk s.pt.length b ∧ P (.bl (free b s))⟩
def S__law_behind : FS := ⟨0, fun xs P => ∃ b s, xs = [dBr b, dSt s] ∧ s.pt.length ≤ 3 ∧ BrOk s.pt.length b ∧ P (dSt ⟨b.tgt, mvd b s.pt⟩)⟩
def S__law_spot : FS := ⟨0, fun xs P => ∃ s : Nat, xs = [.pail, .int s] ∧ s ≤ 3 ∧ ∀ p : List Int, p.length = s → (∀ i ∈ p, -100 ≤ i ∧ i ≤ 100) → P (dF p)⟩
def BIG : Int := 1000000000000000000000000000000000000000
def S__law_far_spot : FS := ⟨0, fun xs P => ∃ s : Nat, xs = [.pail, .int s] ∧ s ≤ 3 ∧ ∀ p : List Int, p.length = s → (∀ i ∈ p, -BIG ≤ i ∧ i ≤ BIG) → P (dF p)⟩
def S__law_next : FS := ⟨0, fun xs P => ∃ p s, xs = [.pail, dPt p, dSt s] ∧ p.arms ≠ [] ∧ p.arms.length ≤ 5 ∧ s.pt.length ≤ 3 ∧ (∀ b ∈ p.arms, BrOk s.pt.length b) ∧ ∀ k : Nat, k < p.arms.length → P (.int k)⟩
end KK
set_option maxRecDepth 100000
/-! Readings, printed by gen.py. -/
namespace KK
open PySem PySem.Spec PyProof.Rows L2 DL
def t__law_any_of : DS := (dRet (dOp fIx (dVar 1) (dCall S__law_cast (dCons (dVar 0) (dCons (dFn (f1 fLen) (dCons (dVar 1) dNil)) dNil)))))
def t__law_vast : DS := (dSeq (dSet 2 (dC (.int 0)))
    (dSeq (dFor (dRng1 (dCons (dC (.int 6)) dNil)) (dgName 3) (dSet 2 (dOp fAdd (dOp fMul (dVar 2) (dC (.int 1000003))) (dCall S__law_cast (dCons (dVar 0) (dCons (dC (.int 1000003)) dNil))))))
    (dRet (dOp fMod (dFn (f1 fInt) (dCons (dVar 2) dNil)) (dVar 1)))))
def t__law_tags : DS := (dSeq (dSet 2 (dL (dLst (dCons (dC (.str "x")) (dCons (dC (.str "y")) (dCons (dC (.str "a")) (dCons (dC (.str "b")) (dCons (dC (.str "k9")) (dCons (dC (.str "vars")) (dCons (dC (.str "say")) (dCons (dC (.str "then")) (dCons (dC (.str "test")) (dCons (dC (.str "branch")) (dCons (dC (.str "abcdefgh")) (dCons (dC (.str "n")) (dCons (dC (.str "z0000000")) (dCons (dC (.str "undo")) dNil)))))))))))))))))
    (dSeq (dSet 3 (dCall S__law_cast (dCons (dVar 0) (dCons (dFn (f1 fLen) (dCons (dVar 2) dNil)) dNil))))
    (dRet (dL (dSlL (dL (dCat (dL (dSlL (dVar 2) (dOs (dVar 3)) dOn)) (dL (dSlL (dVar 2) dOn (dOs (dVar 3)))))) dOn (dOs (dVar 1)))))))
def t__law_words : DS := (dRet (dM1 fJoin (dC (.str " ")) (dL (dLc (dItT (dVar 0)) (dgName 1) dYes (dFn (f1 fStrI) (dCons (dVar 1) dNil)) [1]))))
def t__law_arm_lines : DS := (dSeq (dUnp (dVar 0) (dgTup [1, 2, 3, 4]))
    (dSeq (dSet 5 (dL (dCat (dL (dLst (dCons (dOp fAddS (dOp fAddS (dOp fAddS (dC (.str "branch ")) (dVar 1)) (dC (.str " "))) (dVar 2)) dNil))) (dL (dLc (dItT (dVar 3)) (dgName 6) dYes (dOp fAddS (dC (.str "test ")) (dCall S__law_words (dCons (dVar 6) dNil))) [6])))))
    (dRet (dL (dCat (dVar 5) (dL (dLst (dCons (dOp fAddS (dC (.str "then ")) (dM1 fJoin (dC (.str "; ")) (dL (dLc (dItT (dVar 4)) (dgName 7) dYes (dCall S__law_words (dCons (dVar 7) dNil)) [7])))) dNil))))))))
def t__law_lines : DS := (dSeq (dSetO 1 (dLst (dCons (dOp fAddS (dC (.str "vars ")) (dM1 fJoin (dC (.str " ")) (dOp fIx (dVar 0) (dC (.int 0))))) dNil)))
    (dSeq (dFor (dItT (dOp fIx (dVar 0) (dC (.int 1)))) (dgTup [2, 3]) (dApp 1 (dOp fAddS (dOp fAddS (dOp fAddS (dC (.str "say ")) (dVar 2)) (dC (.str " "))) (dCall S__law_words (dCons (dVar 3) dNil)))))
    (dSeq (dFor (dItT (dOp fIx (dVar 0) (dC (.int 2)))) (dgName 4) (dSetO 1 (dBorL 1 (dCat (dVar 1) (dCall S__law_arm_lines (dCons (dVar 4) dNil))))))
    (dFz 1 (dRet (dVar 1))))))
def t__law_sheet : DS := (dRet (dM1 fJoin (dC (.str "\n")) (dCall S__law_lines (dCons (dVar 0) dNil))))
def t__law_spots : DS := (dSeq (dSetO 1 (dLst dNil))
    (dSeq (dFor (dItT (dOp fIx (dVar 0) (dC (.int 1)))) (dgTup [2, 3]) (dIfS (dBorT 1 (dTest (dOp (fIn true) (dVar 2) (dVar 1)))) (dApp 1 (dVar 2)) dNext))
    (dSeq (dFor (dItT (dOp fIx (dVar 0) (dC (.int 2)))) (dgName 4) (dFor (dItT (dSl fSlT (dVar 4) dOn (dOs (dC (.int 2))))) (dgName 2) (dIfS (dBorT 1 (dTest (dOp (fIn true) (dVar 2) (dVar 1)))) (dApp 1 (dVar 2)) dNext)))
    (dFz 1 (dRet (dFn (f1 fTuple) (dCons (dVar 1) dNil)))))))
def t__law_unit : DS := (dRet (dFn (f1 fTuple) (dCons (dL (dLc (dRng1 (dCons (dOp fAdd (dVar 0) (dC (.int 1))) dNil)) (dgName 2) dYes (dFn (f1 fInt) (dCons (dOp fEq (dVar 2) (dVar 1)) dNil)) [2])) dNil)))
def t__law_shift : DS := (dRet (dOp fAddT (dSl fSlT (dVar 0) dOn (dOs (dUn fNeg (dC (.int 1))))) (dTup (dCons (dOp fAdd (dOp fIx (dVar 0) (dUn fNeg (dC (.int 1)))) (dVar 1)) dNil))))
def t__law_little : DS := (dRet (dFn (f1 fTuple) (dCons (dL (dLc (dRng1 (dCons (dOp fAdd (dVar 1) (dC (.int 1))) dNil)) (dgName 2) dYes (dOp fSub (dCall S__law_cast (dCons (dVar 0) (dCons (dC (.int 5)) dNil))) (dC (.int 2))) [2])) dNil)))
def t__law_ask : DS := (dSeq (dUnp (dTup (dCons (dCall S__law_cast (dCons (dVar 0) (dCons (dC (.int 7)) dNil))) (dCons (dCall S__law_cast (dCons (dVar 0) (dCons (dVar 1) dNil))) dNil))) (dgTup [3, 4]))
    (dSeq (dIfS (dTest (dOp fLt (dVar 3) (dC (.int 4)))) (dRet (dCall S__law_shift (dCons (dCall S__law_unit (dCons (dVar 1) (dCons (dVar 2) dNil))) (dCons (dUn fNeg (dCall S__law_cast (dCons (dVar 0) (dCons (dC (.int 3)) dNil)))) dNil)))) dNext)
    (dSeq (dIfS (dTest (dOp fEq (dVar 3) (dC (.int 4)))) (dRet (dCall S__law_shift (dCons (dFn (f1 fTuple) (dCons (dL (dLc (dItT (dCall S__law_unit (dCons (dVar 1) (dCons (dVar 2) dNil)))) (dgName 5) dYes (dUn fNeg (dVar 5)) [5])) dNil)) (dCons (dCall S__law_cast (dCons (dVar 0) (dCons (dC (.int 6)) dNil))) dNil)))) dNext)
    (dSeq (dIfS (dTest (dOp fEq (dVar 3) (dC (.int 5)))) (dRet (dFn (f1 fTuple) (dCons (dL (dLc (dRng1 (dCons (dOp fAdd (dVar 1) (dC (.int 1))) dNil)) (dgName 6) dYes (dOp fSub (dOp fIx (dCall S__law_unit (dCons (dVar 1) (dCons (dVar 2) dNil))) (dVar 6)) (dOp fIx (dCall S__law_unit (dCons (dVar 1) (dCons (dVar 4) dNil))) (dVar 6))) [6])) dNil))) dNext)
    (dRet (dCall S__law_little (dCons (dVar 0) (dCons (dVar 1) dNil))))))))
def t__law_turn : DS := (dSeq (dUnp (dTup (dCons (dCall S__law_cast (dCons (dVar 0) (dCons (dC (.int 8)) dNil))) (dCons (dCall S__law_unit (dCons (dVar 1) (dCons (dVar 2) dNil))) dNil))) (dgTup [3, 4]))
    (dSeq (dIfS (dTest (dOp fLt (dVar 3) (dC (.int 4)))) (dRet (dCall S__law_shift (dCons (dVar 4) (dCons (dOp fSub (dUn fNeg (dC (.int 1))) (dCall S__law_cast (dCons (dVar 0) (dCons (dC (.int 2)) dNil)))) dNil)))) dNext)
    (dSeq (dIfS (dTest (dOp fEq (dVar 3) (dC (.int 4)))) (dRet (dOp fAddT (dOp fMulT (dTup (dCons (dC (.int 0)) dNil)) (dVar 1)) (dTup (dCons (dCall S__law_cast (dCons (dVar 0) (dCons (dC (.int 5)) dNil))) dNil)))) dNext)
    (dSeq (dIfS (dTest (dOp fEq (dVar 3) (dC (.int 5)))) (dSeq (dSet 5 (dCall S__law_unit (dCons (dVar 1) (dCons (dCall S__law_cast (dCons (dVar 0) (dCons (dVar 1) dNil))) dNil))))
    (dRet (dFn (f1 fTuple) (dCons (dL (dLc (dRng1 (dCons (dOp fAdd (dVar 1) (dC (.int 1))) dNil)) (dgName 6) dYes (dOp fAdd (dOp fIx (dVar 4) (dVar 6)) (dOp fIx (dVar 5) (dVar 6))) [6])) dNil)))) dNext)
    (dRet (dIf (dTest (dOp fEq (dVar 3) (dC (.int 6)))) (dVar 4) (dCall S__law_little (dCons (dVar 0) (dCons (dVar 1) dNil)))))))))
def t__law_arm : DS := (dSeq (dSet 3 (dCall S__law_cast (dCons (dVar 0) (dCons (dVar 1) dNil))))
    (dSeq (dSetO 4 (dLc (dRng1 (dCons (dVar 1) dNil)) (dgName 5) dYes (dCall S__law_unit (dCons (dVar 1) (dCons (dVar 5) dNil))) [5]))
    (dSeq (dSetIg 4 (dCall S__law_turn (dCons (dVar 0) (dCons (dVar 1) (dCons (dVar 3) dNil)))) (dVar 3))
    (dSeq (dIfS (dTest (dOp fEq (dCall S__law_cast (dCons (dVar 0) (dCons (dC (.int 3)) dNil))) (dC (.int 0)))) (dSeq (dSet 6 (dCall S__law_cast (dCons (dVar 0) (dCons (dVar 1) dNil))))
    (dSetIg 4 (dCall S__law_turn (dCons (dVar 0) (dCons (dVar 1) (dCons (dVar 6) dNil)))) (dVar 6))) dNext)
    (dSeq (dSetO 7 (dLst dNil))
    (dSeq (dFor (dRng1 (dCons (dCall S__law_cast (dCons (dVar 0) (dCons (dC (.int 3)) dNil))) dNil)) (dgName 5) (dApp 7 (dCall S__law_ask (dCons (dVar 0) (dCons (dVar 1) (dCons (dCall S__law_any_of (dCons (dVar 0) (dCons (dL (dLst (dCons (dVar 3) (dCons (dVar 3) (dCons (dCall S__law_cast (dCons (dVar 0) (dCons (dVar 1) dNil))) dNil))))) dNil))) dNil))))))
    (dFz 4 (dFz 7 (dRet (dTup (dCons (dCall S__law_any_of (dCons (dVar 0) (dCons (dVar 2) dNil))) (dCons (dCall S__law_any_of (dCons (dVar 0) (dCons (dVar 2) dNil))) (dCons (dFn (f1 fTuple) (dCons (dVar 7) dNil)) (dCons (dFn (f1 fTuple) (dCons (dVar 4) dNil)) dNil))))))))))))))
def t__law_small : DS := (dSeq (dUnp (dTup (dCons (dOp fAdd (dC (.int 1)) (dCall S__law_cast (dCons (dVar 0) (dCons (dC (.int 2)) dNil)))) (dCons (dCall S__law_tags (dCons (dVar 0) (dCons (dC (.int 6)) dNil))) dNil))) (dgTup [2, 3]))
    (dSeq (dSet 4 (dL (dSlL (dVar 3) (dOs (dC (.int 3))) (dOs (dOp fAdd (dC (.int 4)) (dCall S__law_any_of (dCons (dVar 0) (dCons (dL (dLst (dCons (dC (.int 0)) (dCons (dC (.int 0)) (dCons (dC (.int 1)) (dCons (dC (.int 2)) dNil)))))) dNil))))))))
    (dSeq (dSetO 5 (dLst dNil))
    (dSeq (dFor (dRng1 (dCons (dCall S__law_any_of (dCons (dVar 0) (dCons (dL (dLst (dCons (dC (.int 0)) (dCons (dC (.int 0)) (dCons (dC (.int 1)) (dCons (dC (.int 2)) dNil)))))) dNil))) dNil)) (dgName 6) (dSeq (dSet 7 (dCall S__law_unit (dCons (dVar 2) (dCons (dCall S__law_cast (dCons (dVar 0) (dCons (dVar 2) dNil))) dNil))))
    (dApp 5 (dTup (dCons (dCall S__law_any_of (dCons (dVar 0) (dCons (dVar 4) dNil))) (dCons (dCall S__law_shift (dCons (dVar 7) (dCons (dOp fSub (dCall S__law_cast (dCons (dVar 0) (dCons (dC (.int 3)) dNil))) (dC (.int 1))) dNil))) dNil))))))
    (dSeq (dSetO 8 (dLc (dRng1 (dCons (dOp fAdd (dC (.int 1)) (dCall S__law_cast (dCons (dVar 0) (dCons (dVar 1) dNil)))) dNil)) (dgName 6) dYes (dCall S__law_arm (dCons (dVar 0) (dCons (dVar 2) (dCons (dVar 4) dNil)))) [6]))
    (dFz 5 (dFz 8 (dRet (dL (dLst (dCons (dFn (f1 fTuple) (dCons (dL (dSlL (dVar 3) dOn (dOs (dVar 2)))) dNil)) (dCons (dFn (f1 fTuple) (dCons (dVar 5) dNil)) (dCons (dFn (f1 fTuple) (dCons (dVar 8) dNil)) dNil)))))))))))))
def t__law_value : DS := (dRet (dOp fAdd (dFn (f1 fSum) (dCons (dL (dLc (dRng1 (dCons (dFn (f1 fLen) (dCons (dVar 1) dNil)) dNil)) (dgName 2) dYes (dOp fMul (dOp fIx (dVar 0) (dVar 2)) (dOp fIx (dVar 1) (dVar 2))) [2])) dNil)) (dOp fIx (dVar 0) (dUn fNeg (dC (.int 1))))))
def t__law_lets : DS := (dSeq (dSetO 2 (dLc (dItT (dOp fIx (dVar 0) (dC (.int 2)))) (dgName 3) (dTest (dOp fLt (dCall S__law_value (dCons (dVar 3) (dCons (dOp fIx (dVar 1) (dC (.int 1))) dNil))) (dC (.int 0)))) (dVar 3) [3]))
    (dFz 2 (dRet (dAndV (dOp fEqD (dVar 2) (dL (dLst dNil))) (dOp fEq (dOp fIx (dVar 0) (dC (.int 0))) (dOp fIx (dVar 1) (dC (.int 0))))))))
def t__law_behind : DS := (dRet (dTup (dCons (dOp fIx (dVar 0) (dC (.int 1))) (dCons (dFn (f1 fTuple) (dCons (dL (dLc (dItT (dOp fIx (dVar 0) (dC (.int 3)))) (dgName 2) dYes (dCall S__law_value (dCons (dVar 2) (dCons (dOp fIx (dVar 1) (dC (.int 1))) dNil))) [2])) dNil)) dNil))))
def t__law_spot : DS := (dSeq (dSet 2 (dL (dLst (dCons (dCall S__law_cast (dCons (dVar 0) (dCons (dC (.int 6)) dNil))) (dCons (dOp fSub (dCall S__law_cast (dCons (dVar 0) (dCons (dC (.int 6)) dNil))) (dC (.int 1))) (dCons (dOp fSub (dCall S__law_cast (dCons (dVar 0) (dCons (dC (.int 21)) dNil))) (dC (.int 10))) dNil))))))
    (dRet (dFn (f1 fTuple) (dCons (dL (dLc (dRng1 (dCons (dVar 1) dNil)) (dgName 3) dYes (dCall S__law_any_of (dCons (dVar 0) (dCons (dL (dCat (dVar 2) (dL (dLst (dCons (dCall S__law_cast (dCons (dVar 0) (dCons (dC (.int 4)) dNil))) (dCons (dCall S__law_cast (dCons (dVar 0) (dCons (dC (.int 4)) dNil))) dNil)))))) dNil))) [3])) dNil))))
def t__law_far_spot : DS := (dSeq (dSetO 2 (dLst dNil))
    (dSeq (dFor (dRng1 (dCons (dVar 1) dNil)) (dgName 3) (dSeq (dSet 4 (dCall S__law_vast (dCons (dVar 0) (dCons (dOp fPow (dC (.int 10)) (dC (.int 35))) dNil))))
    (dApp 2 (dCall S__law_any_of (dCons (dVar 0) (dCons (dL (dLst (dCons (dCall S__law_cast (dCons (dVar 0) (dCons (dC (.int 5)) dNil))) (dCons (dVar 4) (dCons (dOp fSub (dC (.int 0)) (dVar 4)) (dCons (dOp fPow (dC (.int 10)) (dC (.int 39))) dNil)))))) dNil))))))
    (dFz 2 (dRet (dFn (f1 fTuple) (dCons (dVar 2) dNil))))))
def t__law_next : DS := (dSeq (dSetO 3 (dLc (dRng1 (dCons (dFn (f1 fLen) (dCons (dOp fIx (dVar 1) (dC (.int 2))) dNil)) dNil)) (dgName 4) (dTest (dCall S__law_lets (dCons (dOp fIx (dOp fIx (dVar 1) (dC (.int 2))) (dVar 4)) (dCons (dVar 2) dNil)))) (dVar 4) [4]))
    (dFz 3 (dRet (dCall S__law_any_of (dCons (dVar 0) (dCons (dL (dCat (dL (dCat (dL (dCat (dVar 3) (dVar 3))) (dVar 3))) (dL (dLst (dCons (dCall S__law_cast (dCons (dVar 0) (dCons (dFn (f1 fLen) (dCons (dOp fIx (dVar 1) (dC (.int 2))) dNil)) dNil))) dNil))))) dNil))))))
end KK
set_option maxRecDepth 100000
set_option maxHeartbeats 2000000
namespace KK
open PySem PySem.Spec PyProof.Rows L2 DL
/-! ### the promises, to be used -/
theorem s_cast {m : Int} {Q : D → Prop} (h0 : 0 < m) (h1 : m < 1000000000) (h : ∀ r : Int, 0 ≤ r → r < m → Q (.int r)) : S__law_cast.f [.pail, .int m] Q := ⟨m, rfl, h0, h1, h⟩
theorem s_anyL {ds : List D} {Q : D → Prop} (h0 : ds ≠ []) (h1 : ds.length ≤ 1000) (h : ∀ x ∈ ds, Q x) : S__law_any_of.f [.pail, .lst ds] Q := ⟨_, ds, rfl, .inl rfl, h0, h1, h⟩
theorem s_anyT {ds : List D} {Q : D → Prop} (h0 : ds ≠ []) (h1 : ds.length ≤ 1000) (h : ∀ x ∈ ds, Q x) : S__law_any_of.f [.pail, .tup ds] Q := ⟨_, ds, rfl, .inr rfl, h0, h1, h⟩
theorem s_unit {s : Nat} {a : Int} {Q : D → Prop} (h0 : s ≤ 3) (h : Q (dF (unit s a))) : S__law_unit.f [.int s, .int a] Q := ⟨s, a, rfl, h0, h⟩
theorem s_shift {f : List Int} {b : Int} {Q : D → Prop} (h0 : f ≠ []) (h1 : f.length ≤ 100) (h : Q (dF (f.dropLast ++ [f.getLastD 0 + b]))) : S__law_shift.f [dF f, .int b] Q := ⟨f, b, rfl, h0, h1, h⟩
theorem s_little {s : Nat} {Q : D → Prop} (h0 : s ≤ 3) (h : ∀ f, FmS s f → Q (dF f)) : S__law_little.f [.pail, .int s] Q := ⟨s, rfl, h0, h⟩
theorem s_ask {s : Nat} {a : Int} {Q : D → Prop} (h0 : 1 ≤ s) (h1 : s ≤ 3) (h : ∀ f, FmS s f → Q (dF f)) : S__law_ask.f [.pail, .int s, .int a] Q := ⟨s, a, rfl, h0, h1, h⟩
theorem s_turn {s : Nat} {a : Int} {Q : D → Prop} (h0 : 1 ≤ s) (h1 : s ≤ 3) (h : ∀ f, FmS s f → Q (dF f)) : S__law_turn.f [.pail, .int s, .int a] Q := ⟨s, a, rfl, h0, h1, h⟩
theorem s_arm {s : Nat} {sp : List Str} {Q : D → Prop} (h0 : 1 ≤ s) (h1 : s ≤ 3) (h2 : sp ≠ []) (h3 : sp.length ≤ 20) (h : ∀ b, BrS s sp b → Q (dBr b)) : S__law_arm.f [.pail, .int s, .lst (sp.map .str)] Q := ⟨s, sp, rfl, h0, h1, h2, h3, h⟩
theorem s_words {f : List Int} {Q : D → Prop} (h : FmW f) (k : Q (.str (words f))) : S__law_words.f [dF f] Q := ⟨f, rfl, h, k⟩
theorem s_value {f p : List Int} {Q : D → Prop} (h1 : f.length = p.length + 1) (h2 : p.length ≤ 3) (h3 : ∀ i ∈ f, -1000000 ≤ i ∧ i ≤ 1000000) (k : Q (.int (val f p))) : S__law_value.f [dF f, dF p] Q := ⟨f, p, rfl, h1, h2, h3, k⟩
theorem alls_ints {C : Int → Prop} : ∀ {ds ys : List D}, Alls (fun _ y => ∃ i, y = D.int i ∧ C i) ds ys → ∃ f : List Int, ys = f.map .int ∧ f.length = ds.length ∧ ∀ i ∈ f, C i
  | _, _, .nil => ⟨[], rfl, rfl, fun _ h => by simp at h⟩
  | _, _, .cons h t => by
    obtain ⟨i, rfl, hi⟩ := h
    obtain ⟨f, rfl, e, hf⟩ := alls_ints t
    refine ⟨i :: f, rfl, by simp [e], fun j hj => ?_⟩
    rcases List.mem_cons.mp hj with e | hj
    · rw [e]; exact hi
    · exact hf j hj
theorem unit_len (s : Nat) (a : Int) : (unit s a).length = s + 1 := by simp [unit]
theorem unit_b (s : Nat) (a : Int) : ∀ i ∈ unit s a, 0 ≤ i ∧ i ≤ 1 := fun i hi => by
  unfold unit at hi
  obtain ⟨k, _, rfl⟩ := List.mem_map.mp hi
  split <;> omega
theorem d__law_any_of (xs : List D) (P : D → Prop) (h : S__law_any_of.f xs P) : t__law_any_of.f (En P) (startS ["_law_pail", "_law_some"] xs) := by
  obtain ⟨d, ds, rfl, h1, h2, h3, h4⟩ := h
  have hl : 0 < ds.length := List.length_pos_iff.mpr h2
  rcases h1 with rfl | rfl <;>
  · simp [t__law_any_of, startS]
    refine s_cast (by omega) (by omega) fun r h0 hr => ?_
    obtain ⟨n, rfl⟩ := Int.eq_ofNat_of_zero_le h0
    have hn : n < ds.length := by omega
    simp [atI_natE hn]
    exact h4 _ (by simp)
theorem d__law_vast (xs : List D) (P : D → Prop) (h : S__law_vast.f xs P) : t__law_vast.f (En P) (startS ["_law_pail", "_law_many", "_law_found", "_law_turn_here"] xs) := by
  obtain ⟨m, rfl, h1, h2⟩ := h
  simp [t__law_vast, startS]
  refine ⟨small_le (by simp [D.rng]), for_inv (fun i s => ∃ (a : Int) (v : Sl), s = [.val .pail, .val (.int m), .val (.int a), v]) _ 0 _ ⟨_, _, rfl⟩ (fun i d hd s hs N hN => ?_) fun s hs => ?_⟩
  · obtain ⟨a, v, rfl⟩ := hs
    simp
    refine ⟨(show CMul a 1000003 from .inr ⟨by omega, by omega⟩).ok, s_cast (by omega) (by omega) fun r _ _ => ?_⟩
    simp
    exact hN _ ⟨_, _, rfl⟩
  · obtain ⟨a, v, rfl⟩ := hs
    simp
    exact ⟨h1, h2 _ (Int.emod_nonneg _ (by omega)) (Int.emod_lt_of_pos _ h1)⟩
theorem d__law_words (xs : List D) (P : D → Prop) (h : S__law_words.f xs P) : t__law_words.f (En P) (startS ["_law_some", "_law_each"] xs) := d_form_words xs P h
theorem d__law_unit (xs : List D) (P : D → Prop) (h : S__law_unit.f xs P) : t__law_unit.f (En P) (startS ["_law_size", "_law_at", "_law_k"] xs) := by
  obtain ⟨s, a, rfl, h1, h2⟩ := h
  have e : ((s : Int) + 1).toNat = s + 1 := by omega
  simp [t__law_unit, startS, e, rng_len]
  refine ⟨by omega, small_le (by omega), lc_map (fun d => .int (if d.toI = a then 1 else 0)) _ (fun d hd Kk hK => ?_) ?_⟩
  · obtain ⟨i, hi, rfl⟩ := rng_mem hd
    simp at hK ⊢
    exact hK
  · have e : (D.rng 0 (s + 1)).map (fun d => D.int (if d.toI = a then 1 else 0)) = (unit s a).map D.int := by
      unfold D.rng unit
      simp [Function.comp_def]
      intro k _
      by_cases h : (k : Int) = a <;> simp [h]
    rw [e]
    exact h2
theorem cut_m1 {α : Type} (xs : List α) (h : xs ≠ []) : DL.cutD xs none (some (-1)) = xs.dropLast := by
  have hl : 0 < xs.length := List.length_pos_iff.mpr h
  unfold DL.cutD
  have e1 : HT.sIx xs.length xs.length (some (-1)) = xs.length - 1 := by
    unfold HT.sIx
    simp
    omega
  rw [HT.sIx_none, e1, List.dropLast_eq_take]
  simp
theorem atI_lastD {f : List Int} (h : f ≠ []) : atI f (-1) = some (f.getLastD 0) := by
  rw [atI_m1 h, List.getLastD_eq_getLast?, List.getLast?_eq_some_getLast h]
  rfl
theorem d__law_shift (xs : List D) (P : D → Prop) (h : S__law_shift.f xs P) : t__law_shift.f (En P) (startS ["_law_some", "_law_by"] xs) := by
  obtain ⟨f, b, rfl, h1, h2, h3⟩ := h
  simp [t__law_shift, startS, dF]
  have hm : f.map D.int ≠ [] := by simpa using h1
  rw [atI_mapE, atI_lastD h1, cut_m1 _ hm]
  simp
  refine ⟨small_le (by decide), small_le (by omega), ?_⟩
  simpa [dF, List.map_dropLast] using h3
theorem d__law_little (xs : List D) (P : D → Prop) (h : S__law_little.f xs P) : t__law_little.f (En P) (startS ["_law_pail", "_law_size", "_law_k"] xs) := by
  obtain ⟨s, rfl, h1, h2⟩ := h
  have e : ((s : Int) + 1).toNat = s + 1 := by omega
  simp [t__law_little, startS, e, rng_len]
  refine ⟨by omega, small_le (by omega), lc_rel (fun _ y => ∃ i, y = D.int i ∧ (-10 ≤ i ∧ i ≤ 10)) _ _ (fun d hd Kk hK => ?_) fun ys hys => ?_⟩
  · simp
    refine s_cast (by omega) (by omega) fun r _ _ => ?_
    simp
    exact hK _ ⟨_, rfl, by omega, by omega⟩
  · obtain ⟨f, rfl, e1, e2⟩ := alls_ints hys
    rw [rng_len] at e1
    exact h2 f ⟨e1, e2⟩
theorem unit_ne (s : Nat) (a : Int) : unit s a ≠ [] := fun e => by
  have := unit_len s a
  rw [e] at this
  cases this
theorem fms_shift {s : Nat} {f : List Int} {b c : Int} (h1 : f.length = s + 1) (h2 : ∀ i ∈ f, -c ≤ i ∧ i ≤ c) (hc : 0 ≤ c ∧ c ≤ 1) (hb : -9 ≤ b ∧ b ≤ 9) : FmS s (f.dropLast ++ [f.getLastD 0 + b]) := by
  have h0 : f ≠ [] := fun e => by rw [e] at h1; cases h1
  refine ⟨by rw [List.length_append, List.length_dropLast, h1]; rfl, fun i hi => ?_⟩
  rcases List.mem_append.mp hi with hi | hi
  · have := h2 i ((List.dropLast_sublist f).subset hi)
    omega
  · have e : f.getLastD 0 = f.getLast h0 := by rw [List.getLastD_eq_getLast?, List.getLast?_eq_some_getLast h0]; rfl
    have := h2 _ (List.getLast_mem h0)
    rw [List.mem_singleton.mp hi, e]
    omega
theorem d__law_ask (xs : List D) (P : D → Prop) (h : S__law_ask.f xs P) : t__law_ask.f (En P) (startS ["_law_pail", "_law_size", "_law_at", "_law_way", "_law_other", "_law_each", "_law_k"] xs) := by
  obtain ⟨s, a, rfl, h1, h2, h3⟩ := h
  simp [t__law_ask, startS]
  refine s_cast (by omega) (by omega) fun w w0 w1 => s_cast (by omega) (by omega) fun o o0 o1 => ⟨small_le (by decide), ?_⟩
  by_cases q : w < 4
  · simp [q]
    refine s_unit h2 (s_cast (by omega) (by omega) fun r r0 r1 => ?_)
    simp
    exact s_shift (unit_ne _ _) (by rw [unit_len]; omega) (h3 _ (fms_shift (c := 1) (unit_len _ _) (fun i hi => by have := unit_b _ _ i hi; omega) (by omega) (by omega)))
  · by_cases q2 : w = 4
    · simp [q2]
      refine s_unit h2 ?_
      simp [dF, unit_len]
      refine ⟨small_le (by omega), lc_map (fun d => .int (-d.toI)) _ (fun d hd Kk hK => ?_) ?_⟩
      · obtain ⟨i, hi, rfl⟩ := List.mem_map.mp hd
        simpa using hK
      · have e : D.tup (((unit s a).map D.int).map fun d => D.int (-d.toI)) = dF ((unit s a).map fun i => -i) := by simp [dF, Function.comp_def]
        rw [e]
        refine s_cast (by omega) (by omega) fun r r0 r1 => ?_
        refine s_shift (by simp [unit_ne]) (by simp [unit_len]; omega) (h3 _ (fms_shift (c := 1) (by simp [unit_len]) (fun i hi => ?_) (by omega) (by omega)))
        obtain ⟨j, hj, rfl⟩ := List.mem_map.mp hi
        have := unit_b _ _ j hj
        omega
    · by_cases q3 : w = 5
      · have e : ((s : Int) + 1).toNat = s + 1 := by omega
        simp [q3, e, rng_len]
        refine ⟨by omega, small_le (by omega), lc_rel (fun _ y => ∃ i, y = D.int i ∧ (-10 ≤ i ∧ i ≤ 10)) _ _ (fun d hd Kk hK => ?_) fun ys hys => ?_⟩
        · obtain ⟨i, hi, rfl⟩ := rng_mem hd
          simp
          refine s_unit h2 ?_
          have hi1 : i < (unit s a).length := by rw [unit_len]; exact hi
          have hi2 : i < (unit s o).length := by rw [unit_len]; exact hi
          have b1 := unit_b s a _ (List.getElem_mem hi1)
          have b2 := unit_b s o _ (List.getElem_mem hi2)
          simp [dF, atI_mapE, atI_natE hi1]
          refine s_unit h2 ?_
          simp [dF, atI_mapE, atI_natE hi2]
          exact hK _ ⟨_, rfl, by omega, by omega⟩
        · obtain ⟨f, rfl, e1, e2⟩ := alls_ints hys
          rw [rng_len] at e1
          exact h3 f ⟨e1, e2⟩
      · simp [q, q2, q3]
        exact s_little h2 h3
theorem d__law_turn (xs : List D) (P : D → Prop) (h : S__law_turn.f xs P) : t__law_turn.f (En P) (startS ["_law_pail", "_law_size", "_law_at", "_law_way", "_law_own", "_law_other", "_law_k"] xs) := by
  obtain ⟨s, a, rfl, h1, h2, h3⟩ := h
  simp [t__law_turn, startS]
  refine s_cast (by omega) (by omega) fun w w0 w1 => s_unit h2 ⟨small_le (by decide), ?_⟩
  by_cases q : w < 4
  · simp [q]
    refine s_cast (by omega) (by omega) fun r r0 r1 => ?_
    simp
    exact s_shift (unit_ne _ _) (by rw [unit_len]; omega) (h3 _ (fms_shift (c := 1) (unit_len _ _) (fun i hi => by have := unit_b _ _ i hi; omega) (by omega) (by omega)))
  · by_cases q2 : w = 4
    · simp [q2]
      refine ⟨small_le (by decide), by omega, s_cast (by omega) (by omega) fun r r0 r1 => ?_⟩
      refine ⟨small_le (by decide), small_le (by omega), ?_⟩
      have e : D.tup (List.replicate s (D.int 0) ++ [D.int r]) = dF (List.replicate s 0 ++ [r]) := by simp [dF]
      rw [e]
      refine h3 _ ⟨by simp, fun i hi => ?_⟩
      rcases List.mem_append.mp hi with hi | hi
      · rw [List.mem_replicate] at hi; omega
      · rw [List.mem_singleton.mp hi]; omega
    · by_cases q3 : w = 5
      · have e : ((s : Int) + 1).toNat = s + 1 := by omega
        simp [q3, e, rng_len]
        refine s_cast (by omega) (by omega) fun o o0 o1 => s_unit h2 ?_
        refine ⟨by omega, small_le (by omega), lc_rel (fun _ y => ∃ i, y = D.int i ∧ (-10 ≤ i ∧ i ≤ 10)) _ _ (fun d hd Kk hK => ?_) fun ys hys => ?_⟩
        · obtain ⟨i, hi, rfl⟩ := rng_mem hd
          have hi1 : i < (unit s a).length := by rw [unit_len]; exact hi
          have hi2 : i < (unit s o).length := by rw [unit_len]; exact hi
          have b1 := unit_b s a _ (List.getElem_mem hi1)
          have b2 := unit_b s o _ (List.getElem_mem hi2)
          simp [dF, atI_mapE, atI_natE hi1, atI_natE hi2]
          exact hK _ ⟨_, rfl, by omega, by omega⟩
        · obtain ⟨f, rfl, e1, e2⟩ := alls_ints hys
          rw [rng_len] at e1
          exact h3 f ⟨e1, e2⟩
      · by_cases q4 : w = 6
        · simp [q4]
          exact h3 _ ⟨unit_len _ _, fun i hi => by have := unit_b _ _ i hi; omega⟩
        · simp [q, q2, q3, q4]
          exact s_little h2 h3
theorem d__law_value (xs : List D) (P : D → Prop) (h : S__law_value.f xs P) : t__law_value.f (En P) (startS ["_law_some", "_law_spot_here", "_law_k"] xs) := by
  obtain ⟨f, p, rfl, h1, h2, h3, h4⟩ := h
  have h0 : f ≠ [] := fun e => by rw [e] at h1; cases h1
  simp [t__law_value, startS, dF, rng_len]
  refine ⟨by omega, small_le (by omega), lc_map (fun d => .int (f.getD d.toI.toNat 0 * p.getD d.toI.toNat 0)) _ (fun d hd Kk hK => ?_) ?_⟩
  · obtain ⟨i, hi, rfl⟩ := rng_mem hd
    simp only [Int.zero_add] at hK ⊢
    have e1 : atI f (i : Int) = some (f.getD i 0) := by rw [atI_natE (by omega)]; simp [List.getD, show i < f.length by omega]
    have e2 : atI p (i : Int) = some (p.getD i 0) := by rw [atI_natE hi]; simp [List.getD, hi]
    simp [atI_mapE, e1, e2]
    exact ⟨imul_small (h3 _ (mem_getD (by omega))), by simpa using hK⟩
  · refine ⟨fun x hx => ?_, .int (f.getLastD 0), ?_, ?_⟩
    · obtain ⟨d, _, rfl⟩ := List.mem_map.mp hx
      rfl
    · rw [atI_mapE, atI_lastD h0]
      rfl
    · have e : (List.map D.toI (List.map (fun d => D.int (f.getD d.toI.toNat 0 * p.getD d.toI.toNat 0)) (D.rng 0 p.length))).sum = dot f p := by
        rw [← dot_range f p (by omega)]
        unfold D.rng
        simp only [List.map_map]
        congr 1
        refine List.map_congr_left fun i _ => ?_
        simp
      rw [e]
      exact h4
end KK
set_option maxRecDepth 100000
set_option maxHeartbeats 2000000
namespace KK
open PySem PySem.Spec PyProof.Rows L2 DL
theorem alls_forms {α : Type} {g : α → D} {C : α → Prop} : ∀ {ds ys : List D}, Alls (fun _ y => ∃ f, y = g f ∧ C f) ds ys → ∃ fs : List α, ys = fs.map g ∧ fs.length = ds.length ∧ ∀ f ∈ fs, C f
  | _, _, .nil => ⟨[], rfl, rfl, fun _ h => by simp at h⟩
  | _, _, .cons h t => by
    obtain ⟨i, rfl, hi⟩ := h
    obtain ⟨f, rfl, e, hf⟩ := alls_forms t
    refine ⟨i :: f, rfl, by simp [e], fun j hj => ?_⟩
    rcases List.mem_cons.mp hj with e | hj
    · rw [e]; exact hi
    · exact hf j hj
theorem fms_unit (s : Nat) (a : Int) : FmS s (unit s a) := ⟨unit_len _ _, fun i hi => by have := unit_b _ _ i hi; omega⟩
theorem d__law_arm (xs : List D) (P : D → Prop) (h : S__law_arm.f xs P) : t__law_arm.f (En P) (startS ["_law_pail", "_law_size", "_law_spots_here", "_law_at", "_law_turns", "_law_k", "_law_more", "_law_asks"] xs) := by
  obtain ⟨s, sp, rfl, h1, h2, h3, h4, h5⟩ := h
  simp [t__law_arm, startS]
  refine s_cast (by omega) (by omega) fun r r0 r1 => ?_
  obtain ⟨a, rfl⟩ := Int.eq_ofNat_of_zero_le r0
  simp [rng_len]
  refine ⟨by omega, small_le (by omega), lc_rel (fun _ y => ∃ f, y = dF f ∧ FmS s f) _ _ (fun d hd Kk hK => ?_) fun ys hys => ?_⟩
  · obtain ⟨i, hi, rfl⟩ := rng_mem hd
    simp
    exact s_unit h2 (hK _ ⟨_, rfl, fms_unit _ _⟩)
  · obtain ⟨fs, rfl, e1, e2⟩ := alls_forms hys
    rw [rng_len] at e1
    simp
    refine s_turn h1 h2 fun f hf => ⟨a, ixN_natE (by omega), ?_⟩
    -- the turns, whatever they are
    have key : ∀ (gs : List (List Int)) (u : Sl), gs.length = s → (∀ g ∈ gs, FmS s g) → (dSeq (dSetO 7 (dLst dNil))
        (dSeq (dFor (dRng1 (dCons (dCall S__law_cast (dCons (dVar 0) (dCons (dC (.int 3)) dNil))) dNil)) (dgName 5) (dApp 7 (dCall S__law_ask (dCons (dVar 0) (dCons (dVar 1) (dCons (dCall S__law_any_of (dCons (dVar 0) (dCons (dL (dLst (dCons (dVar 3) (dCons (dVar 3) (dCons (dCall S__law_cast (dCons (dVar 0) (dCons (dVar 1) dNil))) dNil))))) dNil))) dNil))))))
        (dFz 4 (dFz 7 (dRet (dTup (dCons (dCall S__law_any_of (dCons (dVar 0) (dCons (dVar 2) dNil))) (dCons (dCall S__law_any_of (dCons (dVar 0) (dCons (dVar 2) dNil))) (dCons (dFn (f1 fTuple) (dCons (dVar 7) dNil)) (dCons (dFn (f1 fTuple) (dCons (dVar 4) dNil)) dNil)))))))))).f (En P)
        [.val .pail, .val (.int s), .val (.lst (sp.map .str)), .val (.int a), .own (gs.map dF), .no, u, .no] := by
      intro gs u hg1 hg2
      simp
      refine ⟨small_le (by decide), s_cast (by omega) (by omega) fun c c0 c1 => ?_⟩
      obtain ⟨n, rfl⟩ := Int.eq_ofNat_of_zero_le c0
      simp [rng_len]
      refine ⟨by omega, small_le (by omega), for_inv (fun i ss => ∃ (v : Sl) (ts : List (List Int)), ts.length = i ∧ (∀ t ∈ ts, FmS s t) ∧ ss = [.val .pail, .val (.int s), .val (.lst (sp.map .str)), .val (.int a), .own (gs.map dF), v, u, .own (ts.map dF)]) _ 0 _ ⟨_, [], rfl, by simp, rfl⟩ (fun i d hd ss hs N hN => ?_) fun ss hs => ?_⟩
      · obtain ⟨v, ts, t1, t2, rfl⟩ := hs
        have hi : i < n := by
          have := (List.getElem?_eq_some_iff.mp hd).1
          rwa [rng_len] at this
        simp
        refine s_cast (by omega) (by omega) fun b _ _ => ⟨small_le (by decide), s_anyL (by simp) (by simp) fun x hx => ?_⟩
        have hx' : ∃ k : Int, x = .int k := by
          simp at hx
          rcases hx with e | e <;> exact ⟨_, e⟩
        obtain ⟨k, rfl⟩ := hx'
        refine s_ask h1 h2 fun g hg => ⟨small_le (by omega), hN _ ⟨.val d, ts ++ [g], by simp; omega, fun t ht => ?_, by simp⟩⟩
        rcases List.mem_append.mp ht with ht | ht
        · exact t2 t ht
        · rw [List.mem_singleton.mp ht]; exact hg
      · obtain ⟨v, ts, t1, t2, rfl⟩ := hs
        simp
        have ns : sp.map D.str ≠ [] := by simpa using h3
        refine s_anyL ns (by simp; omega) fun x hx => s_anyL ns (by simp; omega) fun y hy => ⟨small_le (by decide), ?_⟩
        obtain ⟨x', hx', rfl⟩ := List.mem_map.mp hx
        obtain ⟨y', hy', rfl⟩ := List.mem_map.mp hy
        rw [rng_len] at t1
        exact h5 ⟨x', y', ts, gs⟩ ⟨hx', hy', by show ts.length ≤ 2; omega, hg1, t2, hg2⟩
    have hset : ∀ (gs : List (List Int)) (j : Nat) (g : List Int), (gs.map dF).set j (dF g) = (gs.set j g).map dF := fun gs j g => by simp
    refine s_cast (by omega) (by omega) fun c c0 c1 => ?_
    by_cases q : c = 0
    · simp [q]
      refine s_cast (by omega) (by omega) fun m m0 m1 => ?_
      obtain ⟨b, rfl⟩ := Int.eq_ofNat_of_zero_le m0
      refine s_turn h1 h2 fun g hg => ⟨b, ixN_natE (by omega), ?_⟩
      have := key ((fs.set a f).set b g) (.val (.int b)) (by simp [e1]) fun x hx => by
        rcases List.mem_or_eq_of_mem_set hx with hx | e
        · rcases List.mem_or_eq_of_mem_set hx with hx | e
          · exact e2 x hx
          · rw [e]; exact hf
        · rw [e]; exact hg
      simpa [rng_len] using this
    · simp [q]
      have := key (fs.set a f) .no (by simp [e1]) fun x hx => by
        rcases List.mem_or_eq_of_mem_set hx with hx | e
        · exact e2 x hx
        · rw [e]; exact hf
      simpa [rng_len] using this
/-! ### data that the model compares -/
def pyOk (d : D) (k : Nat) : Prop := d.dat = true ∧ d.py.canLay0 = true ∧ d.py.depth ≤ k
theorem okE_of {d : D} {k : Nat} (h : pyOk d k) (hk : k ≤ 64 := by decide) : d.okE := ⟨h.1, by unfold SeqAt.shaped; rw [h.2.1, decide_eq_true (Nat.le_trans h.2.2 hk)]; rfl⟩
theorem pyOk_int {i : Int} {k : Nat} : pyOk (.int i) k := ⟨by unfold D.dat; rfl, by unfold D.py; rfl, by unfold D.py; exact Nat.zero_le _⟩
theorem pyOk_str {x : Str} {k : Nat} (h : x.cps.all (· < 0x110000) = true) : pyOk (.str x) k := ⟨by unfold D.dat; rfl, by unfold D.py; exact h, by unfold D.py; exact Nat.zero_le _⟩
theorem pyOks {k : Nat} : ∀ {ds : List D}, (∀ d ∈ ds, pyOk d k) → D.dats ds = true ∧ PyData.canLayAll0 (D.pys ds) = true ∧ PyData.depthAll (D.pys ds) ≤ k
  | [], _ => ⟨by unfold D.dats; rfl, by unfold D.pys; rfl, by unfold D.pys; exact Nat.zero_le _⟩
  | d :: ds, h => by
    obtain ⟨a1, a2, a3⟩ := h d (by simp)
    obtain ⟨b1, b2, b3⟩ := pyOks (ds := ds) fun x hx => h x (by simp [hx])
    refine ⟨by unfold D.dats; rw [a1, b1]; rfl, ?_, ?_⟩
    · unfold D.pys
      show (d.py.canLay0 && PyData.canLayAll0 (D.pys ds)) = true
      rw [a2, b2]; rfl
    · unfold D.pys
      show max d.py.depth (PyData.depthAll (D.pys ds)) ≤ k
      omega
theorem pyOk_lst {ds : List D} {k : Nat} (h : ∀ d ∈ ds, pyOk d k) : pyOk (.lst ds) (k + 1) := by
  obtain ⟨b1, b2, b3⟩ := pyOks h
  refine ⟨by unfold D.dat; exact b1, by unfold D.py; exact b2, ?_⟩
  unfold D.py
  show PyData.depthAll (D.pys ds) + 1 ≤ k + 1
  omega
theorem pyOk_tup {ds : List D} {k : Nat} (h : ∀ d ∈ ds, pyOk d k) : pyOk (.tup ds) (k + 1) := by
  obtain ⟨b1, b2, b3⟩ := pyOks h
  refine ⟨by unfold D.dat; exact b1, by unfold D.py; exact b2, ?_⟩
  unfold D.py
  show PyData.depthAll (D.pys ds) + 1 ≤ k + 1
  omega
theorem pyOk_F (f : List Int) : pyOk (dF f) 1 := pyOk_tup (k := 0) fun d hd => by
  obtain ⟨i, _, rfl⟩ := List.mem_map.mp hd
  exact pyOk_int
theorem d__law_lets (xs : List D) (P : D → Prop) (h : S__law_lets.f xs P) : t__law_lets.f (En P) (startS ["_law_arm_here", "_law_here", "_law_low", "_law_ask_here"] xs) := by
  obtain ⟨b, s, rfl, h1, h2, h3⟩ := h
  simp [t__law_lets, startS, dBr, dSt, dFs]
  refine ⟨small_le (by have := h2.lt; omega), lc_filterMap (fun d => match d with
    | .tup ds => if val (ds.map D.toI) s.pt < 0 then some (.tup ds) else none
    | _ => none) _ _ (fun d hd Kk hK => ?_) ?_⟩
  · obtain ⟨f, hf, rfl⟩ := List.mem_map.mp hd
    obtain ⟨q1, q2⟩ := h2.ft f hf
    simp
    refine s_value q1 h1 q2 ?_
    simp [dF, Function.comp_def] at hK ⊢
    by_cases q : val f s.pt < 0
    · simpa [q] using hK
    · simpa [q] using hK
  · have e : (b.tests.map dF).filterMap (fun d => match d with
      | .tup ds => if val (ds.map D.toI) s.pt < 0 then some (D.tup ds) else none
      | _ => none) = (b.tests.filter fun f => decide (val f s.pt < 0)).map dF := by
      rw [List.filterMap_map]
      induction b.tests with
      | nil => rfl
      | cons f r ih =>
        rw [List.filterMap_cons, List.filter_cons, ih]
        by_cases q : val f s.pt < 0 <;> simp [q, dF, Function.comp_def]
    rw [List.nil_append, e]
    refine ⟨small_le (by decide), okE_of (pyOk_lst (k := 1) fun d hd => ?_), okE_of (pyOk_lst (k := 1) fun d hd => by simp at hd), ?_⟩
    · obtain ⟨f, _, rfl⟩ := List.mem_map.mp hd
      exact pyOk_F f
    · simp
      have e2 : PyData.eqv (D.lst (List.map dF (List.filter (fun f => decide (val f s.pt < 0)) b.tests))).py (D.lst []).py = (blk b s.pt).isNone := by
        unfold blk
        induction b.tests with
        | nil => rfl
        | cons f r ih =>
          rw [List.filter_cons, List.findIdx?_cons]
          by_cases q : val f s.pt < 0
          · simp [q]
            rfl
          · simp [q] at ih ⊢
            exact ih
      rw [e2]
      unfold free at h3
      cases q : (blk b s.pt).isNone with
      | true => simpa [q] using h3
      | false => simpa [q] using h3
theorem d__law_behind (xs : List D) (P : D → Prop) (h : S__law_behind.f xs P) : t__law_behind.f (En P) (startS ["_law_arm_here", "_law_here", "_law_turn_here"] xs) := by
  obtain ⟨b, s, rfl, h1, h2, h3⟩ := h
  simp [t__law_behind, startS, dBr, dSt, dFs]
  refine ⟨small_le (by have := h2.lc; omega), lc_map (fun d => .int (val (match d with | .tup ds => ds.map D.toI | _ => []) s.pt)) _ (fun d hd Kk hK => ?_) ?_⟩
  · obtain ⟨f, hf, rfl⟩ := List.mem_map.mp hd
    obtain ⟨q1, q2⟩ := h2.fc f hf
    simp
    refine s_value q1 h1 q2 ?_
    simpa [dF, Function.comp_def] using hK
  · have e : (b.chs.map dF).map (fun d => D.int (val (match d with | .tup ds => ds.map D.toI | _ => []) s.pt)) = (mvd b s.pt).map D.int := by
      unfold mvd
      simp [dF, Function.comp_def]
    rw [e]
    exact ⟨small_le (by decide), h3⟩
theorem d__law_spot (xs : List D) (P : D → Prop) (h : S__law_spot.f xs P) : t__law_spot.f (En P) (startS ["_law_pail", "_law_size", "_law_menu", "_law_k"] xs) := by
  obtain ⟨s, rfl, h1, h2⟩ := h
  simp [t__law_spot, startS]
  refine s_cast (by omega) (by omega) fun a a0 a1 => s_cast (by omega) (by omega) fun b b0 b1 => s_cast (by omega) (by omega) fun c c0 c1 => ⟨small_le (by decide), ?_⟩
  simp [rng_len]
  refine ⟨by omega, small_le (by omega), lc_rel (fun _ y => ∃ i, y = D.int i ∧ (-100 ≤ i ∧ i ≤ 100)) _ _ (fun d hd Kk hK => ?_) fun ys hys => ?_⟩
  · simp
    refine s_cast (by omega) (by omega) fun u u0 u1 => s_cast (by omega) (by omega) fun v v0 v1 => ⟨small_le (by decide), small_le (by decide), s_anyL (by simp) (by simp) fun x hx => hK x ?_⟩
    simp at hx
    rcases hx with e | e | e | e | e <;> exact ⟨_, e, by omega⟩
  · obtain ⟨f, rfl, e1, e2⟩ := alls_ints hys
    rw [rng_len] at e1
    exact h2 f e1 e2
theorem d__law_far_spot (xs : List D) (P : D → Prop) (h : S__law_far_spot.f xs P) : t__law_far_spot.f (En P) (startS ["_law_pail", "_law_size", "_law_found", "_law_k", "_law_vast_here"] xs) := by
  obtain ⟨s, rfl, h1, h2⟩ := h
  simp [t__law_far_spot, startS, rng_len]
  refine ⟨small_le (by decide), by omega, small_le (by omega), for_inv (fun i ss => ∃ (u v : Sl) (f : List Int), f.length = i ∧ (∀ j ∈ f, -BIG ≤ j ∧ j ≤ BIG) ∧ ss = [.val .pail, .val (.int s), .own (f.map .int), u, v]) _ 0 _ ⟨_, _, [], rfl, by simp, rfl⟩ (fun i d hd ss hs N hN => ?_) fun ss hs => ?_⟩
  · obtain ⟨u, v, f, f1, f2, rfl⟩ := hs
    have hi : i < s := by
      have := (List.getElem?_eq_some_iff.mp hd).1
      rwa [rng_len] at this
    simp
    refine ⟨⟨by omega, by omega, by decide⟩, ⟨_, rfl, by decide, fun r r0 r1 => ?_⟩⟩
    simp
    refine s_cast (by omega) (by omega) fun c c0 c1 => ⟨⟨by omega, by omega, by decide⟩, small_le (by decide), s_anyL (by simp) (by simp) fun x hx => ?_⟩
    have hx' : ∃ k : Int, x = .int k ∧ -BIG ≤ k ∧ k ≤ BIG := by
      have hb : BIG = 1000000000000000000000000000000000000000 := rfl
      simp at hx
      rcases hx with e | e | e | e <;> exact ⟨_, e, by rw [hb]; omega, by rw [hb]; omega⟩
    obtain ⟨k, rfl, k1⟩ := hx'
    refine ⟨small_le (by omega), hN _ ⟨.val d, .val (.int r), f ++ [k], by simp; omega, fun j hj => ?_, by simp⟩⟩
    rcases List.mem_append.mp hj with hj | hj
    · exact f2 j hj
    · rw [List.mem_singleton.mp hj]; exact k1
  · obtain ⟨u, v, f, f1, f2, rfl⟩ := hs
    simp
    rw [rng_len] at f1
    exact h2 f (by omega) f2
theorem s_lets {b : Br} {s : Sta} {Q : D → Prop} (h1 : s.pt.length ≤ 3) (h2 : BrOk s.pt.length b) (k : Q (.bl (free b s))) : S__law_lets.f [dBr b, dSt s] Q := ⟨b, s, rfl, h1, h2, k⟩
theorem atI_arms {p : Pt} {k : Nat} (h : k < p.arms.length) : atI (p.arms.map dBr) (k : Int) = some (dBr p.arms[k]) := by
  rw [atI_mapE, atI_natE h]
  rfl
theorem d__law_next (xs : List D) (P : D → Prop) (h : S__law_next.f xs P) : t__law_next.f (En P) (startS ["_law_pail", "_law_parts", "_law_state", "_law_free", "_law_k"] xs) := by
  obtain ⟨p, s, rfl, h1, h2, h3, h4, h5⟩ := h
  have hl : 0 < p.arms.length := List.length_pos_iff.mpr h1
  simp [t__law_next, startS, dPt, dBs, rng_len]
  refine ⟨by omega, small_le (by omega), lc_filterMap (fun d => if free (p.arms.getD d.toI.toNat ⟨Str.empty, Str.empty, [], []⟩) s then some d else none) _ _ (fun d hd Kk hK => ?_) ?_⟩
  · obtain ⟨i, hi, rfl⟩ := rng_mem hd
    simp [atI_arms hi]
    refine s_lets h3 (h4 _ (by simp)) ?_
    simp [List.getD, hi] at hK ⊢
    by_cases q : free p.arms[i] s = true
    · simpa [q] using hK
    · simpa [q] using hK
  · have hsub : ∀ x ∈ (D.rng 0 p.arms.length).filterMap (fun d => if free (p.arms.getD d.toI.toNat ⟨Str.empty, Str.empty, [], []⟩) s then some d else none), ∃ k : Nat, k < p.arms.length ∧ x = .int k := fun x hx => by
      obtain ⟨d, hd, e⟩ := List.mem_filterMap.mp hx
      obtain ⟨i, hi, rfl⟩ := rng_mem hd
      split at e
      · cases e
        exact ⟨i, hi, by simp⟩
      · cases e
    have hlen : ((D.rng 0 p.arms.length).filterMap (fun d => if free (p.arms.getD d.toI.toNat ⟨Str.empty, Str.empty, [], []⟩) s then some d else none)).length ≤ 5 := by
      refine Nat.le_trans (List.length_filterMap_le _ _) ?_
      rw [rng_len]; exact h2
    generalize (D.rng 0 p.arms.length).filterMap (fun d => if free (p.arms.getD d.toI.toNat ⟨Str.empty, Str.empty, [], []⟩) s then some d else none) = L at hsub hlen
    rw [List.nil_append]
    refine ⟨small_le (by omega), small_le (by omega), s_cast (by omega) (by omega) fun r r0 r1 => ⟨small_le (by decide), small_le (by omega), s_anyL (by simp) (by simp; omega) fun x hx => ?_⟩⟩
    obtain ⟨n, rfl⟩ := Int.eq_ofNat_of_zero_le r0
    have hx' : x ∈ L ∨ x = .int n := by
      simp at hx
      exact hx
    rcases hx' with hx | rfl
    · obtain ⟨k, hk, rfl⟩ := hsub x hx
      exact h5 k hk
    · exact h5 n (by omega)
end KK
set_option maxRecDepth 100000
set_option maxHeartbeats 2000000
namespace KK
open PySem PySem.Spec PyProof.Rows L2 DL
theorem cut_from {α : Type} (xs : List α) {i : Nat} (h : i ≤ xs.length) : DL.cutD xs (some (i : Int)) none = xs.drop i := by
  unfold DL.cutD
  rw [HT.sIx_none, HT.sIx_nat, Nat.min_eq_left h]
  exact List.take_of_length_le (by simp)
theorem cut_mid {α : Type} (xs : List α) {i j : Nat} (h : i ≤ j) (h2 : j ≤ xs.length) : DL.cutD xs (some (i : Int)) (some (j : Int)) = (xs.drop i).take (j - i) := by
  unfold DL.cutD
  rw [HT.sIx_nat, HT.sIx_nat, Nat.min_eq_left h2, Nat.min_eq_left (Nat.le_trans h h2)]
def nmB (z : Str) : Bool := match tl z with
  | c :: r => decide (r.length ≤ 7) && decide (c ∈ LET) && r.all fun d => decide (d ∈ LET) || decide (d ∈ DIG)
  | [] => false
theorem nmB_ok {z : Str} (h : nmB z = true) : NmOk z := by
  unfold nmB at h
  split at h
  · rename_i c r e
    simp only [Bool.and_eq_true, decide_eq_true_eq, List.all_eq_true, Bool.or_eq_true] at h
    exact ⟨c, r, e, h.1.1, h.1.2, h.2⟩
  · cases h
theorem menu_nm : ∀ z ∈ MENU, NmOk z := fun z hz => nmB_ok (List.all_eq_true.mp (show MENU.all nmB = true by decide +kernel) z hz)
theorem menu_nd : MENU.Nodup := by decide +kernel
theorem menu_len : MENU.length = 14 := rfl
theorem d__law_tags (xs : List D) (P : D → Prop) (h : S__law_tags.f xs P) : t__law_tags.f (En P) (startS ["_law_pail", "_law_many", "_law_menu", "_law_at"] xs) := by
  obtain ⟨n, rfl, h1, h2⟩ := h
  simp [t__law_tags, startS]
  refine ⟨small_le (by decide), s_cast (by omega) (by omega) fun r r0 r1 => ?_⟩
  obtain ⟨a, rfl⟩ := Int.eq_ofNat_of_zero_le r0
  have ha : a < 14 := by omega
  have e : ∀ l : List D, l = MENU.map D.str → small ((DL.cutD l (some (a : Int)) none).length + (DL.cutD l none (some (a : Int))).length) ∧ P (.lst (DL.cutD (DL.cutD l (some (a : Int)) none ++ DL.cutD l none (some (a : Int))) none (some (n : Int)))) := by
    rintro l rfl
    have hl : (MENU.map D.str).length = 14 := by rw [List.length_map, menu_len]
    rw [cut_from _ (by rw [hl]; omega), cut_to _ (by rw [hl]; omega), cut_to _ (by simp [menu_len]; omega)]
    refine ⟨small_le (by simp [menu_len]; omega), ?_⟩
    have e2 : ((MENU.map D.str).drop a ++ (MENU.map D.str).take a).take n = ((MENU.drop a ++ MENU.take a).take n).map D.str := by
      rw [← List.map_drop, ← List.map_take, ← List.map_append, ← List.map_take]
    rw [e2]
    have sub : ∀ z ∈ (MENU.drop a ++ MENU.take a).take n, z ∈ MENU := fun z hz => by
      have := List.mem_of_mem_take hz
      rcases List.mem_append.mp this with q | q
      · exact List.mem_of_mem_drop q
      · exact List.mem_of_mem_take q
    refine h2 _ (by simp [menu_len]; omega) ?_ fun z hz => menu_nm z (sub z hz)
    have nd : (MENU.drop a ++ MENU.take a).Nodup := by
      have pm : (MENU.drop a ++ MENU.take a).Perm MENU := by
        have := List.perm_append_comm (l₁ := MENU.drop a) (l₂ := MENU.take a)
        rwa [List.take_append_drop] at this
      exact pm.nodup_iff.mpr menu_nd
    exact (List.take_sublist _ _).nodup nd
  exact e _ rfl
theorem s_tags {n : Nat} {Q : D → Prop} (h0 : n ≤ 14) (h : ∀ zs : List Str, zs.length = n → zs.Nodup → (∀ z ∈ zs, NmOk z) → Q (.lst (zs.map .str))) : S__law_tags.f [.pail, .int n] Q := ⟨n, rfl, h0, h⟩
theorem cut_strs (zs : List Str) (lo hi : Option Int) : DL.cutD (zs.map D.str) lo hi = (DL.cutD zs lo hi).map D.str := by
  unfold DL.cutD
  rw [List.length_map, ← List.map_drop, ← List.map_take]
theorem d__law_small (xs : List D) (P : D → Prop) (h : S__law_small.f xs P) : t__law_small.f (En P) (startS ["_law_pail", "_law_most", "_law_size", "_law_tags_here", "_law_spots_here", "_law_says", "_law_k", "_law_some", "_law_arms"] xs) := by
  obtain ⟨m, rfl, h1, h2, h3⟩ := h
  simp [t__law_small, startS]
  refine s_cast (by omega) (by omega) fun r r0 r1 => ?_
  obtain ⟨s, hs⟩ : ∃ s : Nat, 1 + r = s := ⟨(1 + r).toNat, by omega⟩
  simp [hs]
  have hs1 : 1 ≤ s := by omega
  have hs2 : s ≤ 2 := by omega
  refine s_tags (n := 6) (by omega) fun zs z1 z2 z3 => ⟨small_le (by decide), small_le (by decide), s_anyL (by simp) (by simp) fun x hx => ?_⟩
  have hx' : ∃ k : Nat, x = .int k ∧ k ≤ 2 := by
    simp at hx
    rcases hx with e | e | e
    · exact ⟨0, e, by omega⟩
    · exact ⟨1, e, by omega⟩
    · exact ⟨2, e, by omega⟩
  obtain ⟨k, rfl, hk⟩ := hx'
  have e4 : (4 : Int) + k = ((4 + k : Nat) : Int) := by omega
  simp
  rw [e4, cut_strs, show (3 : Int) = ((3 : Nat) : Int) from rfl, cut_mid _ (by omega) (by omega)]
  have e5 : 4 + k - 3 = k + 1 := by omega
  rw [e5]
  -- the places
  have q1 : ((zs.drop 3).take (k + 1)).length = k + 1 := by simp [z1]; omega
  have q2 : ((zs.drop 3).take (k + 1)).Nodup := ((List.take_sublist _ _).trans (List.drop_sublist _ _)).nodup z2
  have q3 : ∀ z ∈ (zs.drop 3).take (k + 1), NmOk z := fun z hz => z3 z (List.mem_of_mem_drop (List.mem_of_mem_take hz))
  generalize (zs.drop 3).take (k + 1) = sp at q1 q2 q3
  have spn : sp ≠ [] := fun e => by rw [e] at q1; cases q1
  have spm : sp.map D.str ≠ [] := by simpa using spn
  refine ⟨small_le (by decide), small_le (by decide), s_anyL (by simp) (by simp) fun x hx => ?_⟩
  have hx' : ∃ k : Nat, x = .int k ∧ k ≤ 2 := by
    simp at hx
    rcases hx with e | e | e
    · exact ⟨0, e, by omega⟩
    · exact ⟨1, e, by omega⟩
    · exact ⟨2, e, by omega⟩
  obtain ⟨c, rfl, hc⟩ := hx'
  simp [rng_len]
  refine ⟨by omega, small_le (by omega), for_inv (fun i ss => ∃ (u v : Sl) (says : List Sy), says.length = i ∧ (∀ y ∈ says, y.pl ∈ sp ∧ FmS s y.f) ∧ ss = [.val .pail, .val (.int m), .val (.int s), .val (.lst (zs.map .str)), .val (.lst (sp.map .str)), .own (says.map dSy), u, v, .no]) _ 0 _ ⟨_, _, [], rfl, by simp, rfl⟩ (fun i d hd ss hs N hN => ?_) fun ss hs => ?_⟩
  · obtain ⟨u, v, says, y1, y2, rfl⟩ := hs
    have hi : i < c := by
      have := (List.getElem?_eq_some_iff.mp hd).1
      rwa [rng_len] at this
    simp
    refine s_cast (by omega) (by omega) fun a a0 a1 => s_unit (by omega) ?_
    refine s_anyL spm (by simp; omega) fun x hx => s_cast (by omega) (by omega) fun b b0 b1 => ?_
    obtain ⟨z, hz, rfl⟩ := List.mem_map.mp hx
    refine s_shift (unit_ne _ _) (by rw [unit_len]; omega) ⟨small_le (by decide), small_le (by omega), hN _ ⟨.val d, .val (dF (unit s a)), says ++ [⟨z, (unit s a).dropLast ++ [(unit s a).getLastD 0 + (b - 1)]⟩], by simp; omega, fun y hy => ?_, by simp [dSy]⟩⟩
    rcases List.mem_append.mp hy with hy | hy
    · exact y2 y hy
    · rw [List.mem_singleton.mp hy]
      exact ⟨hz, fms_shift (c := 1) (unit_len _ _) (fun i hi => by have := unit_b _ _ i hi; omega) (by omega) (by omega)⟩
  · obtain ⟨u, v, says, y1, y2, rfl⟩ := hs
    rw [rng_len] at y1
    simp
    refine s_cast (by omega) (by omega) fun a a0 a1 => ?_
    obtain ⟨n, hn⟩ : ∃ n : Nat, 1 + a = n := ⟨(1 + a).toNat, by omega⟩
    simp [hn, rng_len]
    refine ⟨by omega, small_le (by omega), lc_rel (fun _ y => ∃ b, y = dBr b ∧ BrS s sp b) _ _ (fun d hd Kk hK => ?_) fun ys hys => ?_⟩
    · simp
      exact s_arm hs1 (by omega) spn (by omega) fun b hb => hK _ ⟨b, rfl, hb⟩
    · obtain ⟨arms, rfl, e1, e2⟩ := alls_forms hys
      rw [rng_len] at e1
      simp
      rw [cut_strs, cut_to _ (by omega)]
      refine ⟨small_le (by decide), ?_⟩
      have hl : (zs.take s).length = s := by simp [z1]; omega
      refine h3 ⟨zs.take s, says, arms⟩ ⟨by rw [hl]; exact hs1, by rw [hl]; exact hs2, (List.take_sublist _ _).nodup z2, fun z hz => z3 z (List.mem_of_mem_take hz), ⟨sp, spn, by omega, q2, q3, fun y hy => (y2 y hy).1, fun b hb => ?_⟩, ?_, fun y hy => ?_, ?_, ?_⟩
      · show BrS (zs.take s).length sp b
        rw [hl]
        exact e2 b hb
      · show says.length ≤ 2; omega
      · show FmS (zs.take s).length y.f
        rw [hl]
        exact (y2 y hy).2
      · intro e
        have : arms.length = 0 := by rw [show arms = [] from e]; rfl
        omega
      · show arms.length ≤ 5; omega
end KK
set_option maxRecDepth 100000
set_option maxHeartbeats 2000000
namespace KK
open PySem PySem.Spec PyProof.Rows L2 DL
theorem joinL_len (S : List Nat) : ∀ ps : List (List Nat), (TL.joinL S ps).length ≤ (ps.map List.length).sum + ps.length * S.length
  | [] => by simp [TL.joinL]
  | [p] => by simp [TL.joinL]
  | p :: q :: r => by
    have := joinL_len S (q :: r)
    show (p ++ (S ++ TL.joinL S (q :: r))).length ≤ _
    rw [List.length_append, List.length_append, List.map_cons, List.sum_cons, List.length_cons, Nat.add_mul]
    omega
theorem join_len {y : Str} {ps : List Str} {k : Nat} (h : ∀ p ∈ ps, p.length ≤ k) : (Txt.join y ps).length ≤ ps.length * (k + y.length) := by
  rw [TL.join_eq, slen, show tl (Str.join y ps) = TL.tl (Str.join y ps) from rfl, TL.tl_join]
  refine Nat.le_trans (joinL_len _ _) ?_
  rw [List.map_map, List.length_map, Nat.mul_add, slen]
  have := sum_le (f := List.length ∘ TL.tl) (k := k) (l := ps) fun p hp => by
    have := h p hp
    rw [slen] at this
    exact this
  exact Nat.add_le_add_right this _
theorem words_len {f : List Int} (h : FmW f) : (words f).length ≤ 40 := by
  have := join_len (y := (" " : Str)) (ps := f.map iTx) (k := 8) fun p hp => by
    obtain ⟨i, hi, rfl⟩ := List.mem_map.mp hp
    exact iTx_len (h.2 i hi)
  rw [List.length_map] at this
  have e : (" " : Str).length = 1 := by decide
  rw [e] at this
  have h1 := h.1
  refine Nat.le_trans this ?_
  omega
theorem app_len (a b : Str) : (a ++ b).length = a.length + b.length := Str.length_append a b
@[simp] theorem cs1 : ("branch " : Str).length = 7 := by decide
@[simp] theorem cs2 : (" " : Str).length = 1 := by decide
@[simp] theorem cs3 : ("test " : Str).length = 5 := by decide
@[simp] theorem cs4 : ("then " : Str).length = 5 := by decide
@[simp] theorem cs5 : ("; " : Str).length = 2 := by decide
@[simp] theorem cs6 : ("vars " : Str).length = 5 := by decide
@[simp] theorem cs7 : ("say " : Str).length = 4 := by decide
@[simp] theorem cs8 : ("\n" : Str).length = 1 := by decide
theorem strs_all {α : Type} {f : α → Str} {l : List α} : ∀ x ∈ l.map fun a => D.str (f a), x.isS = true := fun x hx => by
  obtain ⟨a, _, rfl⟩ := List.mem_map.mp hx
  rfl
theorem d__law_arm_lines (xs : List D) (P : D → Prop) (h : S__law_arm_lines.f xs P) : t__law_arm_lines.f (En P) (startS ["_law_arm_here", "_law_near", "_law_far", "_law_asks", "_law_turns", "_law_lines_here", "_law_ask_here", "_law_turn_here"] xs) := by
  obtain ⟨b, rfl, ⟨h1, h2, h3, h4, h5, h6⟩, h7⟩ := h
  simp [t__law_arm_lines, startS, dBr, dFs, app_len]
  refine ⟨small_le (by omega), small_le (by omega), small_le (by omega), small_le (by omega), small_le (by omega), lc_map (fun d => .str (("test " : Str) ++ words (match d with | .tup ds => ds.map D.toI | _ => []))) _ (fun d hd Kk hK => ?_) ?_⟩
  · obtain ⟨f, hf, rfl⟩ := List.mem_map.mp hd
    have hw := words_len (h5 f hf)
    simp
    refine s_words (h5 f hf) ?_
    simp
    refine ⟨small_le (by omega), ?_⟩
    simpa [dF, Function.comp_def] using hK
  · simp
    refine ⟨small_le (by omega), small_le (by omega), lc_map (fun d => .str (words (match d with | .tup ds => ds.map D.toI | _ => []))) _ (fun d hd Kk hK => ?_) ?_⟩
    · obtain ⟨f, hf, rfl⟩ := List.mem_map.mp hd
      simp
      refine s_words (h6 f hf) ?_
      simpa [dF, Function.comp_def] using hK
    · have e1 : (b.chs.map dF).map (fun d => D.str (words (match d with | .tup ds => ds.map D.toI | _ => []))) = (b.chs.map words).map D.str := by
        simp [dF, Function.comp_def]
      rw [e1]
      have hb : ((b.chs.map words).map (·.length)).sum ≤ (b.chs.map words).length * 40 := sum_le fun p hp => by
        obtain ⟨f, hf, rfl⟩ := List.mem_map.mp hp
        exact words_len (h6 f hf)
      have hj := join_len (y := ("; " : Str)) (ps := b.chs.map words) (k := 40) fun p hp => by
        obtain ⟨f, hf, rfl⟩ := List.mem_map.mp hp
        exact words_len (h6 f hf)
      rw [List.length_map] at hb hj
      rw [cs5] at hj
      have e2 : ((b.chs.map words).map D.str).map D.toS = b.chs.map words := by simp [Function.comp_def]
      rw [e2]
      refine ⟨fun x hx => ?_, ?_, small_le (by omega), small_le (by decide), small_le (by omega), ?_⟩
      · obtain ⟨a, _, rfl⟩ := List.mem_map.mp hx
        rfl
      · rw [List.length_map, List.length_map]
        rw [List.map_map] at hb ⊢
        rw [List.map_map]
        have ef : ((((fun x : Str => x.length) ∘ D.toS) ∘ D.str) ∘ words) = ((fun x : Str => x.length) ∘ words) := rfl
        rw [ef]
        omega
      · simpa [armL, Function.comp_def, dF] using h7
theorem s_armL {b : Br} {Q : D → Prop} (h : BrW b) (k : Q (.lst ((armL b).map .str))) : S__law_arm_lines.f [dBr b] Q := ⟨b, rfl, h, k⟩
theorem armL_len {b : Br} (h : BrW b) : (armL b).length ≤ 5 := by
  have := h.lt
  unfold armL
  simp
  omega
theorem d__law_lines (xs : List D) (P : D → Prop) (h : S__law_lines.f xs P) : t__law_lines.f (En P) (startS ["_law_parts", "_law_lines_here", "_law_spot_here", "_law_some", "_law_arm_here"] xs) := by
  obtain ⟨p, rfl, ⟨h1, h2, h3, h4, h5, h6⟩, h7⟩ := h
  have hb : (p.names.map (·.length)).sum ≤ p.names.length * 8 := sum_le h2
  have hj := join_len (y := (" " : Str)) (ps := p.names) (k := 8) h2
  rw [cs2] at hj
  simp [t__law_lines, startS, dPt, dNm, app_len, Function.comp_def]
  refine ⟨by omega, small_le (by omega), small_le (by decide), ?_⟩
  simp [dSs]
  refine ⟨small_le (by omega), for_inv (fun i ss => ∃ u v, ss = [.val (dPt p), .own ((("vars " : Str) ++ Txt.join " " p.names) :: ((p.says.take i).map fun s => ("say " : Str) ++ s.pl ++ (" " : Str) ++ words s.f) |>.map .str), u, v, .no]) _ 0 _ ⟨.no, .no, ?_⟩ (fun i d hd ss hs N hN => ?_) fun ss hs => ?_⟩
  · simp [dPt, dNm, dSs]
  · obtain ⟨u, v, rfl⟩ := hs
    have hi : i < p.says.length := by
      have := (List.getElem?_eq_some_iff.mp hd).1
      simpa using this
    rw [List.getElem?_map, List.getElem?_eq_getElem hi] at hd
    cases hd
    obtain ⟨g1, g2⟩ := h4 p.says[i] (by simp)
    have hw := words_len g2
    simp [dSy, app_len]
    refine ⟨small_le (by omega), small_le (by omega), s_words g2 ⟨small_le (by simp only [app_len, cs7, cs2]; omega), small_le (by omega), hN _ ⟨.val (.str p.says[i].pl), .val (dF p.says[i].f), ?_⟩⟩⟩
    simp
    rw [List.take_succ_eq_append_getElem (by simpa using hi)]
    simp
  · obtain ⟨u, v, rfl⟩ := hs
    have e0 : p.says.take (0 + (p.says.map dSy).length) = p.says := by simp
    rw [e0]
    simp [dPt, dBs]
    refine ⟨small_le (by omega), for_inv (fun i ss => ∃ w, ss = [.val (dPt p), .own (((("vars " : Str) ++ Txt.join " " p.names) :: (p.says.map fun s => ("say " : Str) ++ s.pl ++ (" " : Str) ++ words s.f) ++ (p.arms.take i).flatMap armL).map .str), u, v, w]) _ 0 _ ⟨.no, ?_⟩ (fun i d hd ss hs N hN => ?_) fun ss hs => ?_⟩
    · simp [dPt, dBs]
    · obtain ⟨w, rfl⟩ := hs
      have hi : i < p.arms.length := by
        have := (List.getElem?_eq_some_iff.mp hd).1
        simpa using this
      rw [List.getElem?_map, List.getElem?_eq_getElem hi] at hd
      cases hd
      have hw := h6 p.arms[i] (by simp)
      have hal := armL_len hw
      have hfl : ((p.arms.take i).flatMap armL).length ≤ 25 := by
        rw [List.length_flatMap]
        have := sum_le (f := fun b => (armL b).length) (k := 5) (l := p.arms.take i) fun b hb => armL_len (h6 b (List.mem_of_mem_take hb))
        have e : (p.arms.take i).length ≤ 5 := by rw [List.length_take]; omega
        omega
      simp
      refine s_armL hw ⟨?_, ?_, hN _ ⟨.val (dBr p.arms[i]), ?_⟩⟩
      · refine small_le ?_
        rw [List.length_flatMap, List.map_take] at hfl
        simp
        omega
      · intro x hx
        simp at hx
        rcases hx with (rfl | ⟨a, _, rfl⟩ | ⟨a, _, rfl⟩) | ⟨a, _, rfl⟩ <;> rfl
      · simp
        rw [List.take_succ_eq_append_getElem hi, List.flatMap_append, List.map_append]
        simp
    · obtain ⟨w, rfl⟩ := hs
      have e0 : p.arms.take (0 + (p.arms.map dBr).length) = p.arms := by simp
      rw [e0]
      simpa [ptL] using h7
theorem not_in_own {neg : Bool} {x : Str} {l : List Str} {Q : D → Prop} (h : Q (.bl (if neg then !decide (x ∈ l) else decide (x ∈ l)))) : fIn neg (.str x) (.lst (l.map .str)) Q := in_strs _ (.inr rfl) h
theorem d__law_spots (xs : List D) (P : D → Prop) (h : S__law_spots.f xs P) : t__law_spots.f (En P) (startS ["_law_parts", "_law_found", "_law_spot_here", "_law_some", "_law_arm_here"] xs) := by
  obtain ⟨p, rfl, h1, h2, h3⟩ := h
  simp [t__law_spots, startS, dPt]
  refine ⟨small_le (by decide), ?_⟩
  simp [dSs]
  refine ⟨small_le (by omega), for_inv (fun i ss => ∃ u v, ∃ l : List Str, l.length ≤ i ∧ (∀ z, z ∈ l ↔ z ∈ (p.says.take i).map Sy.pl) ∧ ss = [.val (dPt p), .own (l.map .str), u, v, .no]) _ 0 _ ⟨.no, .no, [], by simp, by simp, ?_⟩ (fun i d hd ss hs N hN => ?_) fun ss hs => ?_⟩
  · simp [dPt, dSs]
  · obtain ⟨u, v, l, l1, l2, rfl⟩ := hs
    have hi : i < p.says.length := by
      have := (List.getElem?_eq_some_iff.mp hd).1
      simpa using this
    rw [List.getElem?_map, List.getElem?_eq_getElem hi] at hd
    cases hd
    simp [dSy]
    refine not_in_own ?_
    simp
    have mem : ∀ z, z ∈ (p.says.take (0 + i + 1)).map Sy.pl ↔ z ∈ (p.says.take (0 + i)).map Sy.pl ∨ z = p.says[i].pl := fun z => by
      rw [Nat.zero_add, List.take_succ_eq_append_getElem hi, List.map_append, List.mem_append]
      simp
    by_cases q : p.says[i].pl ∈ l
    · simp [q]
      refine hN _ ⟨.val (.str p.says[i].pl), .val (dF p.says[i].f), l, by omega, fun z => ?_, rfl⟩
      rw [mem, ← l2]
      constructor
      · exact .inl
      · rintro (z | rfl)
        · exact z
        · exact q
    · simp [q]
      refine ⟨small_le (by omega), hN _ ⟨.val (.str p.says[i].pl), .val (dF p.says[i].f), l ++ [p.says[i].pl], by simp; omega, fun z => ?_, by simp⟩⟩
      rw [mem, ← l2, List.mem_append, List.mem_singleton]
  · obtain ⟨u, v, l, l1, l2, rfl⟩ := hs
    have e0 : p.says.take (0 + (p.says.map dSy).length) = p.says := by simp
    rw [e0] at l2
    have l1 : l.length ≤ 3 := by simp at l1; omega
    simp [dPt, dBs]
    refine ⟨small_le (by omega), for_inv (fun i ss => ∃ u v w, ∃ l : List Str, l.length ≤ 3 + 2 * i ∧ (∀ z, z ∈ l ↔ z ∈ allPl p.says (p.arms.take i)) ∧ ss = [.val (dPt p), .own (l.map .str), u, v, w]) _ 0 _ ⟨u, v, .no, l, by simpa using l1, fun z => by simpa [allPl] using l2 z, ?_⟩ (fun i d hd ss hs N hN => ?_) fun ss hs => ?_⟩
    · simp [dPt, dBs]
    · obtain ⟨u, v, w, l, k1, k2, rfl⟩ := hs
      have hi : i < p.arms.length := by
        have := (List.getElem?_eq_some_iff.mp hd).1
        simpa using this
      rw [List.getElem?_map, List.getElem?_eq_getElem hi] at hd
      cases hd
      simp [dBr]
      rw [show (2 : Int) = ((2 : Nat) : Int) from rfl, cut_to _ (by simp)]
      -- one place
      have one : ∀ (l : List Str) (x : Str) (u v w : Sl) (N : Sls → Prop), l.length ≤ 100 → (∀ l' : List Str, l'.length ≤ l.length + 1 → (∀ z, z ∈ l' ↔ z ∈ l ∨ z = x) → N [.val (dPt p), .own (l'.map .str), .val (.str x), v, w]) →
          (dgName 2) (.str x) [.val (dPt p), .own (l.map .str), u, v, w] fun ss => (dIfS (dBorT 1 (dTest (dOp (fIn true) (dVar 2) (dVar 1)))) (dApp 1 (dVar 2)) dNext).f ⟨N, fun d x => P d, N, N⟩ ss := by
        intro l x u v w N hl hN
        simp
        refine not_in_own ?_
        simp
        by_cases q : x ∈ l
        · simp [q]
          refine hN l (by omega) fun z => ⟨.inl, ?_⟩
          rintro (z | rfl)
          · exact z
          · exact q
        · simp [q]
          have := hN (l ++ [x]) (by simp) fun z => by simp
          refine ⟨small_le (by omega), ?_⟩
          simpa using this
      have := one l p.arms[i].src u v (.val (dBr p.arms[i])) (fun ss => dgName 2 (.str p.arms[i].tgt) ss fun ss => (dIfS (dBorT 1 (dTest (dOp (fIn true) (dVar 2) (dVar 1)))) (dApp 1 (dVar 2)) dNext).f ⟨N, fun d x => P d, N, N⟩ ss) (by omega) fun l1 q1 q2 =>
        one l1 p.arms[i].tgt _ v (.val (dBr p.arms[i])) N (by omega) fun l2 r1 r2 => hN _ ⟨_, _, _, l2, by omega, fun z => by
          rw [r2, q2, k2, Nat.zero_add, allPl_succ hi, List.mem_append]
          simp [or_assoc], rfl⟩
      refine ⟨small_le (by simp), ?_⟩
      simpa [forD, dBr] using this
    · obtain ⟨u, v, w, l, k1, k2, rfl⟩ := hs
      have e0 : p.arms.take (0 + (p.arms.map dBr).length) = p.arms := by simp
      rw [e0] at k2
      simp
      exact h3 l (by simp at k1; omega) k2
theorem ptL_len {p : Pt} (h : PtW p) : (ptL p).length ≤ 29 := by
  unfold ptL
  have := sum_le (f := fun b => (armL b).length) (k := 5) (l := p.arms) fun b hb => armL_len (h.aa b hb)
  have h1 := h.a
  have h2 := h.s
  simp [List.length_flatMap]
  omega
theorem ptL_each {p : Pt} (h : PtW p) : ∀ z ∈ ptL p, z.length ≤ 200 := fun z hz => by
  unfold ptL at hz
  rcases List.mem_append.mp hz with hz | hz
  · rcases List.mem_append.mp hz with hz | hz
    · have hj := join_len (y := (" " : Str)) (ps := p.names) (k := 8) h.nn
      have h1 := h.n
      rw [List.mem_singleton.mp hz, app_len, cs6]
      rw [cs2] at hj
      omega
    · obtain ⟨s, hs, rfl⟩ := List.mem_map.mp hz
      obtain ⟨g1, g2⟩ := h.ss s hs
      have hw := words_len g2
      simp only [app_len, cs7, cs2]
      omega
  · obtain ⟨b, hb, hz⟩ := List.mem_flatMap.mp hz
    obtain ⟨g1, g2, g3, g4, g5, g6⟩ := h.aa b hb
    unfold armL at hz
    rcases List.mem_append.mp hz with hz | hz
    · rcases List.mem_append.mp hz with hz | hz
      · rw [List.mem_singleton.mp hz]
        simp only [app_len, cs1, cs2]
        omega
      · obtain ⟨f, hf, rfl⟩ := List.mem_map.mp hz
        have hw := words_len (g5 f hf)
        simp only [app_len, cs3]
        omega
    · have hj := join_len (y := ("; " : Str)) (ps := b.chs.map words) (k := 40) fun p hp => by
        obtain ⟨f, hf, rfl⟩ := List.mem_map.mp hp
        exact words_len (g6 f hf)
      rw [List.length_map, cs5] at hj
      rw [List.mem_singleton.mp hz, app_len, cs4]
      omega
theorem d__law_sheet (xs : List D) (P : D → Prop) (h : S__law_sheet.f xs P) : t__law_sheet.f (En P) (startS ["_law_parts"] xs) := by
  obtain ⟨p, rfl, h1, h2⟩ := h
  have hl := ptL_len h1
  have hs : ((ptL p).map (·.length)).sum ≤ (ptL p).length * 200 := sum_le (ptL_each h1)
  simp [t__law_sheet, startS]
  refine ⟨p, rfl, h1, ?_⟩
  simp [Function.comp_def]
  exact ⟨by omega, h2⟩
end KK
set_option maxRecDepth 100000
set_option maxHeartbeats 2000000
namespace DL
open PySem PySem.Spec PyProof.Rows L2
/-! ### len(x), bool(x) of an instance with its own __len__, __bool__ -/
section
variable {prog : Program} {w : World} {A : Around} {E : Value → Shared → Prop} {s : Shared} {K : PySem.W.Frag} {x C f : Addr} {ox : Obj} {odd : Option Obj}
theorem len_inst {Q : Value → Shared → Prop} (X : K.In s.heap) (I : PySem.W.InstAt s.heap x ox C odd) (hs : PySem.W.findIn K (.ref C) "__len__" = some (some (.ref f))) (hf : PySem.W.isFn K (.ref f) = true)
    (h : wpAny (model prog w) A.in1 (call (.ref f) [.ref x]) (fun r s' => ∃ n u, r = .int n u ∧ 0 ≤ n ∧ n < 2 ^ 63 ∧ Q (.int n s'.toks) { s' with toks := s'.toks + 1 }) E s) :
    wpAny (model prog w) A (call (.builtin "len") [.ref x]) Q E s := by
  refine Calls.call_function_entry kind_len plain_len entry_len (args_len1 _) ?_
  unfold Builtin.«len»
  refine wpAny_bind (m := oneArg "len" _) (wpAny_pure ?_)
  refine wpAny_bind (m := callSpecial? (.ref x) (Str.ofString "__len__")) (PySem.W.special_fn X I hs (beq_iff_eq.mp hf) (wpAny_mono h (fun r s' hr => ?_) fun _ _ y => y))
  obtain ⟨n, u, rfl, h0, h1, hq⟩ := hr
  refine wpAny_bind (wpAny_holding (wpAny_pure ?_))
  refine wpAny_bind (wpAny_letGo ?_)
  show wpAny _ _ (if n < 0 then _ else _) _ _ _
  rw [if_neg (by omega)]
  show wpAny _ _ (if n ≥ 2 ^ 63 then _ else _) _ _ _
  rw [if_neg (by omega)]
  exact wpAny_bind (wpAny_mkInt (wpAny_pure ⟨_, rfl, hq⟩))
theorem truthy_inst {M : Model} {A : Around} {Q : Bool → Shared → Prop} (X : K.In s.heap) (I : PySem.W.InstAt s.heap x ox C odd) (hs : PySem.W.findIn K (.ref C) "__bool__" = some (some (.ref f))) (hf : PySem.W.isFn K (.ref f) = true)
    (h : wpAny M A (call (.ref f) [.ref x]) (fun r s' => ∃ b, r = .bool b ∧ Q b s') E s) : wpAny M A (truthy (.ref x)) Q E s := by
  unfold truthy
  first
    | (refine wpAny_bind (m := callSpecial? (.ref x) (Str.ofString "__bool__")) (PySem.W.special_fn X I hs (beq_iff_eq.mp hf) (wpAny_mono h (fun r s' hr => ?_) fun _ _ y => y)))
    | (refine wpAny_bind (wpAny_pure ?_); refine wpAny_bind (m := callSpecial? (.ref x) (Str.ofString "__bool__")) (PySem.W.special_fn X I hs (beq_iff_eq.mp hf) (wpAny_mono h (fun r s' hr => ?_) fun _ _ y => y)))
  obtain ⟨b, rfl, hq⟩ := hr
  first
    | exact wpAny_pure hq
    | exact wpAny_bind (wpAny_pure hq)
theorem bool_inst {Q : Value → Shared → Prop} (X : K.In s.heap) (I : PySem.W.InstAt s.heap x ox C odd) (hs : PySem.W.findIn K (.ref C) "__bool__" = some (some (.ref f))) (hf : PySem.W.isFn K (.ref f) = true)
    (h : wpAny (model prog w) A.in1.in1 (call (.ref f) [.ref x]) (fun r s' => ∃ b, r = .bool b ∧ Q (.bool b) s') E s) : wpAny (model prog w) A (call (.type "bool") [.ref x]) Q E s := by
  refine callType_codes (T := "bool") (Bi := Builtin.«object.__init__») (Q₁ := fun r s₁ => ∃ b, r = Value.bool b ∧ Q r s₁) PySem.F.called_bool (PySem.F.typeCall_bool_1 _) PySem.F.entry_object_init ?_ ?_
  · refine codeAny_of_tree ?_
    show wpAny _ A.in1.in1 (do checkBuiltinCall "bool.__new__" ⟨[.type "bool", .ref x], []⟩; again (.builtin "bool.__new__" ⟨[.type "bool", .ref x], []⟩)) _ _ s
    refine wpAny_bind (wpAny_of_eq (PySem.F.newCall_bool_1 _) (wpAny_pure ⟨plainId_quiet (by decide +kernel) _, codeAny_builtin PySem.F.entry_bool_new ?_⟩))
    rw [Around.under_plainId (by decide +kernel) _]
    have f1 := PySem.F.conv_sub_bool
    unfold Builtin.«bool.__new__»
    refine wpAny_bind (wpAny_of_eq (a := true) (by first | rfl | kernel_rfl) ?_)
    refine PySem.W.KFB.if_not rfl ?_
    refine wpAny_bind (wpAny_of_eq (a := true) f1 ?_)
    refine PySem.W.KFB.if_not rfl ?_
    refine wpAny_bind (wpAny_of_eq (a := [.ref x]) (by first | rfl | kernel_rfl) ?_)
    refine wpAny_bind (truthy_inst X I hs hf (wpAny_mono h (fun r s' hr => ?_) fun _ _ y => y))
    obtain ⟨b, rfl, hq⟩ := hr
    exact ⟨b, rfl, wpAny_pure ⟨b, rfl, hq⟩⟩
  · rintro obj s₁ ⟨b, rfl, hq⟩
    exact ⟨PySem.typeIs_bool _ _, PySem.F.args_object_init_2 _ _, object_init_meets PySem.F.called_bool.init.lookup PySem.F.called_bool.made (by decide) prog w A.in1 _ s₁ ⟨PySem.typeIs_bool _ _, rfl, hq⟩⟩
end
/-- a is an instance of the class at C -/
def IsIn (H : Hp) (a C : Addr) : Prop := (∃ dx vs, SlX.Slt H a C dx vs) ∨ ∃ dx fs, H a = some (.ins C dx fs)
theorem IsIn.at_ {X : Cx} {pins : List (Addr × Obj)} {σ : L2.St} {H : Hp} {s : Shared} {a C : Addr} (I : Inv X pins σ H s) (h : IsIn H a C) : ∃ ox odd, PySem.W.InstAt s.heap a ox C odd := by
  rcases h with ⟨dx, vs, h⟩ | ⟨dx, fs, h⟩
  · obtain ⟨sl, od, _, J, _⟩ := SlX.slt_inst I h
    exact ⟨_, _, J⟩
  · obtain ⟨mA, O, _⟩ := ins_get I.hok h
    obtain ⟨od, J, _⟩ := O.look
    exact ⟨_, _, J⟩
/-- the class at C has the special method nm at g, which promises sp -/
structure Spc (P : Program) (w : World) (K : PySem.W.Frag) (mg : Str → Option Value) (base : Heap) (k : Nat) (C : Addr) (nm : Str) (sp : Sp) : Prop where
  ex : ∃ g, PySem.W.findIn K (.ref C) nm = some (some (.ref g)) ∧ PySem.W.isFn K (.ref g) = true ∧ FnR P w K mg base C8.CX0 k g sp
section
variable {X : Cx} {k j : Nat} {C : Addr} {sp : Sp}
def rLenI (C : Addr) (sp : Sp) : List V → Hp → VK → Prop := fun xs H Q => ∃ a, xs = [V.ref a] ∧ IsIn H a C ∧ sp [.ref a] H (fun z H' => ∃ n : Int, z = .int n ∧ 0 ≤ n ∧ n < 2 ^ 63 ∧ Q (.int n) H') C8.E0
theorem call_lenI (c : Spc X.prog X.w X.K X.mg X.base k C "__len__" sp) (hr : Room (k + 1) X.A) : CallR X (.builtin "len") (rLenI C sp) := by
  intro pins s σ H xs us Q I r h
  obtain ⟨g, hs, hf, F⟩ := c.ex
  obtain ⟨a, rfl, hi, q⟩ := h
  obtain ⟨u, rfl, ru⟩ := r.one
  cases (show u = Value.ref a from ru)
  obtain ⟨ox, odd, J⟩ := hi.at_ I
  refine len_inst I.kIn J hs hf (wpAny_mono (wpAny_call (SlX.run_at (us := [.ref a]) (ws := [.ref a]) F (Room.in1 hr) I.env0.in1 C8.pass0 I (.cons rfl .nil) q)) (fun w s' z => ?_) fun _ _ x => x)
  obtain ⟨z', H', I', rz, n, ez, h0, h1, qz⟩ := z
  subst ez
  obtain ⟨t, rfl⟩ := (show ∃ t, w = Value.int n t from rz)
  exact ⟨n, t, rfl, h0, h1, .int n, H', I'.tok _, ⟨_, rfl⟩, qz⟩
def rBoolI (C : Addr) (sp : Sp) : List V → Hp → VK → Prop := fun xs H Q => ∃ a, xs = [V.ref a] ∧ IsIn H a C ∧ sp [.ref a] H (fun z H' => ∃ b, z = .bl b ∧ Q (.bl b) H') C8.E0
theorem call_boolI (c : Spc X.prog X.w X.K X.mg X.base k C "__bool__" sp) (hr : Room (k + 2) X.A) : CallR X (.type "bool") (rBoolI C sp) := by
  intro pins s σ H xs us Q I r h
  obtain ⟨g, hs, hf, F⟩ := c.ex
  obtain ⟨a, rfl, hi, q⟩ := h
  obtain ⟨u, rfl, ru⟩ := r.one
  cases (show u = Value.ref a from ru)
  obtain ⟨ox, odd, J⟩ := hi.at_ I
  have hr2 : Room k X.A.in1.in1 := (show Room (k + 1) X.A.in1 from Room.in1 hr).in1
  refine bool_inst I.kIn J hs hf (wpAny_mono (wpAny_call (SlX.run_at (us := [.ref a]) (ws := [.ref a]) F hr2 I.env0.in1.in1 C8.pass0 I (.cons rfl .nil) q)) (fun w s' z => ?_) fun _ _ x => x)
  obtain ⟨z', H', I', rz, b, ez, qz⟩ := z
  subst ez
  cases rz
  exact ⟨b, rfl, .bl b, H', I', rfl, qz⟩
end
/-! ### len(program), program.places -/
def dProp (S : FS) (a : DE) : DE := ⟨a.n + S.n, fun ss Q => a ss fun x => x.isPg = true ∧ S.f [x] Q⟩
theorem pr_ref {c : Cf} {H : Hp} {d : D} {v : V} (r : Rp c H d v) (h : d.isPg = true) : ∃ a dx vs, v = .ref a ∧ SlX.Slt H a (progC c.K) dx vs := by
  cases d with
  | prog n s b =>
    unfold Rp at r
    obtain ⟨a, dx, vn, vs, vb, rfl, h1, _⟩ := r
    exact ⟨a, dx, _, rfl, h1⟩
  | _ => cases h
section
variable {X : Cx} {p : Option Addr} {G : Gm} {pos q : Pos} {a : Expr} {da : DE} {dt : DA} {S : FS} {k j : Nat} {nm x : Str}
theorem pd_lenP (c : Spc X.prog X.w X.K X.mg X.base k (progC X.K) "__len__" (spOf X.K S)) (hS : ∀ d Q, S.f [d] Q → d.isPg = true ∧ S.f [d] fun z => ∃ n : Int, z = .int n ∧ 0 ≤ n ∧ n < 2 ^ 63 ∧ Q (.int n)) (hr : Room j X.A) (ha : PE X a (up ⟨X.K, p⟩ G da)) (hg : Gl X "len") (hm : X.mg "len" = none) (hk : k + 1 ≤ j := by decide)
    (he : starEach [a] X.env = (false, eval a X.env) :: starEach [] X.env := by rfl) (hpl : (backTo pos (starEach [] X.env)).any (·.1) = false := by rfl) :
    PE X (.Call (.Name "len" q) [a] [] pos) (up ⟨X.K, p⟩ G (dCall S (dCons da dNil))) :=
  peOf (pe_callB (call_lenI c (hr.mono hk)) hg hm bt_len (pa_cons ha pa_nil he) (by decide) (by decide) he hpl) fun σ H Q ⟨ss, ow, P, R, h, kk⟩ => ⟨ss, ow, _, R.wk (by show da.n ≤ da.n + 0 + S.n; omega), h, fun x v H1 s1 r1 p1 => by
    obtain ⟨hp, p2⟩ := hS x _ p1
    obtain ⟨a, dx, vs, rfl, hs⟩ := pr_ref r1 hp
    have R1 : RepS ⟨X.K, p⟩ S.n G H1 σ ss ow := RepS.step (m := da.n) (R.wk (by show da.n + S.n ≤ da.n + 0 + S.n; omega)) s1
    refine ⟨a, rfl, .inl ⟨dx, vs, hs⟩, p, [x], _, R1.pln, .one r1, p2, fun d v H' s2 r2 ⟨n, e, h0, h1, p3⟩ => ?_⟩
    subst e
    cases (show v = _ from r2)
    exact ⟨n, rfl, h0, h1, kk _ _ H' ((s1.trans s2).wk (by show da.n + S.n ≤ da.n + 0 + S.n; omega)) r_int p3⟩⟩
/-- a property of programs -/
structure PrpC (P : Program) (w : World) (K : PySem.W.Frag) (mg : Str → Option Value) (base : Heap) (k : Nat) (nm : Str) (S : FS) : Prop where
  ex : ∃ p g, SlX.SCls K (progC K) ∧ PySem.W.findIn K (.ref (progC K)) nm = some (some (.ref p)) ∧ PySem.W.specialIn K (.ref p) "__get__" = some (some (.builtin "property.__get__")) ∧ PySem.W.takesIn K (.ref p) = some true ∧
    (∃ rest, PySem.W.recIn K p "property" = some (.ref g :: rest)) ∧ FnR P w K mg base C8.CX0 k g (spOf K S)
theorem pd_prop (c : PrpC X.prog X.w X.K X.mg X.base k nm S) (hr : Room j X.A) (ha : PE X a (up ⟨X.K, p⟩ G da)) (hk : k + 1 ≤ j := by decide) (hb : attributeBase a nm X.env (eval a X.env) = eval a X.env := by rfl) : PE X (.Attribute a nm pos) (up ⟨X.K, p⟩ G (dProp S da)) := by
  obtain ⟨pa, g, c1, c2, c3, c4, c5, F⟩ := c.ex
  exact peOf (SlX.pe_propSl ha c1 c2 c3 c4 c5 F (hr.mono hk) (fun _ _ _ _ z => z) hb (E := C8.E0)) fun σ H Q ⟨ss, ow, P, R, h, kk⟩ => ⟨ss, ow, _, R.l, h, fun x v H1 s1 r1 ⟨hp, p1⟩ => by
    obtain ⟨a, dx, vs, rfl, hs⟩ := pr_ref r1 hp
    exact ⟨a, dx, vs, rfl, hs, p, [x], P, (R.step s1).pln, .one r1, p1, fun d v H' s2 r2 p2 => kk d v H' (s1.trans s2) r2 p2⟩⟩
end
@[simp] theorem x_prop {S : FS} {a : DE} {ss : Sls} {Q : D → Prop} : (dProp S a).f ss Q = a.f ss fun x => x.isPg = true ∧ S.f [x] Q := rfl
end DL
set_option maxRecDepth 100000
set_option maxHeartbeats 2000000
namespace DL
open PySem PySem.Spec PyProof.Rows L2
/-! ### data without leads stay, though a lead or an object in the making changes -/
mutual
def nlD : D → Bool
  | .ld _ _ _ => false
  | .tup ds => nlDs ds
  | .lst ds => nlDs ds
  | .prog n s b => nlD n && nlD s && nlD b
  | .stg s r a => nlD s && nlD r && nlD a
  | _ => true
def nlDs : List D → Bool
  | [] => true
  | d :: ds => nlD d && nlDs ds
end
def LeM (H H' : Hp) : Prop := ∀ b o, H b = some o → (∀ C dx fs, o = .ins C dx fs → fs.length = 3) → (∀ ps, o ≠ .tbl ps) → (∀ x, o ≠ .own x) → H' b = some o
theorem LeM.tup {H H' : Hp} (e : LeM H H') {a : Addr} {xs : List V} (h : H a = some (.tup xs)) : H' a = some (.tup xs) := e _ _ h (fun _ _ _ z => nomatch z) (fun _ z => nomatch z) (fun _ z => nomatch z)
theorem LeM.lst {H H' : Hp} (e : LeM H H') {a : Addr} {xs : List V} (h : H a = some (.lst xs)) : H' a = some (.lst xs) := e _ _ h (fun _ _ _ z => nomatch z) (fun _ z => nomatch z) (fun _ z => nomatch z)
theorem LeM.frz {H H' : Hp} (e : LeM H H') {a : Addr} {o : Obj} {x : HO} (h : H a = some (.frz o x)) : H' a = some (.frz o x) := e _ _ h (fun _ _ _ z => nomatch z) (fun _ z => nomatch z) (fun _ z => nomatch z)
variable {c : Cf} {H H1 H2 H' : Hp}
mutual
theorem Rp.mut (e : LeM H H') : ∀ (d : D) (v : V), nlD d = true → Rp c H d v → Rp c H' d v
  | .non, _, _, h => h
  | .bl _, _, _, h => h
  | .int _, _, _, h => h
  | .str _, _, _, h => h
  | .pail, _, _, h => h
  | .scr ns, v, _, h => by
    unfold Rp at h ⊢
    obtain ⟨a, e1, h | h⟩ := h
    · obtain ⟨o, h⟩ := h
      exact ⟨a, e1, .inl ⟨o, e.frz h⟩⟩
    · exact ⟨a, e1, .inr h⟩
  | .tup ds, v, n, h => by
    unfold Rp at h ⊢
    obtain ⟨a, xs, e1, (h | ⟨o, h⟩) | h, e3⟩ := h
    · exact ⟨a, xs, e1, .inl (.inl (e.tup h)), Rps.mut e ds xs n e3⟩
    · exact ⟨a, xs, e1, .inl (.inr ⟨o, e.frz h⟩), Rps.mut e ds xs n e3⟩
    · exact ⟨a, xs, e1, .inr h, Rps.mut e ds xs n e3⟩
  | .lst ds, v, n, h => by
    unfold Rp at h ⊢
    obtain ⟨a, xs, e1, ⟨o, h⟩, e3⟩ := h
    exact ⟨a, xs, e1, ⟨o, e.frz h⟩, Rps.mut e ds xs n e3⟩
  | .prog n s b, v, z, h => by
    unfold Rp at h ⊢
    unfold nlD at z
    simp only [Bool.and_eq_true] at z
    obtain ⟨a, dx, vn, vs, vb, e1, e2, e3, e4, e5⟩ := h
    refine ⟨a, dx, vn, vs, vb, e1, ?_, Rp.mut e n vn z.1.1 e3, Rp.mut e s vs z.1.2 e4, Rp.mut e b vb z.2 e5⟩
    rcases e2 with ⟨_, q⟩ | ⟨q1, q2⟩
    · cases q
    · exact .inr ⟨e _ _ q1 (fun _ _ _ z => by unfold SlX.SlO at z; cases z) (fun _ z => by unfold SlX.SlO at z; cases z) (fun _ z => by unfold SlX.SlO at z; cases z), e _ _ q2 (fun _ _ _ z => nomatch z) (fun _ z => nomatch z) (fun _ z => nomatch z)⟩
  | .stg s r a, v, z, h => by
    unfold Rp at h ⊢
    unfold nlD at z
    simp only [Bool.and_eq_true] at z
    obtain ⟨x, dx, vs, vr, va, e1, e2, e3, e4, e5⟩ := h
    exact ⟨x, dx, vs, vr, va, e1, e _ _ e2 (fun _ _ _ z => by cases z; rfl) (fun _ z => nomatch z) (fun _ z => nomatch z), Rp.mut e s vs z.1.1 e3, Rp.mut e r vr z.1.2 e4, Rp.mut e a va z.2 e5⟩
  | .ld l p s, v, z, h => by unfold nlD at z; cases z
theorem Rps.mut (e : LeM H H') : ∀ (ds : List D) (vs : List V), nlDs ds = true → Rps c H ds vs → Rps c H' ds vs
  | [], _, _, h => h
  | d :: ds, vs, z, h => by
    unfold Rps at h ⊢
    unfold nlDs at z
    simp only [Bool.and_eq_true] at z
    obtain ⟨x, xs, e1, e2, e3⟩ := h
    exact ⟨x, xs, e1, Rp.mut e d x z.1 e2, Rps.mut e ds xs z.2 e3⟩
end
def nlSl : Sl → Bool
  | .val d => nlD d
  | .own ds => nlDs ds
  | _ => true
/-! ### an environment, whatever its beginning -/
def RepX (c : Cf) (H : Hp) (σ : L2.St) (ss : Sls) : Prop := ∃ G ow, RepS c 0 G H σ ss ow
def gAll (H : Hp) : Gm := ⟨H, fun b => ∃ xs, H b = some (.lst xs), ZL⟩
/-- all but lists stays as it is -/
def Fr (H H' : Hp) : Prop := ∀ b o, H b = some o → (∀ xs, o ≠ .lst xs) → H' b = some o
theorem Fr.refl (H : Hp) : Fr H H := fun _ _ e _ => e
theorem Fr.trans (a : Fr H H1) (b : Fr H1 H2) : Fr H H2 := fun x o e n => b x o (a x o e n) n
variable {σ : L2.St} {ss : Sls}
theorem RepX.reps (R : RepX c H σ ss) : ∃ ow, RepS c 0 (gAll H) H σ ss ow := by
  obtain ⟨G, ow, R⟩ := R
  refine ⟨ow, R.len, R.val, R.own, R.inj, fun i ds e => ⟨.inl ?_, (R.fr i ds e).2⟩, fun _ _ e _ => e, Le.refl H, fun _ e => e, fun p e => ?_, R.raw⟩
  · obtain ⟨_, xs, h, _⟩ := R.own i ds e
    exact ⟨xs, h⟩
  · obtain ⟨⟨z, ⟨z0, x, y, w, h, q⟩, _, _⟩, _⟩ := R.pl p e
    exact ⟨⟨z, ⟨z0, x, y, w, h, q⟩, by show z + 0 ≤ ZL; rw [z0]; exact Nat.zero_le _, Nat.le_refl _⟩, _, h⟩
theorem fr_of {n : Nat} {ow : Nat → Addr} (R : RepS c n (gAll H) H' σ ss ow) : Fr H H' := fun b o e n => R.keep b o e fun ⟨xs, h⟩ => n xs (by rw [e] at h; exact Option.some.inj h)
theorem RepX.pail (R : RepX c H σ ss) : PlOk c H := let ⟨_, _, R⟩ := R; R.pail
theorem RepX.pln (R : RepX c H σ ss) : PlN c 0 H := let ⟨_, R⟩ := R.reps; R.pln
theorem RepX.step (R : RepX c H σ ss) (s : Step c 0 H H') : RepX c H' σ ss := let ⟨G, ow, R⟩ := R; ⟨G, ow, R.step0 s⟩
theorem RepX.set (R : RepX c H σ ss) (i : Nat) {d : D} {v : V} (r : Rp c H d v) : RepX c H (σ.set i (some v)) (ss.set i (.val d)) := let ⟨G, ow, R⟩ := R; ⟨G, ow, R.set i r⟩
theorem RepX.no (R : RepX c H σ ss) (i : Nat) (o : Option V) : RepX c H (σ.set i o) (ss.set i .no) := let ⟨G, ow, R⟩ := R; ⟨G, ow, R.no i o⟩
theorem RepX.val (R : RepX c H σ ss) {i : Nat} {d : D} (h : ss[i]? = some (.val d)) : ∃ v, σ[i]? = some (some v) ∧ Rp c H d v := let ⟨_, _, R⟩ := R; R.val i d h
theorem RepX.raw (R : RepX c H σ ss) {i : Nat} {v : V} (h : ss[i]? = some (.raw v)) : σ[i]? = some (some v) := let ⟨_, _, R⟩ := R; R.raw i v h
theorem RepS.rawS {n : Nat} {G : Gm} {ow : Nat → Addr} (R : RepS c n G H σ ss ow) (i : Nat) (v : V) : RepS c n G H (σ.set i (some v)) (ss.set i (.raw v)) ow := by
  have R1 := R.no i (some v)
  have e : ∀ (j : Nat) (x : Sl), x ≠ .raw v → (ss.set i (.raw v))[j]? = some x → (ss.set i .no)[j]? = some x := fun j x hx e => by
    by_cases h : i = j
    · subst h
      rw [List.getElem?_set] at e ⊢
      split at e
      · split at e
        · exact absurd (Option.some.inj e).symm hx
        · cases e
      · rename_i h; exact absurd rfl h
    · rw [List.getElem?_set_ne h] at e ⊢
      exact e
  refine ⟨by simp [R.len], fun j d q => R1.val j d (e j _ (fun z => Sl.noConfusion z) q), fun j d q => R1.own j d (e j _ (fun z => Sl.noConfusion z) q), fun j k a b q1 q2 => R1.inj j k a b (e j _ (fun z => Sl.noConfusion z) q1) (e k _ (fun z => Sl.noConfusion z) q2), fun j d q => R1.fr j d (e j _ (fun z => Sl.noConfusion z) q), R.keep, R.nl, R.al, R.pl, fun j w q => ?_⟩
  by_cases h : i = j
  · subst h
    rw [List.getElem?_set] at q
    split at q
    · split at q
      · rename_i hl
        cases q
        rw [List.getElem?_set_self (by rw [R.len]; exact hl)]
      · cases q
    · rename_i h; exact absurd rfl h
  · rw [List.getElem?_set_ne h] at q ⊢
    exact R.raw j w q
theorem RepX.rawS (R : RepX c H σ ss) (i : Nat) (v : V) : RepX c H (σ.set i (some v)) (ss.set i (.raw v)) := let ⟨G, ow, R⟩ := R; ⟨G, ow, R.rawS i v⟩
theorem RepX.setO (R : RepX c H σ ss) {i : Nat} {q : Addr} {xs : List V} {ds : List D} (s : Step c 0 H H1) (hq : H q = none) (h1 : H1 q = some (.lst xs)) (r : Rps c H1 ds xs) : RepX c H1 (σ.set i (some (.ref q))) (ss.set i (.own ds)) := by
  obtain ⟨G, ow, R⟩ := R
  exact ⟨G, _, RepS.setO (m := 0) (n := 0) R s hq h1 r⟩
theorem RepX.mut (R : RepX c H σ ss) (e : LeM H H') (h : ss.all nlSl = true) : RepX c H' σ ss := by
  have hs : ∀ (i : Nat) (x : Sl), ss[i]? = some x → nlSl x = true := fun i x q => List.all_eq_true.mp h x (List.mem_of_getElem? q)
  obtain ⟨ow, R⟩ := R.reps
  refine ⟨gAll H', ow, R.len, fun i d q => ?_, fun i ds q => ?_, R.inj, fun i ds q => ⟨.inl ?_, (R.fr i ds q).2⟩, fun _ _ e _ => e, Le.refl _, fun _ e => e, fun p q => ?_, R.raw⟩
  · obtain ⟨v, e1, e2⟩ := R.val i d q
    exact ⟨v, e1, e2.mut e _ _ (hs i _ q)⟩
  · obtain ⟨e1, xs, e2, e3⟩ := R.own i ds q
    exact ⟨e1, xs, e.lst e2, e3.mut e _ _ (hs i _ q)⟩
  · obtain ⟨_, xs, e2, _⟩ := R.own i ds q
    exact ⟨xs, e.lst e2⟩
  · obtain ⟨⟨z, ⟨z0, x, y, w, h, q⟩, _, _⟩, _⟩ := R.pl p q
    exact ⟨⟨z, ⟨z0, x, y, w, e.lst h, q⟩, by show z + 0 ≤ ZL; rw [z0]; exact Nat.zero_le _, Nat.le_refl _⟩, _, e.lst h⟩
structure EndX (c : Cf) (H : Hp) (E : DEnds) (D' : Ends) : Prop where
  nx : ∀ σ' H' ss', RepX c H' σ' ss' → Fr H H' → E.nx ss' → D'.nx σ' H'
  rt : ∀ σ' H' ss' d v, RepX c H' σ' ss' → Fr H H' → Rp c H' d v → E.rt d ss' → D'.rt v H'
  bk : ∀ σ' H' ss', RepX c H' σ' ss' → Fr H H' → E.bk ss' → D'.bk σ' H'
  ct : ∀ σ' H' ss', RepX c H' σ' ss' → Fr H H' → E.ct ss' → D'.ct σ' H'
theorem EndX.lnk {E : DEnds} {D' : Ends} (L : EndX c H E D') : Lnk c (gAll H) 0 E D' :=
  ⟨fun σ H' ss ow R => L.nx σ H' ss ⟨_, ow, R⟩ (fr_of R), fun σ H' ss ow d v R => L.rt σ H' ss d v ⟨_, ow, R⟩ (fr_of R), fun σ H' ss ow R => L.bk σ H' ss ⟨_, ow, R⟩ (fr_of R), fun σ H' ss ow R => L.ct σ H' ss ⟨_, ow, R⟩ (fr_of R)⟩
def upX (c : Cf) (t : DS) : TS := fun D' σ H => ∃ ss E, RepX c H σ ss ∧ t.f E ss ∧ EndX c H E D'
def upEX (c : Cf) (a : DE) : TE := fun σ H Q => ∃ ss P, RepX c H σ ss ∧ a.f ss P ∧ ∀ d v H', Step c 0 H H' → Rp c H' d v → P d → Q v H'
section
variable {X : Cx} {p : Option Addr} {st : Stmt} {sts : List Stmt} {t : DS} {a : DE} {e : Expr}
theorem ps_X (h : ∀ G, PS X st (upS ⟨X.K, p⟩ G t)) (hn : t.n = 0 := by rfl) : PS X st (upX ⟨X.K, p⟩ t) := ⟨fun pins s σ H D' I ⟨ss, E, R, h1, L⟩ => by
  obtain ⟨ow, R⟩ := R.reps
  exact (h (gAll H)).run pins s σ H D' I ⟨ss, ow, E, 0, by rw [hn]; exact R, h1, L.lnk⟩⟩
theorem pss_X (h : ∀ G, PSs X sts (upS ⟨X.K, p⟩ G t)) (hn : t.n = 0 := by rfl) : PSs X sts (upX ⟨X.K, p⟩ t) := ⟨fun pins s σ H D' I ⟨ss, E, R, h1, L⟩ => by
  obtain ⟨ow, R⟩ := R.reps
  exact (h (gAll H)).run pins s σ H D' I ⟨ss, ow, E, 0, by rw [hn]; exact R, h1, L.lnk⟩⟩
theorem pe_X (h : ∀ G, PE X e (up ⟨X.K, p⟩ G a)) (hn : a.n = 0 := by rfl) : PE X e (upEX ⟨X.K, p⟩ a) := ⟨fun pins s σ H Q I ⟨ss, P, R, h1, L⟩ => by
  obtain ⟨ow, R⟩ := R.reps
  refine (h (gAll H)).run pins s σ H Q I ⟨ss, ow, P, by rw [hn]; exact R, h1, fun d v H' s => L d v H' (by rw [hn] at s; exact s)⟩⟩
end
/-! ### objects in the making -/
/-- all but the object at x and its dict stays, and the pail may change -/
def StepB (c : Cf) (x dx : Addr) (H H' : Hp) : Prop := (∀ b o, H b = some o → b ≠ x → b ≠ dx → c.pl ≠ some b → H' b = some o) ∧ (∀ p z, c.pl = some p → Pail H p z → Pail H' p z)
theorem Step.pail0 (s : Step c 0 H H') : ∀ p z, c.pl = some p → Pail H p z → Pail H' p z := fun p z e h => by
  obtain ⟨z', l, h'⟩ := s.2 p z e h
  have h0 := h.1
  have h1 := h'.1
  have : z = z' := by omega
  rw [this]; exact h'
theorem StepB.step {x dx : Addr} (s : StepB c x dx H H') (h1 : H1 x = none) (h2 : H1 dx = none) (k : ∀ b o, H1 b = some o → H b = some o) : Step c 0 H1 H' :=
  ⟨fun b o e n => s.1 b o (k b o e) (ne_of_none e h1) (ne_of_none e h2) n, fun p z e h => ⟨z, Nat.le_refl _, s.2 p z e (let ⟨z0, x, y, w, q, r⟩ := h; ⟨z0, x, y, w, k _ _ q, r⟩)⟩⟩
theorem made_kept {x dx C : Addr} (h1 : H x = none) (h2 : H dx = none) : ∀ b o, H b = some o → (upd (upd H dx (.own x)) x (.ins C dx [])) b = some o := fun b o e => by
  rw [upd_ne (ne_of_none e h1), upd_ne (ne_of_none e h2)]; exact e
/-- the promise of an __init__: what the class makes of its arguments -/
def spInit (K : PySem.W.Frag) (C : Addr) (S : FS) : Sp := fun vs H Q _ => ∃ (p : Option Addr) (x dx : Addr) (xs : List D) (us : List V) (P : D → Prop), vs = .ref x :: us ∧ H x = some (.ins C dx []) ∧ H dx = some (.own x) ∧ dx ≠ x ∧ PlN ⟨K, p⟩ 0 H ∧ Rps ⟨K, p⟩ H xs us ∧ S.f xs P ∧
  ∀ d H', StepB ⟨K, p⟩ x dx H H' → Rp ⟨K, p⟩ H' d (.ref x) → P d → Q .non H'
theorem mk_back {K : PySem.W.Frag} {p : Option Addr} {C x dx : Addr} {S : FS} {xs : List D} {us : List V} {P : D → Prop} {Q : VK} {E : XK} (h1 : H x = none) (h2 : H dx = none) (ne : dx ≠ x) (hp : PlN ⟨K, p⟩ 0 H) (r : Rps ⟨K, p⟩ H xs us) (hS : S.f xs P)
    (kk : ∀ d H', Step ⟨K, p⟩ 0 H H' → Rp ⟨K, p⟩ H' d (.ref x) → P d → Q (.ref x) H') : spInit K C S (.ref x :: us) (upd (upd H dx (.own x)) x (.ins C dx [])) (fun v H2 => v = .non ∧ Q (.ref x) H2) E := by
  have k := made_kept (C := C) h1 h2
  refine ⟨p, x, dx, xs, us, P, rfl, upd_same, by rw [upd_ne ne, upd_same], ne, fun q e => ?_, r.le (fun b o e _ => k b o e) _ _, hS, fun d H' s rd pd => ⟨rfl, kk d H' (s.step h1 h2 k) rd pd⟩⟩
  obtain ⟨z, ⟨z0, x, y, w, h, q⟩, l⟩ := hp q e
  exact ⟨z, ⟨z0, x, y, w, k _ _ h, q⟩, l⟩
/-- C(..), positional -/
structure MkC (P : Program) (w : World) (K : PySem.W.Frag) (mg : Str → Option Value) (base : Heap) (k : Nat) (x : Str) (C : Addr) (ps : List Str) (S : FS) : Prop where
  ex : ∃ (f : Addr) (fd : FuncData), Mk K C f ∧ FnOk P w K mg base C8.CX0 k f fd ("self" :: ps) (spInit K C S) ∧ mg x = some (.ref C) ∧ Binds K fd ("self" :: ps) []
structure MkK (P : Program) (w : World) (K : PySem.W.Frag) (mg : Str → Option Value) (base : Heap) (k : Nat) (x : Str) (C : Addr) (ps ks : List Str) (g : {α : Type} → List α → List α) (S : FS) : Prop where
  ex : ∃ (f : Addr) (fd : FuncData), Mk K C f ∧ FnOk P w K mg base C8.CX0 k f fd ("self" :: ps) (spInit K C S) ∧ mg x = some (.ref C) ∧ KBn K fd ("self" :: ps) 1 ks (fun us ws => us ++ g ws) (fun vs zs => vs ++ g zs)
section
variable {X : Cx} {p : Option Addr} {G : Gm} {pos q : Pos} {e : Expr} {es : List Expr} {kws : List Keyword} {dt : DA} {S : FS} {k j : Nat} {x : Str} {C : Addr} {ps ks : List Str}
theorem pd_mk (c : MkC X.prog X.w X.K X.mg X.base k x C ps S) (hr : Room j X.A) (ha : PA X (e :: es) (upA ⟨X.K, p⟩ G dt)) (hn : S.n = 0 := by rfl) (hk : k + 1 ≤ j := by decide) (hg : Gl X x := by rfl)
    (hdb : (x == ("__debug__" : Str)) = false := by decide) (he : starEach (e :: es) X.env = (false, eval e X.env) :: starEach es X.env := by rfl) (hpl : (backTo pos (starEach es X.env)).any (·.1) = false := by rfl) :
    PE X (.Call (.Name x q) (e :: es) [] pos) (up ⟨X.K, p⟩ G (dCall S dt)) := by
  obtain ⟨f, fd, M, F, hm, b⟩ := c.ex
  refine peOf (C8.pe_mk ⟨f, fd, _, [], M, F, hm, b, .nil⟩ hr hk hg ha hdb he hpl) fun σ H Q ⟨ss, ow, P, R, h, kk⟩ => ⟨ss, ow, _, R.l, h, fun xs vs H1 s1 r1 p1 x dx h1 h2 ne => ?_⟩
  rw [List.append_nil]
  refine mk_back (P := P) h1 h2 ne (by have := (R.step s1).pln; rw [hn] at this; exact this) r1 p1 fun d H' s2 r2 p2 => kk d _ H' ?_ r2 p2
  exact (s1.trans s2).wk (by show dt.n + 0 ≤ dt.n + S.n; omega)
/-- C(k = v, ..) : g puts the keywords' values in the parameters' order -/
theorem pd_mkK {g : {α : Type} → List α → List α} {tk : DA} (c : MkK X.prog X.w X.K X.mg X.base k x C ps ks @g S)
    (hgr : ∀ {H : Hp} {xs : List D} {vs : List V}, Rps ⟨X.K, p⟩ H xs vs → xs.length = ks.length → Rps ⟨X.K, p⟩ H (g xs) (g vs)) (hr : Room j X.A) (hkw : PK X kws (upA ⟨X.K, p⟩ G tk)) (hn : S.n = 0 := by rfl) (hk : k + 1 ≤ j := by decide) (hg : Gl X x := by rfl)
    (hall : (backToKw pos (keywordEach kws X.env)).all (·.1.isSome) = true := by rfl) (hks : (backToKw pos (keywordEach kws X.env)).filterMap (·.1) = ks := by rfl) (hdb : (x == ("__debug__" : Str)) = false := by decide)
    (hpl : ((backTo pos (starEach [] X.env)).any (·.1) || (backToKw pos (keywordEach kws X.env)).any (·.1.isNone)) = false := by rfl) :
    PE X (.Call (.Name x q) [] kws pos) (up ⟨X.K, p⟩ G ⟨tk.n + S.n, fun ss Q => tk ss fun xs => xs.length = ks.length ∧ S.f (g xs) Q⟩) := by
  obtain ⟨f, fd, M, F, hm, b⟩ := c.ex
  refine peOf (pe_makeK0 M F (hr.mono hk) hg hm b C8.pass0 hkw hall hks hdb hpl (E := C8.E0)) fun σ H Q ⟨ss, ow, P, R, h, kk⟩ => ⟨ss, ow, _, R.l, h, fun xs vs H1 s1 r1 ⟨l1, p1⟩ => ⟨rfl, by rw [r1.length]; exact l1, fun x dx h1 h2 ne => ?_⟩⟩
  refine mk_back (P := P) h1 h2 ne (by have := (R.step s1).pln; rw [hn] at this; exact this) (hgr r1 l1) p1 fun d H' s2 r2 p2 => kk d _ H' ?_ r2 p2
  exact (s1.trans s2).wk (by show tk.n + 0 ≤ tk.n + S.n; omega)
end
end DL
set_option maxRecDepth 100000
set_option maxHeartbeats 2000000
namespace DL
open PySem PySem.Spec PyProof.Rows L2
/-! ### stages, leads: plain instances -/
def stgC (K : PySem.W.Frag) : Addr := clsA K "Stage"
def ldC (K : PySem.W.Frag) : Addr := clsA K "Lead"
structure LdFx (K : PySem.W.Frag) : Prop where
  sc : Cls K (stgC K)
  ss : NoAttr K (stgC K) "state"
  sr : NoAttr K (stgC K) "road"
  sa : NoAttr K (stgC K) "ahead"
  lc : Cls K (ldC K)
  ll : NoAttr K (ldC K) "led"
  ls : NoAttr K (ldC K) "stage"
def fGs (x : D) (Q : D → Prop) : Prop := match x with
  | .stg s _ _ => Q s
  | _ => False
def fGr (x : D) (Q : D → Prop) : Prop := match x with
  | .stg _ r _ => Q r
  | _ => False
def fGa (x : D) (Q : D → Prop) : Prop := match x with
  | .stg _ _ a => Q a
  | _ => False
def fLp (x : D) (Q : D → Prop) : Prop := match x with
  | .ld _ p _ => Q p
  | _ => False
def fLs (x : D) (Q : D → Prop) : Prop := match x with
  | .ld _ _ s => Q s
  | _ => False
def FldR (c : Cf) (nm : Str) (f : D → (D → Prop) → Prop) : Prop := ∀ H x u Q, Rp c H x u → f x Q → ∃ a C dx fs v d, u = .ref a ∧ H a = some (.ins C dx fs) ∧ Cls c.K C ∧ NoAttr c.K C nm ∧ fs.lookup nm = some v ∧ Rp c H d v ∧ Q d
theorem fr_state {c : Cf} (E : LdFx c.K) : FldR c "state" fGs := fun H x u Q r q => by
  cases x with
  | stg s r' a =>
    unfold Rp at r
    obtain ⟨x, dx, vs, vr, va, e1, e2, e3, e4, e5⟩ := r
    exact ⟨x, _, dx, _, vs, s, e1, e2, E.sc, E.ss, rfl, e3, q⟩
  | _ => exact q.elim
theorem fr_road {c : Cf} (E : LdFx c.K) : FldR c "road" fGr := fun H x u Q r q => by
  cases x with
  | stg s r' a =>
    unfold Rp at r
    obtain ⟨x, dx, vs, vr, va, e1, e2, e3, e4, e5⟩ := r
    exact ⟨x, _, dx, _, vr, r', e1, e2, E.sc, E.sr, rfl, e4, q⟩
  | _ => exact q.elim
theorem fr_ahead {c : Cf} (E : LdFx c.K) : FldR c "ahead" fGa := fun H x u Q r q => by
  cases x with
  | stg s r' a =>
    unfold Rp at r
    obtain ⟨x, dx, vs, vr, va, e1, e2, e3, e4, e5⟩ := r
    exact ⟨x, _, dx, _, va, a, e1, e2, E.sc, E.sa, rfl, e5, q⟩
  | _ => exact q.elim
theorem fr_led {c : Cf} (E : LdFx c.K) : FldR c "led" fLp := fun H x u Q r q => by
  cases x with
  | ld l p s =>
    unfold Rp at r
    obtain ⟨x, dx, vp, vs, e1, e0, e2, e3, e4⟩ := r
    exact ⟨x, _, dx, _, vp, p, e1, e2, E.lc, E.ll, rfl, e3, q⟩
  | _ => exact q.elim
theorem fr_stage {c : Cf} (E : LdFx c.K) : FldR c "stage" fLs := fun H x u Q r q => by
  cases x with
  | ld l p s =>
    unfold Rp at r
    obtain ⟨x, dx, vp, vs, e1, e0, e2, e3, e4⟩ := r
    exact ⟨x, _, dx, _, vs, s, e1, e2, E.lc, E.ls, rfl, e4, q⟩
  | _ => exact q.elim
def D.isLd : D → Bool
  | .ld _ _ _ => true
  | _ => false
theorem ld_ref {c : Cf} {H : Hp} {d : D} {v : V} (r : Rp c H d v) (h : d.isLd = true) : ∃ a dx fs, v = .ref a ∧ H a = some (.ins (ldC c.K) dx fs) ∧ ∀ nm : Str, nm ≠ "led" → nm ≠ "stage" → fs.lookup nm = none := by
  cases d with
  | ld l p s =>
    unfold Rp at r
    obtain ⟨x, dx, vp, vs, e1, e0, e2, _⟩ := r
    refine ⟨x, dx, _, e1, e2, fun nm h1 h2 => ?_⟩
    have a1 : (nm == ("led" : Str)) = false := beq_eq_false_iff_ne.mpr h1
    have a2 : (nm == ("stage" : Str)) = false := beq_eq_false_iff_ne.mpr h2
    simp only [List.lookup, a1, a2]
  | _ => cases h
def dPropL (S : FS) (a : DE) : DE := ⟨a.n + S.n, fun ss Q => a ss fun x => x.isLd = true ∧ S.f [x] Q⟩
@[simp] theorem x_propL {S : FS} {a : DE} {ss : Sls} {Q : D → Prop} : (dPropL S a).f ss Q = a.f ss fun x => x.isLd = true ∧ S.f [x] Q := rfl
@[simp] theorem x_gs {a b c : D} {Q : D → Prop} : fGs (.stg a b c) Q = Q a := rfl
@[simp] theorem x_gr {a b c : D} {Q : D → Prop} : fGr (.stg a b c) Q = Q b := rfl
@[simp] theorem x_ga {a b c : D} {Q : D → Prop} : fGa (.stg a b c) Q = Q c := rfl
@[simp] theorem x_lp {l : Addr} {a b : D} {Q : D → Prop} : fLp (.ld l a b) Q = Q a := rfl
@[simp] theorem x_ls {l : Addr} {a b : D} {Q : D → Prop} : fLs (.ld l a b) Q = Q b := rfl
@[simp] theorem x_isLd {l : Addr} {a b : D} : D.isLd (.ld l a b) = true := rfl
/-- a property of leads -/
structure PrpL (P : Program) (w : World) (K : PySem.W.Frag) (mg : Str → Option Value) (base : Heap) (k : Nat) (nm : Str) (S : FS) : Prop where
  ex : ∃ p g fd ps, Cls K (ldC K) ∧ PropOf K (ldC K) nm p g ∧ FnOk P w K mg base C8.CX0 k g fd ps (spOf K S) ∧ L2.Binds K fd ps []
section
variable {X : Cx} {p : Option Addr} {G : Gm} {pos q : Pos} {a b : Expr} {da db : DE} {S : FS} {k j : Nat} {nm x : Str} {f : D → (D → Prop) → Prop}
theorem pd_fld (hf : FldR ⟨X.K, p⟩ nm f) (ha : PE X a (up ⟨X.K, p⟩ G da)) (hb : attributeBase a nm X.env (eval a X.env) = eval a X.env := by rfl) : PE X (.Attribute a nm pos) (up ⟨X.K, p⟩ G (dUn f da)) :=
  peOf (pe_fld ha hb) fun σ H Q ⟨ss, ow, P, R, h, k⟩ => ⟨ss, ow, _, R, h, fun x v H1 s1 r1 p1 => by
    obtain ⟨a, C, dx, fs, w, d, e1, e2, e3, e4, e5, e6, e7⟩ := hf _ _ _ _ r1 p1
    exact ⟨a, C, dx, fs, w, e1, e2, e3, e4, e5, k d w H1 s1 e6 e7⟩⟩
theorem pd_propL (c : PrpL X.prog X.w X.K X.mg X.base k nm S) (hr : Room j X.A) (ha : PE X a (up ⟨X.K, p⟩ G da)) (hk : k + 1 ≤ j := by decide) (hb : attributeBase a nm X.env (eval a X.env) = eval a X.env := by rfl) : PE X (.Attribute a nm pos) (up ⟨X.K, p⟩ G (dPropL S da)) := by
  obtain ⟨pa, g, fd, ps, c1, c2, F, c3⟩ := c.ex
  exact peOf (pe_prop ha c1 c2 F (hr.mono hk) c3 .nil C8.pass0 hb (E := C8.E0)) fun σ H Q ⟨ss, ow, P, R, h, kk⟩ => ⟨ss, ow, _, R.l, h, fun x v H1 s1 r1 ⟨hp, p1⟩ => by
    obtain ⟨a, dx, fs, rfl, hs, _⟩ := ld_ref r1 hp
    exact ⟨a, dx, fs, rfl, hs, p, [x], P, (R.step s1).pln, .one r1, p1, fun d v H' s2 r2 p2 => kk d v H' (s1.trans s2) r2 p2⟩⟩
theorem pd_lenLd (c : Spc X.prog X.w X.K X.mg X.base k (ldC X.K) "__len__" (spOf X.K S)) (hS : ∀ d Q, S.f [d] Q → d.isLd = true ∧ S.f [d] fun z => ∃ n : Int, z = .int n ∧ 0 ≤ n ∧ n < 2 ^ 63 ∧ Q (.int n)) (hr : Room j X.A) (ha : PE X a (up ⟨X.K, p⟩ G da)) (hg : Gl X "len") (hm : X.mg "len" = none) (hk : k + 1 ≤ j := by decide)
    (he : starEach [a] X.env = (false, eval a X.env) :: starEach [] X.env := by rfl) (hpl : (backTo pos (starEach [] X.env)).any (·.1) = false := by rfl) :
    PE X (.Call (.Name "len" q) [a] [] pos) (up ⟨X.K, p⟩ G (dCall S (dCons da dNil))) :=
  peOf (pe_callB (call_lenI c (hr.mono hk)) hg hm bt_len (pa_cons ha pa_nil he) (by decide) (by decide) he hpl) fun σ H Q ⟨ss, ow, P, R, h, kk⟩ => ⟨ss, ow, _, R.wk (by show da.n ≤ da.n + 0 + S.n; omega), h, fun x v H1 s1 r1 p1 => by
    obtain ⟨hp, p2⟩ := hS x _ p1
    obtain ⟨a, dx, fs, rfl, hs, _⟩ := ld_ref r1 hp
    have R1 : RepS ⟨X.K, p⟩ S.n G H1 σ ss ow := RepS.step (m := da.n) (R.wk (by show da.n + S.n ≤ da.n + 0 + S.n; omega)) s1
    refine ⟨a, rfl, .inr ⟨dx, fs, hs⟩, p, [x], _, R1.pln, .one r1, p2, fun d v H' s2 r2 ⟨n, e, h0, h1, p3⟩ => ?_⟩
    subst e
    cases (show v = _ from r2)
    exact ⟨n, rfl, h0, h1, kk _ _ H' ((s1.trans s2).wk (by show da.n + S.n ≤ da.n + 0 + S.n; omega)) r_int p3⟩⟩
theorem pd_boolLd (c : Spc X.prog X.w X.K X.mg X.base k (ldC X.K) "__bool__" (spOf X.K S)) (hS : ∀ d Q, S.f [d] Q → d.isLd = true ∧ S.f [d] fun z => ∃ n : Bool, z = .bl n ∧ Q (.bl n)) (hr : Room j X.A) (ha : PE X a (up ⟨X.K, p⟩ G da)) (hg : Gl X "bool") (hm : X.mg "bool" = none) (hk : k + 2 ≤ j := by decide)
    (he : starEach [a] X.env = (false, eval a X.env) :: starEach [] X.env := by rfl) (hpl : (backTo pos (starEach [] X.env)).any (·.1) = false := by rfl) :
    PE X (.Call (.Name "bool" q) [a] [] pos) (up ⟨X.K, p⟩ G (dCall S (dCons da dNil))) :=
  peOf (pe_callTy (call_boolI c (hr.mono hk)) hg hm bt_bool (pa_cons ha pa_nil he) (by decide) (by decide) he hpl) fun σ H Q ⟨ss, ow, P, R, h, kk⟩ => ⟨ss, ow, _, R.wk (by show da.n ≤ da.n + 0 + S.n; omega), h, fun x v H1 s1 r1 p1 => by
    obtain ⟨hp, p2⟩ := hS x _ p1
    obtain ⟨a, dx, fs, rfl, hs, _⟩ := ld_ref r1 hp
    have R1 : RepS ⟨X.K, p⟩ S.n G H1 σ ss ow := RepS.step (m := da.n) (R.wk (by show da.n + S.n ≤ da.n + 0 + S.n; omega)) s1
    refine ⟨a, rfl, .inr ⟨dx, fs, hs⟩, p, [x], _, R1.pln, .one r1, p2, fun d v H' s2 r2 ⟨n, e, p3⟩ => ?_⟩
    subst e
    cases (show v = _ from r2)
    exact ⟨n, rfl, kk _ _ H' ((s1.trans s2).wk (by show da.n + S.n ≤ da.n + 0 + S.n; omega)) r_bl p3⟩⟩
/-- program == program -/
def fEqP (S : FS) : F2 := fun x y Q => x.isPg = true ∧ y.isPg = true ∧ S.f [x, y] Q
@[simp] theorem x_eqP {S : FS} {x y : D} {Q : D → Prop} : fEqP S x y Q = (x.isPg = true ∧ y.isPg = true ∧ S.f [x, y] Q) := rfl
theorem lr_eqP {c : Cf} {S : FS} (hn : S.n = 0) (nf : PySem.W.notFirst c.K (progC c.K) (.ref (progC c.K)) = true) : LR c (SlX.rOwn c.K (progC c.K) (spOf c.K S) C8.E0) (fEqP S) := fun H x y u v P Q hp r1 r2 ⟨q1, q2, q3⟩ k => by
  obtain ⟨a, dx, vs, rfl, h1⟩ := pr_ref r1 q1
  obtain ⟨b, dy, ws, rfl, h2⟩ := pr_ref r2 q2
  refine ⟨a, dx, vs, b, _, dy, ws, rfl, rfl, h1, h2, nf, c.pl, [x, y], P, fun q e => ?_, .cons r1 (.one r2), q3, fun d v H' s2 r3 p2 => k d v H' (by rw [hn] at s2; exact s2) r3 p2⟩
  obtain ⟨z, hz⟩ := hp q e
  rw [hn]
  exact ⟨z, hz, by rw [hz.1]; exact Nat.zero_le _⟩
structure EqC (P : Program) (w : World) (K : PySem.W.Frag) (mg : Str → Option Value) (base : Heap) (k : Nat) (S : FS) : Prop where
  nf : PySem.W.notFirst K (progC K) (.ref (progC K)) = true
  sp : Spc P w K mg base k (progC K) "__eq__" (spOf K S)
theorem pd_eqP (c : EqC X.prog X.w X.K X.mg X.base k S) (hr : Room j X.A) (hn : S.n = 0) (ha : PE X a (up ⟨X.K, p⟩ G da)) (hb : PE X b (up ⟨X.K, p⟩ G db)) (hk : k ≤ j := by decide) (hm : behindInMarks .Eq b = false := by first | exact nomark _ | rfl) :
    PE X (.Compare a [.Eq] [b] pos) (up ⟨X.K, p⟩ G (dOp (fEqP S) da db)) := by
  obtain ⟨g, hs, hf, F⟩ := c.sp.ex
  exact pd_cmp (SlX.op_own (op := .Eq) (fun _ _ => rfl) hs hf F (hr.mono hk) C8.pass0) (lr_eqP (c := ⟨X.K, p⟩) hn c.nf) ha hb hm
end
end DL
set_option maxRecDepth 100000
set_option maxHeartbeats 2000000
namespace DL
open PySem PySem.Spec PyProof.Rows L2
/-! ### repr of plain data -/
section
variable {X : Cx} {pins : List (Addr × Obj)} {σ : L2.St} {H : Hp} {s : Shared} {p : Option Addr}
mutual
theorem reads_of (I : Inv X pins σ H s) : ∀ (d : D) (v : V) (u : Value), Rp ⟨X.K, p⟩ H d v → RelV v u → d.dat = true → ∃ as, Reads s.heap u d.py as
  | .non, v, u, r, e, _ => by
    cases (show v = _ from r); cases (show u = _ from e)
    unfold D.py; exact ⟨_, .none⟩
  | .bl b, v, u, r, e, _ => by
    cases (show v = _ from r); cases (show u = _ from e)
    unfold D.py; exact ⟨_, .bool b⟩
  | .int i, v, u, r, e, _ => by
    cases (show v = _ from r)
    obtain ⟨t, rfl⟩ := (show ∃ t, u = Value.int i t from e)
    unfold D.py; exact ⟨_, .int i t⟩
  | .str x, v, u, r, e, _ => by
    cases (show v = _ from r)
    obtain ⟨t, rfl⟩ := (show ∃ t, u = Value.str x t from e)
    unfold D.py; exact ⟨_, .str x t⟩
  | .tup ds, v, u, r, e, h => by
    unfold Rp at r
    unfold D.dat at h
    obtain ⟨a, xs, rfl, h1, h2⟩ := r
    cases (show u = _ from e)
    obtain ⟨its, rv, ⟨o, ho, hc, n, hd⟩, _⟩ := I.tuple h1
    obtain ⟨as, ha⟩ := reads_ofs I ds xs its h2 rv h
    unfold D.py
    exact ⟨as, .tuple ho hc hd (by simpa using ha)⟩
  | .lst ds, v, u, r, e, h => by
    unfold Rp at r
    unfold D.dat at h
    obtain ⟨a, xs, rfl, h1, h2⟩ := r
    cases (show u = _ from e)
    obtain ⟨its, n, rv, ho⟩ := rd_lst h1.rd I.hok
    obtain ⟨as, ha⟩ := reads_ofs I ds xs its h2 rv h
    unfold D.py
    exact ⟨a :: as, .list ho rfl rfl (by simpa using ha)⟩
  | .scr _, _, _, _, _, h => by unfold D.dat at h; cases h
  | .pail, _, _, _, _, h => by unfold D.dat at h; cases h
  | .prog _ _ _, _, _, _, _, h => by unfold D.dat at h; cases h
  | .stg _ _ _, _, _, _, _, h => by unfold D.dat at h; cases h
  | .ld _ _ _, _, _, _, _, h => by unfold D.dat at h; cases h
theorem reads_ofs (I : Inv X pins σ H s) : ∀ (ds : List D) (vs : List V) (us : List Value), Rps ⟨X.K, p⟩ H ds vs → Vals vs us → D.dats ds = true → ∃ as, ReadsAll s.heap us (D.pys ds) as
  | [], vs, us, r, e, _ => by
    unfold Rps at r
    subst r
    cases e
    unfold D.pys
    exact ⟨_, .nil⟩
  | d :: ds, vs, us, r, e, h => by
    unfold Rps at r
    unfold D.dats at h
    rw [Bool.and_eq_true] at h
    obtain ⟨x, xs, rfl, h1, h2⟩ := r
    cases e with
    | cons e1 e2 =>
      obtain ⟨a1, q1⟩ := reads_of I d x _ h1 e1 h.1
      obtain ⟨a2, q2⟩ := reads_ofs I ds xs _ h2 e2 h.2
      unfold D.pys
      exact ⟨_, .cons q1 q2⟩
end
end
mutual
/-- how long a text repr tells, at the most -/
def D.cost : D → Nat
  | .non => 8
  | .bl _ => 8
  | .int _ => 2000
  | .str x => 10 * x.length + 2
  | .tup ds => 4 + D.costs ds
  | .lst ds => 4 + D.costs ds
  | _ => 0
def D.costs : List D → Nat
  | [] => 0
  | d :: ds => d.cost + 2 + D.costs ds
end
mutual
def D.shw : D → Prop
  | .non => True
  | .bl _ => True
  | .int i => i.natAbs.log2 < 1920
  | .str x => ∀ c ∈ x.cps.toList, c < 16 ^ 8
  | .tup ds => D.shws ds
  | .lst ds => D.shws ds
  | _ => False
def D.shws : List D → Prop
  | [] => True
  | d :: ds => d.shw ∧ D.shws ds
end
mutual
def D.dep : D → Nat
  | .tup ds => D.deps ds + 1
  | .lst ds => D.deps ds + 1
  | _ => 0
def D.deps : List D → Nat
  | [] => 0
  | d :: ds => max d.dep (D.deps ds)
end
mutual
theorem dat_shw : ∀ d : D, d.shw → d.dat = true
  | .non, _ => rfl
  | .bl _, _ => rfl
  | .int _, _ => rfl
  | .str _, _ => rfl
  | .tup ds, h => by unfold D.dat; unfold D.shw at h; exact dats_shw ds h
  | .lst ds, h => by unfold D.dat; unfold D.shw at h; exact dats_shw ds h
  | .scr _, h => by unfold D.shw at h; exact h.elim
  | .pail, h => by unfold D.shw at h; exact h.elim
  | .prog _ _ _, h => by unfold D.shw at h; exact h.elim
  | .stg _ _ _, h => by unfold D.shw at h; exact h.elim
  | .ld _ _ _, h => by unfold D.shw at h; exact h.elim
theorem dats_shw : ∀ ds : List D, D.shws ds → D.dats ds = true
  | [], _ => rfl
  | d :: ds, h => by
    unfold D.shws at h
    unfold D.dats
    rw [dat_shw d h.1, dats_shw ds h.2]; rfl
end
mutual
theorem showable_py : ∀ d : D, d.shw → d.py.showable = true ∧ d.py.hasDict = false
  | .non, _ => by unfold D.py PyData.showable PyData.hasDict; exact ⟨rfl, rfl⟩
  | .bl _, _ => by unfold D.py PyData.showable PyData.hasDict; exact ⟨rfl, rfl⟩
  | .int _, h => by unfold D.py PyData.showable PyData.hasDict; exact ⟨decide_eq_true h, rfl⟩
  | .str _, _ => by unfold D.py PyData.showable PyData.hasDict; exact ⟨rfl, rfl⟩
  | .tup ds, h => by unfold D.py PyData.showable PyData.hasDict; unfold D.shw at h; exact showable_pys ds h
  | .lst ds, h => by unfold D.py PyData.showable PyData.hasDict; unfold D.shw at h; exact showable_pys ds h
  | .scr _, h => by unfold D.shw at h; exact h.elim
  | .pail, h => by unfold D.shw at h; exact h.elim
  | .prog _ _ _, h => by unfold D.shw at h; exact h.elim
  | .stg _ _ _, h => by unfold D.shw at h; exact h.elim
  | .ld _ _ _, h => by unfold D.shw at h; exact h.elim
theorem showable_pys : ∀ ds : List D, D.shws ds → PyData.showableAll (D.pys ds) = true ∧ PyData.hasDictAll (D.pys ds) = false
  | [], _ => by unfold D.pys PyData.showableAll PyData.hasDictAll; exact ⟨rfl, rfl⟩
  | d :: ds, h => by
    unfold D.shws at h
    unfold D.pys PyData.showableAll PyData.hasDictAll
    obtain ⟨a1, a2⟩ := showable_py d h.1
    obtain ⟨b1, b2⟩ := showable_pys ds h.2
    rw [a1, a2, b1, b2]; exact ⟨rfl, rfl⟩
end
mutual
theorem cost_py : ∀ d : D, d.shw → d.py.shown.length ≤ d.cost
  | .non, _ => by unfold D.py PyData.shown D.cost; decide
  | .bl b, _ => by unfold D.py PyData.shown D.cost; cases b <;> decide
  | .int i, h => by
    unfold D.py PyData.shown D.cost
    have := int_text_length_le (a := i) (k := 1920) (by decide) h
    show (Str.ofString (toString i)).length ≤ 2000
    rw [PySem.ofString_length]
    omega
  | .str x, h => by unfold D.py PyData.shown D.cost; exact StrLaws.reprText_len x h
  | .tup ds, h => by
    unfold D.py PyData.shown D.cost
    unfold D.shw at h
    have a := tupleText_len_le (PyData.shownAll (D.pys ds))
    have b := cost_pys ds h
    omega
  | .lst ds, h => by
    unfold D.py PyData.shown D.cost
    unfold D.shw at h
    have a := listText_len_le (PyData.shownAll (D.pys ds))
    have b := cost_pys ds h
    omega
  | .scr _, h => by unfold D.shw at h; exact h.elim
  | .pail, h => by unfold D.shw at h; exact h.elim
  | .prog _ _ _, h => by unfold D.shw at h; exact h.elim
  | .stg _ _ _, h => by unfold D.shw at h; exact h.elim
  | .ld _ _ _, h => by unfold D.shw at h; exact h.elim
theorem cost_pys : ∀ ds : List D, D.shws ds → ((PyData.shownAll (D.pys ds)).map (·.length)).sum + 2 * (PyData.shownAll (D.pys ds)).length ≤ D.costs ds
  | [], _ => by unfold D.pys PyData.shownAll D.costs; exact Nat.le_refl 0
  | d :: ds, h => by
    unfold D.shws at h
    unfold D.pys PyData.shownAll D.costs
    have a := cost_py d h.1
    have b := cost_pys ds h.2
    rw [List.map_cons, List.sum_cons, List.length_cons]
    omega
end
mutual
theorem dep_py : ∀ d : D, d.shw → d.py.depth = d.dep
  | .non, _ => by unfold D.py PyData.depth D.dep; rfl
  | .bl _, _ => by unfold D.py PyData.depth D.dep; rfl
  | .int _, _ => by unfold D.py PyData.depth D.dep; rfl
  | .str _, _ => by unfold D.py PyData.depth D.dep; rfl
  | .tup ds, h => by unfold D.py PyData.depth D.dep; unfold D.shw at h; rw [deps_py ds h]
  | .lst ds, h => by unfold D.py PyData.depth D.dep; unfold D.shw at h; rw [deps_py ds h]
  | .scr _, h => by unfold D.shw at h; exact h.elim
  | .pail, h => by unfold D.shw at h; exact h.elim
  | .prog _ _ _, h => by unfold D.shw at h; exact h.elim
  | .stg _ _ _, h => by unfold D.shw at h; exact h.elim
  | .ld _ _ _, h => by unfold D.shw at h; exact h.elim
theorem deps_py : ∀ ds : List D, D.shws ds → PyData.depthAll (D.pys ds) = D.deps ds
  | [], _ => by unfold D.pys PyData.depthAll D.deps; rfl
  | d :: ds, h => by
    unfold D.shws at h
    unfold D.pys PyData.depthAll D.deps
    rw [dep_py d h.1, deps_py ds h.2]
end
def D.isSq : D → Bool
  | .tup _ => true
  | .lst _ => true
  | _ => false
def fRepr (x : D) (Q : D → Prop) : Prop := x.isSq = true ∧ x.shw ∧ x.cost ≤ 16000000 ∧ x.dep ≤ 8 ∧ Q (.str x.py.shown)
@[simp] theorem x_repr {x : D} {Q : D → Prop} : fRepr x Q = (x.isSq = true ∧ x.shw ∧ x.cost ≤ 16000000 ∧ x.dep ≤ 8 ∧ Q (.str x.py.shown)) := rfl
def rReprD (K : PySem.W.Frag) (p : Option Addr) : List V → Hp → VK → Prop := fun xs H Q => ∃ v d, xs = [v] ∧ Rp ⟨K, p⟩ H d v ∧ d.isSq = true ∧ d.shw ∧ d.cost ≤ 16000000 ∧ d.dep ≤ 8 ∧ Q (.str d.py.shown) H
theorem call_reprD {X : Cx} {p : Option Addr} {j : Nat} (hr : Room j X.A) (hg : X.A.guards = some []) : CallR X (.builtin "repr") (rReprD X.K p) := by
  intro pins s σ H xs us Q I r h
  obtain ⟨v, d, rfl, rd, q1, q2, q3, q4, q⟩ := h
  obtain ⟨u, rfl, ru⟩ := r.one
  obtain ⟨as, hR⟩ := reads_of I d v u rd ru (dat_shw d q2)
  obtain ⟨s1, s2⟩ := showable_py d q2
  have hl := cost_py d q2
  have hd := dep_py d q2
  have hu := hr.un
  obtain ⟨a, ea⟩ : ∃ a, u = .ref a := by
    cases d with
    | tup ds => unfold Rp at rd; obtain ⟨a, xs, rfl, _⟩ := rd; exact ⟨a, ru⟩
    | lst ds => unfold Rp at rd; obtain ⟨a, xs, rfl, _⟩ := rd; exact ⟨a, ru⟩
    | _ => cases q1
  subst ea
  refine repr_of_reads' hR s1 (PyData.noDict_hsm s2) hg (by rw [hd]; omega) (fun _ _ e => e) (fun h' w tk k => ?_) (Nat.le_trans hl (Nat.le_trans q3 (by decide)))
  exact ⟨.str d.py.shown, H, I.kept k, ⟨_, rfl⟩, q⟩
section
variable {X : Cx} {p : Option Addr} {G : Gm} {pos q : Pos} {a : Expr} {da : DE} {j : Nat}
theorem pd_repr (hr : Room j X.A) (hgd : X.A.guards = some []) (ha : PE X a (up ⟨X.K, p⟩ G da)) (hg : Gl X "repr") (hm : X.mg "repr" = none)
    (he : starEach [a] X.env = (false, eval a X.env) :: starEach [] X.env := by rfl) (hpl : (backTo pos (starEach [] X.env)).any (·.1) = false := by rfl) :
    PE X (.Call (.Name "repr" q) [a] [] pos) (up ⟨X.K, p⟩ G (dUn fRepr da)) :=
  peOf (pe_callB (call_reprD (p := p) hr hgd) hg hm bt_repr (pa_cons ha pa_nil he) (by decide) (by decide) he hpl) fun σ H Q ⟨ss, ow, P, R, h, kk⟩ => ⟨ss, ow, _, R, h, fun x v H1 s1 r1 ⟨p1, p2, p3, p4, p5⟩ => ⟨v, x, rfl, r1, p1, p2, p3, p4, kk _ _ H1 s1 r_str p5⟩⟩
end
/-- the body of a def reads so, where no repr is under way -/
abbrev BodyG (P : Program) (w : World) (K : PySem.W.Frag) (mg : Str → Option Value) (base : Heap) (N : List Str) (qual : Str) (scope : Scope) (k : Nat) (body : List Stmt) (t : DS) : Prop :=
  ∀ (f : Addr) (cdv : Value) (A : Around) (outer : List Env) (s : Shared) (H : Hp) (E : XK) (p : Option Addr) (G : Gm), A.guards = some [] → Room k (A.deeper (envOfC qual scope s.heap.objs.size f cdv)) → PSs (cxOf C8.CX0 P w K mg base N qual scope f cdv A outer s H E).nox body (upS ⟨K, p⟩ G t)
end DL
set_option maxRecDepth 100000
set_option maxHeartbeats 2000000
namespace KK
open PySem PySem.Spec PyProof.Rows L2 DL
/-! ### programs, their lines and their texts -/
def S_Program__places : FS := ⟨0, fun xs P => ∃ n ss bs, xs = [.prog n (dSs ss) (dBs bs)] ∧ ss.length ≤ 3 ∧ bs.length ≤ 5 ∧ P (dNm (plcs ss bs))⟩
def S_Program____len__ : FS := ⟨0, fun xs P => ∃ n s bs, xs = [.prog n s (.tup bs)] ∧ bs.length ≤ 1000 ∧ P (.int bs.length)⟩
def S_Program____eq__ : FS := ⟨0, fun xs P => ∃ p, xs = [dPg p, dPg p] ∧ PtW p ∧ PtOk p ∧ P (.bl true)⟩
def S_Program : FS := ⟨0, fun xs P => ∃ p, xs = [dNm p.names, dSs p.says, dBs p.arms] ∧ PtOk p ∧ P (dPg p)⟩
def S_branch_lines : FS := ⟨0, fun xs P => ∃ b, xs = [dBr b] ∧ BrW b ∧ P (.lst ((armL b).map .str))⟩
def S_program_lines : FS := ⟨0, fun xs P => ∃ p, xs = [dPg p] ∧ PtW p ∧ P (.lst ((ptL p).map .str))⟩
def S_written_integer : FS := ⟨0, fun xs P => ∃ i : Int, xs = [.str (iTx i)] ∧ (-1000000 ≤ i ∧ i ≤ 1000000) ∧ P (.int i)⟩
def S_text_form : FS := ⟨0, fun xs P => ∃ f, xs = [.lst (f.map fun i => .str (iTx i))] ∧ FmW f ∧ P (dF f)⟩
def sayL (s : Sy) : Str := ("say " : Str) ++ s.pl ++ (" " : Str) ++ words s.f
def S_text_saying : FS := ⟨0, fun xs P => ∃ s, xs = [.str (sayL s)] ∧ NmOk s.pl ∧ FmW s.f ∧ s.f ≠ [] ∧ P (dSy s)⟩
/-- a branch that can be read back -/
structure BrR (b : Br) : Prop where
  s : NmOk b.src
  t : NmOk b.tgt
  lt : b.tests.length ≤ 3
  c0 : b.chs ≠ []
  lc : b.chs.length ≤ 3
  ft : ∀ f ∈ b.tests, FmW f ∧ f ≠ []
  fc : ∀ f ∈ b.chs, FmW f ∧ f ≠ []
def S_text_branch : FS := ⟨0, fun xs P => ∃ b, xs = [.lst ((armL b).map .str)] ∧ BrR b ∧ P (dBr b)⟩
def S_branch_parts : FS := ⟨0, fun xs P => ∃ bs : List Br, xs = [.lst ((bs.flatMap armL).map .str)] ∧ bs.length ≤ 5 ∧ (∀ b ∈ bs, BrR b) ∧ P (.lst (bs.map fun b => .lst ((armL b).map .str)))⟩
def S_text_program : FS := ⟨0, fun xs P => ∃ p, xs = [.str (Txt.join "\n" (ptL p))] ∧ PtOk p ∧ P (dPg p)⟩
/-! ### the checks -/
def S_check_program : FS := ⟨0, fun xs P => ∃ n s b, xs = [.prog n s b] ∧ P .non⟩
def S_check_index : FS := ⟨0, fun xs P => ∃ n s bs, ∃ k : Nat, xs = [.prog n s (.tup bs), .int k] ∧ bs.length ≤ 1000 ∧ k < bs.length ∧ P .non⟩
def S_check_place : FS := ⟨0, fun xs P => ∃ n ss bs, ∃ z : Str, xs = [.prog n (dSs ss) (dBs bs), .str z] ∧ ss.length ≤ 3 ∧ bs.length ≤ 5 ∧ z ∈ allPl ss bs ∧ P .non⟩
def S_check_point : FS := ⟨0, fun xs P => ∃ ns s b, ∃ p : List Int, xs = [.prog (.tup ns) s b, dF p] ∧ p.length = ns.length ∧ p.length ≤ 3 ∧ P .non⟩
/-! ### stages and leads -/
def S_Stage : FS := ⟨0, fun xs P => ∃ s r a, xs = [s, r, a] ∧ nlD s = true ∧ nlD r = true ∧ nlD a = true ∧ P (.stg s r a)⟩
/-- a lead's story: the states and the branches to them, the last one first -/
def dHist : List (Sta × List Int) → D
  | [] => .non
  | (s, r) :: t => .stg (dSt s) (dF r) (dHist t)
def dLd (l : Addr) (p : Pt) (h : List (Sta × List Int)) : D := .ld l (dPg p) (dHist h)
def S_Lead : FS := ⟨0, fun xs P => ∃ p s, xs = [dPg p, .str s.pl, dF s.pt] ∧ p.says.length ≤ 3 ∧ p.arms.length ≤ 5 ∧ s.pl ∈ allPl p.says p.arms ∧ s.pt.length = p.names.length ∧ s.pt.length ≤ 3 ∧ ∀ l, P (dLd l p [(s, [])])⟩
def S_Lead__place : FS := ⟨0, fun xs P => ∃ l q s r a, xs = [.ld l q (.stg (dSt s) r a)] ∧ P (.str s.pl)⟩
def S_Lead__point : FS := ⟨0, fun xs P => ∃ l q s r a, xs = [.ld l q (.stg (dSt s) r a)] ∧ P (dF s.pt)⟩
def S_Lead__taken : FS := ⟨0, fun xs P => ∃ l q s r a, xs = [.ld l q (.stg s r a)] ∧ P r⟩
def S_Lead__program : FS := ⟨0, fun xs P => ∃ l q s, xs = [.ld l q s] ∧ P q⟩
def S_Lead____len__ : FS := ⟨0, fun xs P => ∃ l q s r a, xs = [.ld l q (.stg s (.tup r) a)] ∧ r.length ≤ 1000 ∧ P (.int r.length)⟩
def S_Lead____bool__ : FS := ⟨0, fun xs P => ∃ l q s, xs = [.ld l q s] ∧ P (.bl true)⟩
/-- the indexes of the branches that can be taken -/
def frees (p : Pt) (s : Sta) : List Nat := (List.range p.arms.length).filter fun k => match p.arms[k]? with
  | some b => free b s
  | none => false
def dNs (l : List Nat) : D := .tup (l.map fun (k : Nat) => .int k)
/-- the points of the places, the branches of the sizes -/
def PtF (p : Pt) (s : Sta) : Prop := p.arms.length ≤ 5 ∧ s.pt.length ≤ 3 ∧ ∀ b ∈ p.arms, BrOk s.pt.length b
def S_Lead__ready : FS := ⟨0, fun xs P => ∃ l p s r a, xs = [.ld l (dPg p) (.stg (dSt s) r a)] ∧ PtF p s ∧ P (dNs (frees p s))⟩
def stOk (s : Sta) : Prop := s.pl.cps.all (· < 0x110000) = true
def sEq (a b : Sta) : Bool := decide (a.pl = b.pl) && decide (a.pt = b.pt)
/-- how many branches ago the state was there -/
def agnN (n : Nat) (o : Option Nat) : D := match o with
  | some k => .int ((n + k + 1 : Nat) : Int)
  | none => .non
def agn (s : Sta) (t : List Sta) : D := agnN 0 (t.findIdx? fun a => sEq a s)
def S_Lead__again : FS := ⟨0, fun xs P => ∃ l q s r, ∃ t : List (Sta × List Int), xs = [.ld l q (dHist ((s, r) :: t))] ∧ stOk s ∧ (∀ a ∈ t, stOk a.1) ∧ P (agn s (t.map (·.1)))⟩
def S__law_again : FS := ⟨0, fun xs P => ∃ s, ∃ t : List Sta, xs = [.lst ((s :: t).reverse.map dSt)] ∧ t.length ≤ 1000 ∧ stOk s ∧ (∀ a ∈ t, stOk a) ∧ P (agn s t)⟩
/-- states whose texts are short -/
structure StR (s : Sta) : Prop where
  n : NmOk s.pl
  l : s.pt.length ≤ 3
  w : ∀ i ∈ s.pt, i.natAbs.log2 < 1920
def S__law_shows : FS := ⟨0, fun xs P => ∃ l p s r, ∃ t : List (Sta × List Int), xs = [dLd l p ((s, r) :: t), dPg p, dPt p, .lst ((s :: t.map (·.1)).reverse.map dSt), .lst (r.map .int)] ∧ PtF p s ∧ PtOk p ∧ t.length ≤ 100 ∧ r.length ≤ 100 ∧ StR s ∧ (∀ a ∈ t, StR a.1) ∧ (∀ i ∈ r, -1000000 ≤ i ∧ i ≤ 1000000) ∧ P (.bl true)⟩
end KK
set_option maxRecDepth 100000
set_option maxHeartbeats 2000000
/-! Texts: lines, words, numbers, and how they are read back. -/
namespace KK
open PySem PySem.Spec PyProof.Rows L2 DL
theorem tl_to (z : Str) (n : Nat) : tl (cutS z none (some (n : Int))) = (tl z).take n := by
  unfold cutS
  show ((z.cps.toList.drop (HT.sIx z.length 0 none)).take (HT.sIx z.length z.length (some (n : Int)) - HT.sIx z.length 0 none)) = _
  rw [HT.sIx_none, HT.sIx_nat, List.drop_zero, Nat.sub_zero]
  have hl : z.length = (tl z).length := slen
  by_cases h : n ≤ z.length
  · rw [Nat.min_eq_left h]
  · rw [Nat.min_eq_right (by omega), List.take_of_length_le (by rw [hl]; exact Nat.le_refl _), List.take_of_length_le (by rw [← hl]; omega)]
theorem tl_from (z : Str) (n : Nat) : tl (cutS z (some (n : Int)) none) = (tl z).drop n := by
  unfold cutS
  show ((z.cps.toList.drop (HT.sIx z.length 0 (some (n : Int)))).take (HT.sIx z.length z.length none - HT.sIx z.length 0 (some (n : Int)))) = _
  rw [HT.sIx_none, HT.sIx_nat]
  have hl : z.length = (tl z).length := slen
  by_cases h : n ≤ z.length
  · rw [Nat.min_eq_left h, List.take_of_length_le]
    rw [List.length_drop]; rw [hl]; exact Nat.le_refl _
  · rw [Nat.min_eq_right (by omega)]
    have e1 : z.cps.toList.drop z.length = [] := List.drop_of_length_le (by rw [hl]; exact Nat.le_refl _)
    have e2 : (tl z).drop n = [] := List.drop_of_length_le (by omega)
    rw [e1, e2]
    simp
theorem tl_app (a b : Str) : tl (a ++ b) = tl a ++ tl b := TL.tl_append a b
theorem ext_s {a b : Str} (h : tl a = tl b) : a = b := TL.ext_tl h
/-- the beginning of a text that begins so -/
theorem pre_eq (a b : Str) : cutS (a ++ b) none (some ((tl a).length : Int)) = a := ext_s (by rw [tl_to, tl_app, List.take_left'] ; rfl)
theorem suf_eq (a b : Str) : cutS (a ++ b) (some ((tl a).length : Int)) none = b := ext_s (by rw [tl_from, tl_app, List.drop_left'] ; rfl)
/-- a text that begins with another sign begins otherwise -/
theorem pre_ne {z a : Str} {n : Nat} (hn : 0 < n) (h : (tl z).head? ≠ (tl a).head?) : cutS z none (some (n : Int)) ≠ a := fun e => h (by
  have e2 := congrArg tl e
  rw [tl_to] at e2
  rw [← e2]
  cases tl z with
  | nil => simp
  | cons x r =>
    cases n with
    | zero => omega
    | succ n => simp)
theorem hd_app {a b : Str} {c : Nat} {r : List Nat} (h : tl a = c :: r) : (tl (a ++ b)).head? = some c := by rw [tl_app, h]; rfl
theorem join_cons (y a b : Str) (r : List Str) : Txt.join y (a :: b :: r) = a ++ y ++ Txt.join y (b :: r) := by
  rw [TL.join_eq, TL.join_eq]; rfl
theorem join_one (y a : Str) : Txt.join y [a] = a := by rw [TL.join_eq]; rfl
/-- the signs of a joined text -/
theorem mem_joinL {c : Nat} {S : List Nat} : ∀ {ps : List (List Nat)}, c ∈ TL.joinL S ps → c ∈ S ∨ ∃ p ∈ ps, c ∈ p
  | [], h => by simp [TL.joinL] at h
  | [p], h => .inr ⟨p, by simp, by simpa [TL.joinL] using h⟩
  | p :: q :: r, h => by
    have h' : c ∈ p ++ (S ++ TL.joinL S (q :: r)) := h
    rcases List.mem_append.mp h' with h | h
    · exact .inr ⟨p, by simp, h⟩
    · rcases List.mem_append.mp h with h | h
      · exact .inl h
      · rcases mem_joinL h with h | ⟨z, hz, h⟩
        · exact .inl h
        · exact .inr ⟨z, by simp at hz ⊢; exact .inr hz, h⟩
theorem mem_join {c : Nat} {y : Str} {ps : List Str} (h : c ∈ tl (Txt.join y ps)) : c ∈ tl y ∨ ∃ p ∈ ps, c ∈ tl p := by
  rw [TL.join_eq, show tl (Str.join y ps) = TL.tl (Str.join y ps) from rfl, TL.tl_join] at h
  rcases mem_joinL h with h | ⟨p, hp, h⟩
  · exact .inl h
  · obtain ⟨z, hz, rfl⟩ := List.mem_map.mp hp
    exact .inr ⟨z, hz, h⟩
theorem nm_free {z : Str} (h : NmOk z) {c : Nat} (hc : c ∈ tl z) : c ∈ LET ∨ c ∈ DIG := by
  obtain ⟨a, r, e, _, h1, h2⟩ := h
  rw [e] at hc
  rcases List.mem_cons.mp hc with e2 | hc
  · rw [e2]; exact .inl h1
  · exact h2 _ hc
theorem let_rng : ∀ c ∈ LET, 97 ≤ c ∧ c ≤ 122 := by decide +kernel
theorem dig_rng : ∀ c ∈ DIG, 48 ≤ c ∧ c ≤ 57 := by decide +kernel
theorem nm_rng {z : Str} (h : NmOk z) {c : Nat} (hc : c ∈ tl z) : 48 ≤ c ∧ c ≤ 122 := by
  rcases nm_free h hc with h | h
  · have := let_rng c h; omega
  · have := dig_rng c h; omega
theorem nm_not {z : Str} (h : NmOk z) (c : Nat) (hc : c < 48) : c ∉ tl z := fun q => by have := nm_rng h q; omega
theorem nm_len {z : Str} (h : NmOk z) : z.length ≤ 8 := by
  obtain ⟨a, r, e, hl, _⟩ := h
  rw [slen, e, List.length_cons]; omega
/-- the signs of a number's text -/
theorem num_rng {i : Int} {c : Nat} (h : c ∈ tl (iTx i)) : c = 45 ∨ (48 ≤ c ∧ c ≤ 57) := by
  by_cases h1 : c = 45
  · exact .inl h1
  · by_cases h2 : c < 48 ∨ 57 < c
    · exact absurd h (int_text_free' c ⟨h1, h2⟩ i)
    · exact .inr (by omega)
theorem words_rng {f : List Int} {c : Nat} (h : c ∈ tl (words f)) : c = 32 ∨ c = 45 ∨ (48 ≤ c ∧ c ≤ 57) := by
  rcases mem_join h with h | ⟨p, hp, h⟩
  · have : tl (" " : Str) = [32] := by decide
    rw [this] at h
    exact .inl (by simpa using h)
  · obtain ⟨i, _, rfl⟩ := List.mem_map.mp hp
    exact .inr (num_rng h)
theorem split_words {f : List Int} (h : f ≠ []) : Txt.split (words f) " " = f.map iTx := by
  unfold words
  refine TL.split_join (s := 32) (S := []) (by decide) (by decide +kernel) (fun e => h (List.map_eq_nil_iff.mp e)) fun p hp hc => ?_
  obtain ⟨i, _, rfl⟩ := List.mem_map.mp hp
  rcases num_rng hc with e | e <;> omega
theorem split_names {ns : List Str} (h : ns ≠ []) (hn : ∀ z ∈ ns, NmOk z) : Txt.split (Txt.join " " ns) " " = ns :=
  TL.split_join (s := 32) (S := []) (by decide) (by decide +kernel) h fun p hp => nm_not (hn p hp) 32 (by decide)
theorem split_changes {fs : List (List Int)} (h : fs ≠ []) : Txt.split (Txt.join "; " (fs.map words)) "; " = fs.map words := by
  refine TL.split_join (s := 59) (S := [32]) (by decide) (by decide +kernel) (fun e => h (List.map_eq_nil_iff.mp e)) fun p hp hc => ?_
  obtain ⟨f, _, rfl⟩ := List.mem_map.mp hp
  rcases words_rng hc with e | e | e <;> omega
theorem say_join (s : Sy) (h : s.f ≠ []) : sayL s = Txt.join " " (("say" : Str) :: s.pl :: s.f.map iTx) := by
  obtain ⟨pl, f⟩ := s
  cases f with
  | nil => exact absurd rfl h
  | cons i r =>
    rw [List.map_cons, join_cons, join_cons]
    refine ext_s ?_
    unfold sayL words
    simp only [tl_app, List.map_cons, List.append_assoc]
    have e : tl ("say " : Str) = tl ("say" : Str) ++ tl (" " : Str) := by decide
    rw [e]
    simp only [List.append_assoc]
theorem split_say (s : Sy) (h : s.f ≠ []) (hp : NmOk s.pl) : Txt.split (sayL s) " " = ("say" : Str) :: s.pl :: s.f.map iTx := by
  rw [say_join s h]
  refine TL.split_join (s := 32) (S := []) (by decide) (by decide +kernel) (by simp) fun p hp' hc => ?_
  rcases List.mem_cons.mp hp' with e | hp'
  · rw [e] at hc
    exact absurd hc (by decide)
  · rcases List.mem_cons.mp hp' with e | hp'
    · rw [e] at hc
      exact nm_not hp 32 (by decide) hc
    · obtain ⟨i, _, rfl⟩ := List.mem_map.mp hp'
      rcases num_rng hc with e | e <;> omega
def brL (b : Br) : Str := ("branch " : Str) ++ b.src ++ (" " : Str) ++ b.tgt
def tsL (f : List Int) : Str := ("test " : Str) ++ words f
def thL (b : Br) : Str := ("then " : Str) ++ Txt.join "; " (b.chs.map words)
def vaL (p : Pt) : Str := ("vars " : Str) ++ Txt.join " " p.names
theorem armL_eq (b : Br) : armL b = brL b :: (b.tests.map tsL ++ [thL b]) := rfl
theorem ptL_eq (p : Pt) : ptL p = vaL p :: (p.says.map sayL ++ p.arms.flatMap armL) := rfl
theorem split_branch (b : Br) (h1 : NmOk b.src) (h2 : NmOk b.tgt) : Txt.split (brL b) " " = [("branch" : Str), b.src, b.tgt] := by
  have e : brL b = Txt.join " " [("branch" : Str), b.src, b.tgt] := by
    rw [join_cons, join_cons, join_one]
    refine ext_s ?_
    unfold brL
    simp only [tl_app, List.append_assoc]
    have e : tl ("branch " : Str) = tl ("branch" : Str) ++ tl (" " : Str) := by decide
    rw [e]
    simp only [List.append_assoc]
  rw [e]
  refine TL.split_join (s := 32) (S := []) (by decide) (by decide +kernel) (by simp) fun p hp' hc => ?_
  rcases List.mem_cons.mp hp' with e | hp'
  · rw [e] at hc
    exact absurd hc (by decide)
  · rcases List.mem_cons.mp hp' with e | hp'
    · rw [e] at hc
      exact nm_not h1 32 (by decide) hc
    · rw [List.mem_singleton.mp hp'] at hc
      exact nm_not h2 32 (by decide) hc
/-- no end of a line within a line -/
theorem nl_app {a b : Str} (h1 : 10 ∉ tl a) (h2 : 10 ∉ tl b) : 10 ∉ tl (a ++ b) := by
  rw [tl_app]; exact fun h => (List.mem_append.mp h).elim h1 h2
theorem nl_words (f : List Int) : 10 ∉ tl (words f) := fun h => by rcases words_rng h with e | e | e <;> omega
theorem split_lines (p : Pt) (h : PtOk p) : Txt.split (Txt.join "\n" (ptL p)) "\n" = ptL p := by
  refine TL.split_join (s := 10) (S := []) (by decide) (by decide +kernel) (by rw [ptL_eq]; simp) fun z hz => ?_
  rw [ptL_eq] at hz
  rcases List.mem_cons.mp hz with e | hz
  · rw [e]
    refine nl_app (by decide) fun hc => ?_
    rcases mem_join hc with hc | ⟨n, hn, hc⟩
    · exact absurd hc (by decide)
    · exact nm_not (h.nn n hn) 10 (by decide) hc
  · rcases List.mem_append.mp hz with hz | hz
    · obtain ⟨s, hs, rfl⟩ := List.mem_map.mp hz
      exact nl_app (nl_app (nl_app (by decide) (nm_not (h.ss s hs).p 10 (by decide))) (by decide)) (nl_words _)
    · obtain ⟨b, hb, hz⟩ := List.mem_flatMap.mp hz
      have hB := h.aa b hb
      rw [armL_eq] at hz
      rcases List.mem_cons.mp hz with e | hz
      · rw [e]
        exact nl_app (nl_app (nl_app (by decide) (nm_not hB.s 10 (by decide))) (by decide)) (nm_not hB.t 10 (by decide))
      · rcases List.mem_append.mp hz with hz | hz
        · obtain ⟨f, _, rfl⟩ := List.mem_map.mp hz
          exact nl_app (by decide) (nl_words _)
        · rw [List.mem_singleton.mp hz]
          refine nl_app (by decide) fun hc => ?_
          rcases mem_join hc with hc | ⟨n, hn, hc⟩
          · exact absurd hc (by decide)
          · obtain ⟨f, _, rfl⟩ := List.mem_map.mp hn
            exact nl_words _ hc
/-! ### numbers -/
theorem dv_num (n : Nat) (h : n ≤ 1000000) : (NumText.digitsVal (TL.numL n)) = n := by
  have hl : (TL.numL n).length ≤ 4300 := by
    have := iTx_len (i := (n : Int)) (by omega)
    rw [slen, show tl (iTx (n : Int)) = TL.numL n from TL.tl_num n] at this
    omega
  have h1 := TL.int_num (n := n) hl
  have hd : NumText.AllDigits (TL.numL n) := fun c hc => by
    have hc' : c ∈ tl (iTx (n : Int)) := by rw [show tl (iTx (n : Int)) = TL.numL n from TL.tl_num n]; exact hc
    rcases num_rng hc' with e | e
    · exfalso
      subst e
      unfold TL.numL at hc
      obtain ⟨ch, hch, e⟩ := List.mem_map.mp hc
      have := Nat.isDigit_of_mem_toDigits (by decide) (by decide) hch
      have h2 : ch = '-' := Char.toNat_inj.mp e
      rw [h2] at this
      exact absurd this (by decide)
    · exact e
  have hne : TL.numL n ≠ [] := by
    unfold TL.numL
    intro e
    exact absurd (List.map_eq_nil_iff.mp e) (by
      have := Nat.length_toDigits_pos (b := 10) (n := n)
      intro z; rw [z] at this; simp at this)
  have h2 := intText_digits (x := Str.ofString (toString ((n : Nat) : Int))) (by rw [show (Str.ofString (toString ((n : Nat) : Int))).cps.toList = TL.numL n from TL.tl_num n]; exact hd) (by rw [show (Str.ofString (toString ((n : Nat) : Int))).cps.toList = TL.numL n from TL.tl_num n]; exact hne)
    (by have := iTx_len (i := (n : Int)) (by omega); exact Nat.le_trans this (by decide))
  rw [h1] at h2
  have h3 := Option.some.inj h2
  rw [show (Str.ofString (toString ((n : Nat) : Int))).cps.toList = TL.numL n from TL.tl_num n] at h3
  omega
theorem num_tl (n : Nat) : tl (iTx (n : Int)) = TL.numL n := TL.tl_num n
theorem num_dig (n : Nat) : NumText.AllDigits (TL.numL n) := fun c hc => by
  have hc' : c ∈ tl (iTx (n : Int)) := by rw [num_tl]; exact hc
  rcases num_rng hc' with e | e
  · exfalso
    subst e
    unfold TL.numL at hc
    obtain ⟨ch, hch, e⟩ := List.mem_map.mp hc
    have := Nat.isDigit_of_mem_toDigits (by decide) (by decide) hch
    have h2 : ch = '-' := Char.toNat_inj.mp e
    rw [h2] at this
    exact absurd this (by decide)
  · exact e
theorem num_ne (n : Nat) : TL.numL n ≠ [] := fun e => by
  unfold TL.numL at e
  have := Nat.length_toDigits_pos (b := 10) (n := n)
  rw [List.map_eq_nil_iff.mp e] at this
  simp at this
theorem neg_tl {i : Int} (h : i < 0) : tl (iTx i) = 45 :: TL.numL i.natAbs := by
  have e : (0 - i) = ((i.natAbs : Nat) : Int) := by omega
  have e2 : toString i = "-" ++ toString ((i.natAbs : Nat) : Int) := by rw [toString_neg h, e]
  show tl (Str.ofString (toString i)) = _
  rw [e2, show tl (Str.ofString ("-" ++ toString ((i.natAbs : Nat) : Int))) = ("-" ++ toString ((i.natAbs : Nat) : Int)).toList.map Char.toNat from TL.tl_ofString _, String.toList_append, List.map_append]
  have e3 : (toString ((i.natAbs : Nat) : Int)).toList.map Char.toNat = TL.numL i.natAbs := by rw [← TL.tl_ofString]; exact TL.tl_num _
  rw [e3]
  rfl
theorem int_of {i : Int} (h : -1000000 ≤ i ∧ i ≤ 1000000) : intText? (iTx i) = some i := by
  have hl := iTx_len h
  by_cases q : i < 0
  · have e := intText_neg (x := iTx i) (cs := TL.numL i.natAbs) (neg_tl q) (num_dig _) (num_ne _) (by omega)
    rw [e, dv_num _ (by omega)]
    congr 1
    omega
  · have e0 : i = ((i.toNat : Nat) : Int) := by omega
    have e := intText_digits (x := iTx i) (by rw [e0]; show NumText.AllDigits (tl (iTx (i.toNat : Int))); rw [num_tl]; exact num_dig _) (by rw [e0]; show tl (iTx (i.toNat : Int)) ≠ []; rw [num_tl]; exact num_ne _) (by omega)
    rw [e]
    have e1 : (iTx i).cps.toList = TL.numL i.toNat := by
      have := num_tl i.toNat
      rw [← e0] at this
      exact this
    rw [e1, dv_num _ (by omega)]
    congr 1
    omega
end KK
set_option maxRecDepth 100000
/-! Readings, printed by gen.py. -/
namespace KK
open PySem PySem.Spec PyProof.Rows L2 DL
def t_Program__places : DS := (dRet (dCall S_places_in (dCons (dUn fPS (dVar 0)) (dCons (dUn fPB (dVar 0)) dNil))))
def t_Program____len__ : DS := (dRet (dFn (f1 fLen) (dCons (dUn fPB (dVar 0)) dNil)))
def t_Program____eq__ : DS := (dRet (dAndV (dUn fIsP (dVar 1)) (dOp fEqD (dCall S_program_lines (dCons (dVar 0) dNil)) (dCall S_program_lines (dCons (dVar 1) dNil)))))
def t_branch_lines : DS := (dSeq (dUnp (dVar 0) (dgTup [1, 2, 3, 4]))
    (dSeq (dSetO 5 (dLc (dItT (dVar 3)) (dgName 6) dYes (dOp fAddS (dC (.str "test ")) (dCall S_form_words (dCons (dVar 6) dNil))) [6]))
    (dFz 5 (dRet (dL (dLst (dCons (dJoined [(dC (.str "branch ")), (dUn fFmt (dVar 1)), (dC (.str " ")), (dUn fFmt (dVar 2))]) (dStar (dVar 5) (dCons (dOp fAddS (dC (.str "then ")) (dM1 fJoin (dC (.str "; ")) (dL (dLc (dItT (dVar 4)) (dgName 6) dYes (dCall S_form_words (dCons (dVar 6) dNil)) [6])))) dNil)))))))))
def t_program_lines : DS := (dSeq (dSetO 1 (dLst (dCons (dOp fAddS (dC (.str "vars ")) (dM1 fJoin (dC (.str " ")) (dUn fPN (dVar 0)))) dNil)))
    (dSeq (dExt 1 (dL (dLc (dItT (dUn fPS (dVar 0))) (dgTup [2, 3]) dYes (dJoined [(dC (.str "say ")), (dUn fFmt (dVar 2)), (dC (.str " ")), (dUn fFmt (dCall S_form_words (dCons (dVar 3) dNil)))]) [2, 3])))
    (dSeq (dFor (dItT (dUn fPB (dVar 0))) (dgName 4) (dExt 1 (dCall S_branch_lines (dCons (dVar 4) dNil))))
    (dFz 1 (dRet (dVar 1))))))
def t_written_integer : DS := (dSeq (dSet 1 (dIf (dTest (dOp fEq (dSl fSlS (dVar 0) dOn (dOs (dC (.int 1)))) (dC (.str "-")))) (dSl fSlS (dVar 0) (dOs (dC (.int 1))) dOn) (dVar 0)))
    (dSeq (dIfS (dOr (dTest (dOp fEq (dVar 1) (dC (.str "")))) (dOr (dTest (dOp fGt (dFn (f1 fLen) (dCons (dVar 1) dNil)) (dC (.int 4000)))) (dNot (dTest (dFn (f1 fAll) (dCons (dL (dLc (dItS (dVar 1)) (dgName 2) dYes (dOp (fInS false) (dVar 2) (dC (.str "0123456789"))) [2])) dNil)))))) (dRet (dC .non)) dNext)
    (dRet (dIf (dTest (dOp fEq (dFn (f1 fStrI) (dCons (dFn (f1 fIntS) (dCons (dVar 0) dNil)) dNil)) (dVar 0))) (dFn (f1 fIntS) (dCons (dVar 0) dNil)) (dC .non)))))
def t_text_form : DS := (dSeq (dSet 1 (dFn (f1 fTuple) (dCons (dL (dLc (dItL (dVar 0)) (dgName 2) dYes (dCall S_written_integer (dCons (dVar 2) dNil)) [2])) dNil)))
    (dRet (dIf (dTest (dOp (fIn false) (dC .non) (dVar 1))) (dC .non) (dVar 1))))
def t_text_saying : DS := (dSeq (dSet 1 (dL (dM1L fSplit (dVar 0) (dC (.str " ")))))
    (dRet (dIf (dTest (dOp fGt (dFn (f1 fLen) (dCons (dVar 1) dNil)) (dC (.int 2)))) (dTup (dCons (dOp fIx (dVar 1) (dC (.int 1))) (dCons (dCall S_text_form (dCons (dL (dSlL (dVar 1) (dOs (dC (.int 2))) dOn)) dNil)) dNil))) (dC .non))))
def t_text_branch : DS := (dSeq (dSet 1 (dL (dM1L fSplit (dOp fIx (dVar 0) (dC (.int 0))) (dC (.str " ")))))
    (dSeq (dIfS (dOr (dTest (dOp fNe (dFn (f1 fLen) (dCons (dVar 1) dNil)) (dC (.int 3)))) (dOr (dTest (dOp fNe (dSl fSlS (dOp fIx (dVar 0) (dUn fNeg (dC (.int 1)))) dOn (dOs (dC (.int 5)))) (dC (.str "then ")))) (dTest (dFn (f1 fAny) (dCons (dL (dLc (dItL (dL (dSlL (dVar 0) (dOs (dC (.int 1))) (dOs (dUn fNeg (dC (.int 1))))))) (dgName 2) dYes (dOp fNe (dSl fSlS (dVar 2) dOn (dOs (dC (.int 5)))) (dC (.str "test "))) [2])) dNil))))) (dRet (dC .non)) dNext)
    (dSeq (dSet 3 (dFn (f1 fTuple) (dCons (dL (dLc (dItL (dL (dSlL (dVar 0) (dOs (dC (.int 1))) (dOs (dUn fNeg (dC (.int 1))))))) (dgName 2) dYes (dCall S_text_form (dCons (dL (dM1L fSplit (dSl fSlS (dVar 2) (dOs (dC (.int 5))) dOn) (dC (.str " ")))) dNil)) [2])) dNil)))
    (dRet (dTup (dCons (dOp fIx (dVar 1) (dC (.int 1))) (dCons (dOp fIx (dVar 1) (dC (.int 2))) (dCons (dVar 3) (dCons (dFn (f1 fTuple) (dCons (dL (dLc (dItL (dL (dM1L fSplit (dSl fSlS (dOp fIx (dVar 0) (dUn fNeg (dC (.int 1)))) (dOs (dC (.int 5))) dOn) (dC (.str "; "))))) (dgName 4) dYes (dCall S_text_form (dCons (dL (dM1L fSplit (dVar 4) (dC (.str " ")))) dNil)) [4])) dNil)) dNil)))))))))
def t_text_program : DS := (dSeq (dIfS (dNot (dTest (dUn (fIsi .str) (dVar 0)))) (dRet (dC .non)) dNext)
    (dSeq (dSet 1 (dL (dM1L fSplit (dVar 0) (dC (.str "\n")))))
    (dSeq (dSet 2 (dFn (f1 fLen) (dCons (dL (dLc (dItL (dVar 1)) (dgName 3) (dTest (dOp fEq (dSl fSlS (dVar 3) dOn (dOs (dC (.int 4)))) (dC (.str "say ")))) (dVar 3) [3])) dNil)))
    (dSeq (dIfS (dOr (dTest (dOp fNe (dSl fSlS (dOp fIx (dVar 1) (dC (.int 0))) dOn (dOs (dC (.int 5)))) (dC (.str "vars ")))) (dTest (dFn (f1 fAny) (dCons (dL (dLc (dItL (dL (dSlL (dVar 1) (dOs (dC (.int 1))) (dOs (dOp fAdd (dVar 2) (dC (.int 1))))))) (dgName 3) dYes (dOp fNe (dSl fSlS (dVar 3) dOn (dOs (dC (.int 4)))) (dC (.str "say "))) [3])) dNil)))) (dRet (dC .non)) dNext)
    (dSeq (dPar 4 5 (dCons (dFn (f1 fTuple) (dCons (dL (dM1L fSplit (dSl fSlS (dOp fIx (dVar 1) (dC (.int 0))) (dOs (dC (.int 5))) dOn) (dC (.str " ")))) dNil)) (dCons (dCall S_branch_parts (dCons (dL (dSlL (dVar 1) (dOs (dOp fAdd (dVar 2) (dC (.int 1)))) dOn)) dNil)) dNil)))
    (dSeq (dIfS (dOr (dTest (dOp fIs (dVar 5) (dC .non))) (dTest (dOp fIsNot (dCall S_wrong_name (dCons (dVar 4) dNil)) (dC .non)))) (dRet (dC .non)) dNext)
    (dSeq (dSet 6 (dFn (f1 fTuple) (dCons (dL (dLc (dItL (dL (dSlL (dVar 1) (dOs (dC (.int 1))) (dOs (dOp fAdd (dVar 2) (dC (.int 1))))))) (dgName 3) dYes (dCall S_text_saying (dCons (dVar 3) dNil)) [3])) dNil)))
    (dSeq (dSet 7 (dFn (f1 fTuple) (dCons (dL (dLc (dItL (dVar 5)) (dgName 8) dYes (dCall S_text_branch (dCons (dVar 8) dNil)) [8])) dNil)))
    (dSeq (dIfS (dOr (dTest (dOp fIsNot (dCall S_wrong_saying (dCons (dVar 6) (dCons (dFn (f1 fLen) (dCons (dVar 4) dNil)) dNil))) (dC .non))) (dTest (dOp fIsNot (dCall S_wrong_branch (dCons (dVar 6) (dCons (dVar 7) (dCons (dFn (f1 fLen) (dCons (dVar 4) dNil)) dNil)))) (dC .non)))) (dRet (dC .non)) dNext)
    (dRet (dCall S_Program (dCons (dVar 4) (dCons (dVar 6) (dCons (dVar 7) dNil))))))))))))))
def t_check_program : DS := (dIfS (dNot (dTest (dUn fIsP (dVar 0)))) dNever dNext)
def t_check_index : DS := (dIfS (dOr (dNot (dTest (dCall S_is_integer (dCons (dVar 1) dNil)))) (dNot (dTest (dChain fLe fLt (dC (.int 0)) (dVar 1) (dCall S_Program____len__ (dCons (dVar 0) dNil)))))) dNever dNext)
def t_check_place : DS := (dIfS (dOr (dNot (dTest (dUn (fIsi .str) (dVar 1)))) (dTest (dOp (fIn true) (dVar 1) (dProp S_Program__places (dVar 0))))) dNever dNext)
def t_check_point : DS := (dIfS (dNot (dTest (dCall S_are_integers (dCons (dVar 1) (dCons (dFn (f1 fLen) (dCons (dUn fPN (dVar 0)) dNil)) dNil))))) dNever dNext)
def t__law_again : DS := (dSeq (dFor (dRng2 (dCons (dC (.int 1)) (dCons (dFn (f1 fLen) (dCons (dVar 0) dNil)) dNil))) (dgName 1) (dIfS (dTest (dOp fEqD (dOp fIx (dVar 0) (dOp fSub (dOp fSub (dFn (f1 fLen) (dCons (dVar 0) dNil)) (dC (.int 1))) (dVar 1))) (dOp fIx (dVar 0) (dUn fNeg (dC (.int 1)))))) (dRet (dVar 1)) dNext))
    (dRet (dC .non)))
def t_Lead__place : DS := (dRet (dOp fIx (dUn fGs (dUn fLs (dVar 0))) (dC (.int 0))))
def t_Lead__point : DS := (dRet (dOp fIx (dUn fGs (dUn fLs (dVar 0))) (dC (.int 1))))
def t_Lead__taken : DS := (dRet (dUn fGr (dUn fLs (dVar 0))))
def t_Lead__ready : DS := (dSeq (dUnp (dUn fGs (dUn fLs (dVar 0))) (dgTup [1, 2]))
    (dRet (dFn (f1 fTuple) (dCons (dL (dLc (dEnT (dCons (dUn fPB (dUn fLp (dVar 0))) dNil)) (dgTup [3, 4]) (dTest (dCall S_is_free (dCons (dVar 4) (dCons (dVar 1) (dCons (dVar 2) dNil))))) (dVar 3) [3, 4])) dNil))))
def t_Lead__again : DS := (dSeq (dPar 1 2 (dCons (dUn fGa (dUn fLs (dVar 0))) (dCons (dC (.int 1)) dNil)))
    (dSeq (dWhile (dTest (dOp fIsNot (dVar 1) (dC .non))) (dSeq (dIfS (dTest (dOp fEqD (dUn fGs (dVar 1)) (dUn fGs (dUn fLs (dVar 0))))) (dRet (dVar 2)) dNext)
    (dPar 1 2 (dCons (dUn fGa (dVar 1)) (dCons (dOp fAdd (dVar 2) (dC (.int 1))) dNil)))))
    (dRet (dC .non))))
def t_Lead__program : DS := (dRet (dUn fLp (dVar 0)))
def t_Lead____len__ : DS := (dRet (dFn (f1 fLen) (dCons (dUn fGr (dUn fLs (dVar 0))) dNil)))
def t_Lead____bool__ : DS := (dRet (dC (.bl true)))
end KK
set_option maxRecDepth 100000
set_option maxHeartbeats 2000000
namespace KK
open PySem PySem.Spec PyProof.Rows L2 DL
@[simp] theorem x_start2 {a b : Str} {d e : D} : startS [a, b] [d, e] = [.val d, .val e] := rfl
theorem d_Program__places (xs : List D) (P : D → Prop) (h : S_Program__places.f xs P) : t_Program__places.f (En P) (startS ["self"] xs) := by
  obtain ⟨n, ss, bs, rfl, h1, h2, h3⟩ := h
  simp [t_Program__places]
  exact ⟨ss, bs, rfl, h1, h2, h3⟩
theorem d_Program____len__ (xs : List D) (P : D → Prop) (h : S_Program____len__.f xs P) : t_Program____len__.f (En P) (startS ["self"] xs) := by
  obtain ⟨n, s, bs, rfl, h1, h3⟩ := h
  simpa [t_Program____len__] using h3
theorem hS_Program____len__ (d : D) (Q : D → Prop) (h : S_Program____len__.f [d] Q) : d.isPg = true ∧ S_Program____len__.f [d] fun z => ∃ n : Int, z = .int n ∧ 0 ≤ n ∧ n < 2 ^ 63 ∧ Q (.int n) := by
  obtain ⟨n, s, bs, e, h1, h3⟩ := h
  cases e
  exact ⟨rfl, n, s, bs, rfl, h1, _, rfl, by omega, by omega, h3⟩
theorem s_lines {p : Pt} {Q : D → Prop} (h : PtW p) (k : Q (.lst ((ptL p).map .str))) : S_program_lines.f [dPg p] Q := ⟨p, rfl, h, k⟩
theorem eqv_refl : ∀ zs : List Str, PyData.eqv (D.lst (zs.map .str)).py (D.lst (zs.map .str)).py = true := fun zs => by
  induction zs with
  | nil => rfl
  | cons z r ih =>
    simp only [List.map_cons]
    unfold D.py at ih ⊢
    unfold D.pys
    unfold PyData.eqv at ih ⊢
    unfold PyData.eqvAll
    simp only [Bool.and_eq_true]
    refine ⟨?_, ih⟩
    unfold D.py PyData.eqv
    simp
theorem cps_of {z : Str} {n : Nat} (h : ∀ c ∈ tl z, c < n) : z.cps.all (fun c => decide (c < n)) = true := by
  rw [← Array.all_toList]
  exact List.all_eq_true.mpr fun c hc => decide_eq_true (h c hc)
theorem rg_app {a b : Str} (h1 : ∀ c ∈ tl a, c < 128) (h2 : ∀ c ∈ tl b, c < 128) : ∀ c ∈ tl (a ++ b), c < 128 := fun c h => by
  rw [tl_app] at h
  exact (List.mem_append.mp h).elim (h1 c) (h2 c)
theorem rg_words (f : List Int) : ∀ c ∈ tl (words f), c < 128 := fun c h => by rcases words_rng h with e | e | e <;> omega
theorem rg_nm {z : Str} (h : NmOk z) : ∀ c ∈ tl z, c < 128 := fun c hc => by have := nm_rng h hc; omega
theorem ptL_rng {p : Pt} (h : PtOk p) : ∀ z ∈ ptL p, ∀ c ∈ tl z, c < 128 := fun z hz => by
  rw [ptL_eq] at hz
  rcases List.mem_cons.mp hz with e | hz
  · rw [e]
    refine rg_app (by decide) fun c hc => ?_
    rcases mem_join hc with hc | ⟨n, hn, hc⟩
    · exact (show ∀ c ∈ tl (" " : Str), c < 128 by decide) c hc
    · exact rg_nm (h.nn n hn) c hc
  · rcases List.mem_append.mp hz with hz | hz
    · obtain ⟨s, hs, rfl⟩ := List.mem_map.mp hz
      exact rg_app (rg_app (rg_app (by decide) (rg_nm (h.ss s hs).p)) (by decide)) (rg_words _)
    · obtain ⟨b, hb, hz⟩ := List.mem_flatMap.mp hz
      have hB := h.aa b hb
      rw [armL_eq] at hz
      rcases List.mem_cons.mp hz with e | hz
      · rw [e]
        exact rg_app (rg_app (rg_app (by decide) (rg_nm hB.s)) (by decide)) (rg_nm hB.t)
      · rcases List.mem_append.mp hz with hz | hz
        · obtain ⟨f, _, rfl⟩ := List.mem_map.mp hz
          exact rg_app (by decide) (rg_words _)
        · rw [List.mem_singleton.mp hz]
          refine rg_app (by decide) fun c hc => ?_
          rcases mem_join hc with hc | ⟨n, hn, hc⟩
          · exact (show ∀ c ∈ tl ("; " : Str), c < 128 by decide) c hc
          · obtain ⟨f, _, rfl⟩ := List.mem_map.mp hn
            exact rg_words _ c hc
theorem d_Program____eq__ (xs : List D) (P : D → Prop) (h : S_Program____eq__.f xs P) : t_Program____eq__.f (En P) (startS ["self", "other"] xs) := by
  obtain ⟨p, rfl, h1, h2, h3⟩ := h
  have hok : ∀ z ∈ ptL p, z.cps.all (· < 0x110000) = true := fun z hz => cps_of fun c hc => by have := ptL_rng h2 z hz c hc; omega
  simp [t_Program____eq__]
  refine ⟨by simp [dPg], ?_⟩
  have e : (dPg p).isPg = true := rfl
  simp [e]
  refine s_lines h1 (s_lines h1 ⟨okE_of (pyOk_lst (k := 0) fun d hd => ?_), okE_of (pyOk_lst (k := 0) fun d hd => ?_), ?_⟩)
  · obtain ⟨z, hz, rfl⟩ := List.mem_map.mp hd
    exact pyOk_str (hok z hz)
  · obtain ⟨z, hz, rfl⟩ := List.mem_map.mp hd
    exact pyOk_str (hok z hz)
  · rw [eqv_refl]; exact h3
theorem d_check_program (xs : List D) (P : D → Prop) (h : S_check_program.f xs P) : t_check_program.f (En P) (startS ["value"] xs) := by
  obtain ⟨n, s, b, rfl, h3⟩ := h
  simpa [t_check_program] using h3
theorem d_check_index (xs : List D) (P : D → Prop) (h : S_check_index.f xs P) : t_check_index.f (En P) (startS ["program", "value"] xs) := by
  obtain ⟨n, s, bs, k, rfl, h1, h2, h3⟩ := h
  simp [t_check_index, S_is_integer]
  have e : ¬ (k : Int) < 0 := by omega
  refine ⟨n, s, bs, rfl, h1, ?_⟩
  have e2 : (k : Int) < bs.length := by omega
  simp [e2, h2]
  simpa using h3
theorem mem_ded {x : Str} : ∀ {xs seen : List Str}, x ∈ xs → x ∉ seen → x ∈ dedFrom seen xs
  | [], _, h, _ => by simp at h
  | y :: ys, seen, h, hn => by
    unfold dedFrom
    by_cases e : x = y
    · subst e
      rw [if_neg hn]; simp
    · have h' : x ∈ ys := by
        rcases List.mem_cons.mp h with z | z
        · exact absurd z e
        · exact z
      have ih := mem_ded (xs := ys) (seen := seen ++ [y]) h' (by simp [hn, e])
      split
      · exact ih
      · exact List.mem_cons_of_mem _ ih
theorem mem_plcs {x : Str} {ss : List Sy} {bs : List Br} (h : x ∈ allPl ss bs) : x ∈ plcs ss bs := mem_ded h (by simp)
theorem d_check_place (xs : List D) (P : D → Prop) (h : S_check_place.f xs P) : t_check_place.f (En P) (startS ["program", "value"] xs) := by
  obtain ⟨n, ss, bs, z, rfl, h1, h2, h4, h3⟩ := h
  simp [t_check_place]
  refine ⟨n, ss, bs, rfl, h1, h2, ?_⟩
  refine in_strs _ (.inl rfl) ?_
  simp [mem_plcs h4]
  exact h3
theorem d_check_point (xs : List D) (P : D → Prop) (h : S_check_point.f xs P) : t_check_point.f (En P) (startS ["program", "value"] xs) := by
  obtain ⟨ns, s, b, p, rfl, h1, h2, h3⟩ := h
  simp [t_check_point]
  refine ⟨dF p, _, rfl, ⟨rfl, fun ds e => ?_⟩, ?_⟩
  · cases e
    exact ⟨small_le (by simp; omega), fun d hd => by obtain ⟨i, _, rfl⟩ := List.mem_map.mp hd; rfl⟩
  · have e : areInts (dF p) (ns.length : Int) = true := by
      unfold dF areInts
      simp [h1]
    rw [e]
    simpa using h3
theorem d_Lead__place (xs : List D) (P : D → Prop) (h : S_Lead__place.f xs P) : t_Lead__place.f (En P) (startS ["self"] xs) := by
  obtain ⟨l, q, s, r, a, rfl, h3⟩ := h
  simpa [t_Lead__place, dSt] using h3
theorem d_Lead__point (xs : List D) (P : D → Prop) (h : S_Lead__point.f xs P) : t_Lead__point.f (En P) (startS ["self"] xs) := by
  obtain ⟨l, q, s, r, a, rfl, h3⟩ := h
  simpa [t_Lead__point, dSt] using h3
theorem d_Lead__taken (xs : List D) (P : D → Prop) (h : S_Lead__taken.f xs P) : t_Lead__taken.f (En P) (startS ["self"] xs) := by
  obtain ⟨l, q, s, r, a, rfl, h3⟩ := h
  simpa [t_Lead__taken] using h3
theorem d_Lead__program (xs : List D) (P : D → Prop) (h : S_Lead__program.f xs P) : t_Lead__program.f (En P) (startS ["self"] xs) := by
  obtain ⟨l, q, s, rfl, h3⟩ := h
  simpa [t_Lead__program] using h3
theorem d_Lead____len__ (xs : List D) (P : D → Prop) (h : S_Lead____len__.f xs P) : t_Lead____len__.f (En P) (startS ["self"] xs) := by
  obtain ⟨l, q, s, r, a, rfl, h1, h3⟩ := h
  simpa [t_Lead____len__] using h3
theorem d_Lead____bool__ (xs : List D) (P : D → Prop) (h : S_Lead____bool__.f xs P) : t_Lead____bool__.f (En P) (startS ["self"] xs) := by
  obtain ⟨l, q, s, rfl, h3⟩ := h
  simpa [t_Lead____bool__] using h3
theorem hS_Lead____len__ (d : D) (Q : D → Prop) (h : S_Lead____len__.f [d] Q) : d.isLd = true ∧ S_Lead____len__.f [d] fun z => ∃ n : Int, z = .int n ∧ 0 ≤ n ∧ n < 2 ^ 63 ∧ Q (.int n) := by
  obtain ⟨l, q, s, r, a, e, h1, h3⟩ := h
  cases e
  exact ⟨rfl, l, q, s, r, a, rfl, h1, _, rfl, by omega, by omega, h3⟩
theorem hS_Lead____bool__ (d : D) (Q : D → Prop) (h : S_Lead____bool__.f [d] Q) : d.isLd = true ∧ S_Lead____bool__.f [d] fun z => ∃ n : Bool, z = .bl n ∧ Q (.bl n) := by
  obtain ⟨l, q, s, e, h3⟩ := h
  cases e
  exact ⟨rfl, l, q, s, rfl, true, rfl, h3⟩
/-- the free branches, by their places -/
def freeAt (s : Sta) (bs : List Br) (d : D) : Option D := match d with
  | .tup [.int i, _] => match bs[i.toNat]? with
    | some b => if free b s = true then some (.int i) else none
    | none => none
  | _ => none
theorem free_eq (s : Sta) (bs : List Br) : ∀ (n : Nat) (rest : List Br), bs.drop n = rest → (D.enumFrom n (rest.map dBr)).filterMap (freeAt s bs) =
    (((List.range' n rest.length).filter fun k => match bs[k]? with | some b => free b s | none => false).map fun (k : Nat) => D.int k)
  | n, [], _ => rfl
  | n, b :: rest, e => by
    have hb : bs[n]? = some b := by
      have := congrArg List.head? e
      rw [List.head?_drop] at this
      simpa using this
    have e2 : bs.drop (n + 1) = rest := by
      rw [← List.tail_drop, e]; rfl
    have ih := free_eq s bs (n + 1) rest e2
    rw [List.map_cons, List.length_cons, List.range'_succ]
    unfold D.enumFrom
    rw [List.filterMap_cons, List.filter_cons, ih]
    have e4 : freeAt s bs (.tup [.int (n : Nat), dBr b]) = if free b s = true then some (.int (n : Nat)) else none := by
      show (match bs[((n : Nat) : Int).toNat]? with | some b => if free b s = true then some (D.int (n : Nat)) else none | none => none) = _
      rw [Int.toNat_natCast, hb]
    rw [e4, hb]
    by_cases h : free b s = true <;> simp [h]
theorem frees_eq (p : Pt) (s : Sta) : (D.enumFrom 0 (p.arms.map dBr)).filterMap (freeAt s p.arms) = (frees p s).map fun (k : Nat) => D.int k := by
  rw [free_eq s p.arms 0 p.arms rfl]
  unfold frees
  rw [List.range_eq_range'] <;> rfl
theorem d_Lead__ready (xs : List D) (P : D → Prop) (h : S_Lead__ready.f xs P) : t_Lead__ready.f (En P) (startS ["self", "place", "point", "at", "branch"] xs) := by
  obtain ⟨l, p, s, r, a, rfl, ⟨g1, g2, g3⟩, h3⟩ := h
  simp [t_Lead__ready, startS, dSt, dPg, dBs, enum_len]
  refine ⟨small_le (by omega), lc_filterMap (freeAt s p.arms) _ _ (fun d hd Kk hK => ?_) ?_⟩
  · obtain ⟨i, x, e1, rfl⟩ := enum_mem hd
    have hi : i < p.arms.length := by
      have := (List.getElem?_eq_some_iff.mp e1).1
      simpa using this
    rw [List.getElem?_map, List.getElem?_eq_getElem hi] at e1
    cases e1
    simp
    refine ⟨p.arms[i], s, rfl, g2, g3 _ (by simp), ?_⟩
    simp [freeAt, hi] at hK
    by_cases q : free p.arms[i] s = true
    · simpa [q] using hK
    · have q' : free p.arms[i] s = false := by simpa using q
      simpa [q'] using hK
  · rw [List.nil_append, frees_eq]
    exact h3
end KK
set_option maxRecDepth 100000
set_option maxHeartbeats 2000000
namespace KK
open PySem PySem.Spec PyProof.Rows L2 DL
theorem eqv_ints : ∀ f g : List Int, PyData.eqvAll (D.pys (f.map .int)) (D.pys (g.map .int)) = decide (f = g)
  | [], [] => rfl
  | [], _ :: _ => rfl
  | _ :: _, [] => rfl
  | a :: f, b :: g => by
    rw [List.map_cons, List.map_cons]
    unfold D.pys PyData.eqvAll
    rw [eqv_ints f g]
    unfold D.py PyData.eqv
    by_cases h : a = b <;> by_cases h2 : f = g <;> simp [h, h2]
theorem eqv_st (a b : Sta) : PyData.eqv (dSt a).py (dSt b).py = sEq a b := by
  unfold dSt dF sEq
  unfold D.py PyData.eqv D.pys PyData.eqvAll D.pys PyData.eqvAll D.pys PyData.eqvAll
  have e : PyData.eqv (D.tup (a.pt.map .int)).py (D.tup (b.pt.map .int)).py = decide (a.pt = b.pt) := by
    unfold D.py PyData.eqv
    exact eqv_ints _ _
  rw [e, Bool.and_true]
  congr 1
theorem okE_st {s : Sta} (h : stOk s) : (dSt s).okE := okE_of (pyOk_tup (k := 1) fun d hd => by
  rcases List.mem_cons.mp hd with e | hd
  · rw [e]; exact pyOk_str h
  · rw [List.mem_singleton.mp hd]; exact pyOk_F _)
theorem d_Lead__again (xs : List D) (P : D → Prop) (h : S_Lead__again.f xs P) : t_Lead__again.f (En P) (startS ["self", "earlier", "many"] xs) := by
  obtain ⟨l, q, s, r, t, rfl, h1, h2, h3⟩ := h
  simp [t_Lead__again, startS, dHist]
  refine ⟨rfl, rfl, fun ss => ∃ (u : List (Sta × List Int)) (n : Nat), ss = [.val (.ld l q (.stg (dSt s) (dF r) (dHist t))), .val (dHist u), .val (.int ((n + 1 : Nat) : Int))] ∧ (∀ a ∈ u, stOk a.1) ∧
    P (agnN n ((u.map (·.1)).findIdx? fun a => sEq a s)), fun ss => match ss with
      | [_, .val d, _] => sizeOf d
      | _ => 0, ⟨t, 0, rfl, h2, h3⟩, fun ss hs => ?_⟩
  obtain ⟨u, n, rfl, hu, hP⟩ := hs
  cases u with
  | nil =>
    simp [dHist]
    exact hP
  | cons a u =>
    obtain ⟨a, ra⟩ := a
    simp [dHist]
    refine ⟨okE_st (hu (a, ra) (by simp)), okE_st h1, ?_⟩
    rw [eqv_st]
    rw [List.map_cons, List.findIdx?_cons] at hP
    cases e : sEq a s with
    | true =>
      simp [e] at hP ⊢
      simpa [agnN] using hP
    | false =>
      simp [e] at hP ⊢
      refine ⟨⟨u, n + 1, ⟨rfl, by simp⟩, fun x y hx => hu (x, y) (by simp [hx]), ?_⟩, by omega⟩
      cases e2 : u.findIdx? ((fun a => sEq a s) ∘ fun x => x.fst) with
      | none => simpa [e2, agnN] using hP
      | some k =>
        simp [e2] at hP ⊢
        show P (D.int ((n + 1 + k + 1 : Nat) : Int))
        have hP : P (D.int ((n + (k + 1) + 1 : Nat) : Int)) := hP
        have e3 : n + 1 + k + 1 = n + (k + 1) + 1 := by omega
        rw [e3]
        exact hP
theorem d__law_again (xs : List D) (P : D → Prop) (h : S__law_again.f xs P) : t__law_again.f (En P) (startS ["_law_states", "_law_k"] xs) := by
  obtain ⟨s, t, rfl, h1, h2, h4, h3⟩ := h
  have hst : ∀ a ∈ (s :: t), stOk a := fun a ha => by
    rcases List.mem_cons.mp ha with e | ha
    · rw [e]; exact h2
    · exact h4 a ha
  have hlen : ((s :: t).reverse.map dSt).length = t.length + 1 := by simp
  have hat : ∀ k : Nat, k ≤ t.length → atI ((s :: t).reverse.map dSt) ((t.length : Int) + 1 - 1 - (k : Nat)) = some (dSt ((s :: t)[k]?.getD s)) := fun k hk => by
    have e : ((t.length : Int) + 1 - 1 - (k : Nat)) = ((t.length - k : Nat) : Int) := by omega
    rw [e, atI_mapE, atI_natE (by simp; omega)]
    rw [List.getElem_reverse]
    have e2 : (s :: t).length - 1 - (t.length - k) = k := by simp; omega
    simp only [e2]
    rw [List.getElem?_eq_getElem (by simp; omega)]
    rfl
  have hl : atI ((s :: t).reverse.map dSt) (-1) = some (dSt s) := by
    rw [atI_m1 (by simp)]
    simp
  simp [t__law_again, startS, -List.reverse_cons, -List.map_reverse, -List.map_append]
  simp only [hlen, rng_len]
  have hlen' : (List.map dSt (s :: t).reverse).length = t.length + 1 := hlen
  refine ⟨by omega, small_le (by omega), for_inv (fun i ss => ∃ v, ss = [.val (.lst ((s :: t).reverse.map dSt)), v] ∧ ∀ j < i, ∀ a, t[j]? = some a → sEq a s = false) _ 0 _ ⟨_, rfl, fun j hj => by omega⟩ (fun i d hd ss hs N hN => ?_) fun ss hs => ?_⟩
  · obtain ⟨v, rfl, hv⟩ := hs
    have hi : i < t.length := by
      have := (List.getElem?_eq_some_iff.mp hd).1
      simpa [rng_len] using this
    unfold D.rng at hd
    rw [List.getElem?_map, List.getElem?_range hi] at hd
    cases hd
    have h1' := hat (i + 1) (by omega)
    have e0 : ((t.length : Int) + 1 - 1 - ((i + 1 : Nat) : Int)) = (t.length : Int) - (1 + (i : Int)) := by omega
    rw [e0] at h1'
    have e1 : (s :: t)[i + 1]?.getD s = t[i] := by simp [hi]
    rw [e1] at h1'
    simp [-List.reverse_cons, -List.map_reverse, -List.map_append, hlen]
    refine ⟨_, h1', _, hl, okE_st (h4 _ (List.getElem_mem hi)), okE_st h2, ?_⟩
    rw [eqv_st]
    have nx : sEq t[i] s = false → N [.val (.lst ((s :: t).reverse.map dSt)), .val (.int (1 + (i : Int)))] := fun e => hN _ ⟨_, rfl, fun j hj a ha => by
      by_cases z : j = i
      · subst z
        rw [List.getElem?_eq_getElem hi] at ha
        cases ha
        exact e
      · exact hv j (by omega) a ha⟩
    cases e : sEq t[i] s with
    | true =>
      have e2 : (t.findIdx? fun a => sEq a s) = some i := by
        rw [List.findIdx?_eq_some_iff_getElem]
        refine ⟨hi, e, fun j hj => ?_⟩
        have := hv j (by omega) t[j] (by simp)
        rw [this]; simp
      unfold agn at h3
      rw [e2] at h3
      have h3 : P (D.int ((0 + i + 1 : Nat) : Int)) := h3
      have e3 : ((0 + i + 1 : Nat) : Int) = 1 + (i : Int) := by omega
      rw [e3] at h3
      simpa using h3
    | false => simpa using nx e
  · obtain ⟨v, rfl, hv⟩ := hs
    rw [rng_len, Nat.zero_add] at hv
    have e : (t.findIdx? fun a => sEq a s) = none := by
      rw [List.findIdx?_eq_none_iff]
      intro a ha
      obtain ⟨j, hj, e⟩ := List.mem_iff_getElem.mp ha
      exact hv j hj a (by rw [List.getElem?_eq_getElem hj, e])
    unfold agn at h3
    rw [e] at h3
    exact h3
end KK
set_option maxRecDepth 100000
set_option maxHeartbeats 2000000
namespace KK
open PySem PySem.Spec PyProof.Rows L2 DL
theorem s_fw {f : List Int} {Q : D → Prop} (h : FmW f) (k : Q (.str (words f))) : S_form_words.f [dF f] Q := ⟨f, rfl, h, k⟩
@[simp] theorem empty_len : Str.empty.length = 0 := rfl
@[simp] theorem empty_app (a : Str) : Str.empty ++ a = a := ext_s (by rw [tl_app]; rfl)
theorem d_branch_lines (xs : List D) (P : D → Prop) (h : S_branch_lines.f xs P) : t_branch_lines.f (En P) (startS ["branch", "source", "target", "tests", "changes", "lines", "form"] xs) := by
  obtain ⟨b, rfl, ⟨h1, h2, h3, h4, h5, h6⟩, h7⟩ := h
  simp [t_branch_lines, startS, dBr, dFs, app_len]
  refine ⟨small_le (by omega), lc_map (fun d => .str (("test " : Str) ++ words (match d with | .tup ds => ds.map D.toI | _ => []))) _ (fun d hd Kk hK => ?_) ?_⟩
  · obtain ⟨f, hf, rfl⟩ := List.mem_map.mp hd
    have hw := words_len (h5 f hf)
    simp
    refine s_fw (h5 f hf) ?_
    simp
    refine ⟨small_le (by omega), ?_⟩
    simpa [dF, Function.comp_def] using hK
  · simp
    repeat refine ⟨small_le (by omega), ?_⟩
    refine lc_map (fun d => .str (words (match d with | .tup ds => ds.map D.toI | _ => []))) _ (fun d hd Kk hK => ?_) ?_
    · obtain ⟨f, hf, rfl⟩ := List.mem_map.mp hd
      simp
      refine s_fw (h6 f hf) ?_
      simpa [dF, Function.comp_def] using hK
    · have e1 : (b.chs.map dF).map (fun d => D.str (words (match d with | .tup ds => ds.map D.toI | _ => []))) = (b.chs.map words).map D.str := by
        simp [dF, Function.comp_def]
      rw [e1]
      have hb : ((b.chs.map words).map (·.length)).sum ≤ (b.chs.map words).length * 40 := sum_le fun p hp => by
        obtain ⟨f, hf, rfl⟩ := List.mem_map.mp hp
        exact words_len (h6 f hf)
      have hj := join_len (y := ("; " : Str)) (ps := b.chs.map words) (k := 40) fun p hp => by
        obtain ⟨f, hf, rfl⟩ := List.mem_map.mp hp
        exact words_len (h6 f hf)
      rw [List.length_map] at hb hj
      rw [cs5] at hj
      have e2 : ((b.chs.map words).map D.str).map D.toS = b.chs.map words := by simp [Function.comp_def]
      rw [e2]
      refine ⟨fun x hx => ?_, ?_, small_le (by omega), small_le (by simp; omega), ?_⟩
      · obtain ⟨a, _, rfl⟩ := List.mem_map.mp hx
        rfl
      · rw [List.length_map, List.length_map]
        rw [List.map_map] at hb ⊢
        rw [List.map_map]
        have ef : ((((fun x : Str => x.length) ∘ D.toS) ∘ D.str) ∘ words) = ((fun x : Str => x.length) ∘ words) := rfl
        rw [ef]
        omega
      · simpa [armL, Function.comp_def, dF, empty_app] using h7
theorem s_bl {b : Br} {Q : D → Prop} (h : BrW b) (k : Q (.lst ((armL b).map .str))) : S_branch_lines.f [dBr b] Q := ⟨b, rfl, h, k⟩
theorem d_program_lines (xs : List D) (P : D → Prop) (h : S_program_lines.f xs P) : t_program_lines.f (En P) (startS ["program", "lines", "place", "form", "branch"] xs) := by
  obtain ⟨p, rfl, ⟨h1, h2, h3, h4, h5, h6⟩, h7⟩ := h
  have hb : (p.names.map (·.length)).sum ≤ p.names.length * 8 := sum_le h2
  have hj := join_len (y := (" " : Str)) (ps := p.names) (k := 8) h2
  rw [cs2] at hj
  simp [t_program_lines, startS, dPg, dNm, app_len, Function.comp_def]
  refine ⟨by omega, small_le (by omega), small_le (by decide), ?_⟩
  simp [dSs]
  refine ⟨small_le (by omega), lc_map (fun d => match d with | .tup [.str z, .tup ds] => .str (sayL ⟨z, ds.map D.toI⟩) | _ => .non) _ (fun d hd Kk hK => ?_) ?_⟩
  · obtain ⟨s, hs, rfl⟩ := List.mem_map.mp hd
    obtain ⟨g1, g2⟩ := h4 s hs
    have hw := words_len g2
    simp [dSy, app_len, empty_app]
    repeat refine ⟨small_le (by omega), ?_⟩
    refine s_fw g2 ?_
    simp [empty_app, app_len]
    repeat refine ⟨small_le (by omega), ?_⟩
    simpa [dSy, dF, Function.comp_def, sayL] using hK
  · have e1 : (p.says.map dSy).map (fun d => match d with | .tup [.str z, .tup ds] => D.str (sayL ⟨z, ds.map D.toI⟩) | _ => .non) = (p.says.map sayL).map D.str := by
      rw [List.map_map, List.map_map]
      refine List.map_congr_left fun s _ => ?_
      simp [dSy, dF, Function.comp_def]
    rw [e1]
    simp
    simp [dBs]
    refine ⟨small_le (by omega), small_le (by omega), for_inv (fun i ss => ∃ w, ss = [.val (dPg p), .own ((vaL p :: (p.says.map sayL ++ (p.arms.take i).flatMap armL)).map .str), .no, .no, w]) _ 0 _ ⟨.no, ?_⟩ (fun i d hd ss hs N hN => ?_) fun ss hs => ?_⟩
    · simp [dPg, dNm, dSs, dBs, vaL]
    · obtain ⟨w, rfl⟩ := hs
      have hi : i < p.arms.length := by
        have := (List.getElem?_eq_some_iff.mp hd).1
        simpa using this
      rw [List.getElem?_map, List.getElem?_eq_getElem hi] at hd
      cases hd
      have hw := h6 p.arms[i] (by simp)
      have hal := armL_len hw
      have hfl : ((p.arms.take i).flatMap armL).length ≤ 25 := by
        rw [List.length_flatMap]
        have := sum_le (f := fun b => (armL b).length) (k := 5) (l := p.arms.take i) fun b hb => armL_len (h6 b (List.mem_of_mem_take hb))
        have e : (p.arms.take i).length ≤ 5 := by rw [List.length_take]; omega
        omega
      simp
      refine s_bl hw ⟨?_, hN _ ⟨.val (dBr p.arms[i]), ?_⟩⟩
      · refine small_le ?_
        rw [List.length_flatMap, List.map_take] at hfl
        simp
        omega
      · simp
        rw [List.take_succ_eq_append_getElem hi, List.flatMap_append, List.map_append]
        simp
    · obtain ⟨w, rfl⟩ := hs
      have e0 : p.arms.take (0 + (p.arms.map dBr).length) = p.arms := by simp
      rw [e0]
      simpa [ptL_eq] using h7
end KK
set_option maxRecDepth 100000
set_option maxHeartbeats 2000000
namespace KK
open PySem PySem.Spec PyProof.Rows L2 DL
theorem dig_mem {n : Nat} (h : 48 ≤ n ∧ n ≤ 57) : n ∈ (Str.ofString "0123456789").cps := by
  have : n ∈ DIG := by
    have e : DIG = [48, 49, 50, 51, 52, 53, 54, 55, 56, 57] := by decide +kernel
    rw [e]
    simp
    omega
  simpa [DIG, tl] using this
/-- the figures of a number's text -/
theorem num_figs (i : Int) (h : -1000000 ≤ i ∧ i ≤ 1000000) : ∃ w, (if cutS (iTx i) none (some 1) = ("-" : Str) then cutS (iTx i) (some 1) none else iTx i) = w ∧ w ≠ ("" : Str) ∧ w.length ≤ 8 ∧ NumText.AllDigits (tl w) := by
  have hl := iTx_len h
  by_cases q : i < 0
  · have e := neg_tl q
    have e1 : cutS (iTx i) none (some 1) = ("-" : Str) := ext_s (by
      have := tl_to (iTx i) 1
      rw [e] at this
      exact this)
    have e2 : tl (cutS (iTx i) (some 1) none) = TL.numL i.natAbs := by
      have := tl_from (iTx i) 1
      rw [e] at this
      exact this
    rw [if_pos e1]
    refine ⟨_, rfl, fun z => num_ne i.natAbs ?_, ?_, by rw [e2]; exact num_dig _⟩
    · rw [← e2, z]; rfl
    · exact Nat.le_trans (cutS_length _ _ _) hl
  · have e0 : i = ((i.toNat : Nat) : Int) := by omega
    have e : tl (iTx i) = TL.numL i.toNat := by
      have := num_tl i.toNat
      rw [← e0] at this
      exact this
    have e1 : ¬ cutS (iTx i) none (some 1) = ("-" : Str) := fun z => by
      have z2 := congrArg tl z
      have := tl_to (iTx i) 1
      rw [e] at this
      have z3 : (TL.numL i.toNat).take 1 = tl ("-" : Str) := this.symm.trans z2
      cases q2 : TL.numL i.toNat with
      | nil => exact num_ne _ q2
      | cons a r =>
        rw [q2] at z3
        have ha := num_dig i.toNat a (by rw [q2]; simp)
        have : [a] = tl ("-" : Str) := z3
        rw [show tl ("-" : Str) = [45] by decide] at this
        simp at this
        omega
    rw [if_neg e1]
    refine ⟨_, rfl, fun z => num_ne i.toNat ?_, hl, by rw [e]; exact num_dig _⟩
    rw [← e, z]; rfl
theorem d_written_integer (xs : List D) (P : D → Prop) (h : S_written_integer.f xs P) : t_written_integer.f (En P) (startS ["word", "digits", "sign"] xs) := by
  obtain ⟨i, rfl, h1, h3⟩ := h
  have hl := iTx_len h1
  obtain ⟨w, hw, w0, w1, w2⟩ := num_figs i h1
  have hs : small (iTx i).length := small_le (by omega)
  have key : ∀ (Q : Sls → Prop), Q [.val (.str (iTx i)), .val (.str w), .no] → (dSet 1 (dIf (dTest (dOp fEq (dSl fSlS (dVar 0) dOn (dOs (dC (.int 1)))) (dC (.str "-")))) (dSl fSlS (dVar 0) (dOs (dC (.int 1))) dOn) (dVar 0))).f ⟨Q, fun d _ => P d, fun _ => False, fun _ => False⟩ [.val (.str (iTx i)), .no, .no] := fun Q q => by
    simp [hs]
    by_cases z : cutS (iTx i) none (some 1) = ("-" : Str)
    · rw [if_pos z] at hw
      simp [z, hw]
      exact q
    · rw [if_neg z] at hw
      simp [z]
      subst hw
      exact q
  unfold t_written_integer
  rw [x_seq]
  refine key _ ?_
  have wl : ¬ (4000 : Int) < w.length := by omega
  have hd : D.signs w = (tl w).map fun n => .str ⟨#[n]⟩ := rfl
  simp [w0, small_le (show w.length ≤ 1000000 by omega), wl, hd]
  have wls : (tl w).length = w.length := slen.symm
  refine ⟨small_le (by show w.cps.size ≤ 1000000; exact Nat.le_trans w1 (by decide)), lc_map (fun _ => .bl true) _ (fun d hd Kk hK => ?_) ?_⟩
  · have : ∃ n, n ∈ tl w ∧ d = .str ⟨#[n]⟩ := by simpa [eq_comm] using hd
    obtain ⟨n, hn, rfl⟩ := this
    simp [fInS, dig_mem (w2 n hn), hK]
  · refine ⟨all_bl, ?_⟩
    rw [if_pos (fun x hx => by obtain ⟨_, _, rfl⟩ := List.mem_map.mp hx; rfl)]
    refine ⟨by omega, i, int_of h1, log_small h1, ?_⟩
    rw [if_pos (show Str.ofString i.repr = iTx i from rfl)]
    exact ⟨by omega, i, int_of h1, h3⟩
theorem s_wi {i : Int} {Q : D → Prop} (h : -1000000 ≤ i ∧ i ≤ 1000000) (k : Q (.int i)) : S_written_integer.f [.str (iTx i)] Q := ⟨i, rfl, h, k⟩
theorem non_ints {f : List Int} {Q : D → Prop} (h : Q (.bl false)) : fIn false .non (.tup (f.map .int)) Q := by
  have a1 : (f.map D.int).all D.flat = true := by
    rw [List.all_map]
    exact List.all_eq_true.mpr fun _ _ => rfl
  have a2 : ((f.map D.int).all fun y => y.kin .non) = true := by
    rw [List.all_map]
    exact List.all_eq_true.mpr fun _ _ => rfl
  have a3 : D.non.inF (f.map D.int) = false := by
    unfold D.inF
    rw [List.any_map, List.any_eq_false]
    intro x _
    simp [D.eqF]
  unfold fIn
  refine ⟨rfl, a1, a2, ?_⟩
  rw [a3]
  exact h
theorem d_text_form (xs : List D) (P : D → Prop) (h : S_text_form.f xs P) : t_text_form.f (En P) (startS ["words", "found", "word"] xs) := by
  obtain ⟨f, rfl, ⟨g1, g2⟩, h3⟩ := h
  simp [t_text_form, startS]
  refine ⟨small_le (by omega), lc_map (fun d => .int ((intText? d.toS).getD 0)) _ (fun d hd Kk hK => ?_) ?_⟩
  · obtain ⟨i, hi, rfl⟩ := List.mem_map.mp hd
    simp
    refine s_wi (g2 i hi) ?_
    simpa [int_of (g2 i hi)] using hK
  · have e : (f.map fun i => D.str (iTx i)).map (fun d => D.int ((intText? d.toS).getD 0)) = f.map .int := by
      rw [List.map_map]
      refine List.map_congr_left fun i hi => ?_
      simp [int_of (g2 i hi)]
    rw [e]
    refine non_ints ?_
    simpa [dF] using h3
theorem s_tf {f : List Int} {Q : D → Prop} (h : FmW f) (k : Q (dF f)) : S_text_form.f [.lst (f.map fun i => .str (iTx i))] Q := ⟨f, rfl, h, k⟩
theorem sayL_len {s : Sy} (h1 : NmOk s.pl) (h2 : FmW s.f) : (sayL s).length ≤ 60 := by
  have := words_len h2
  have h3 := nm_len h1
  unfold sayL
  simp only [app_len, cs7, cs2]
  omega
theorem d_text_saying (xs : List D) (P : D → Prop) (h : S_text_saying.f xs P) : t_text_saying.f (En P) (startS ["line", "words"] xs) := by
  obtain ⟨s, rfl, h1, h2, h3, h4⟩ := h
  have hl := sayL_len h1 h2
  have hf : 1 ≤ s.f.length := List.length_pos_iff.mpr h3
  have e1 : ((" " : Str).length == 0) = false := by decide
  have h0 : (2 : Int) < (s.f.length : Int) + 1 + 1 := by omega
  simp [t_text_saying, startS, small_le (show (sayL s).length ≤ 1000000 by omega), split_say s h3 h1, h0]
  have e : DL.cutD (D.str "say" :: D.str s.pl :: s.f.map (D.str ∘ iTx)) (some (2 : Int)) none = s.f.map fun i => .str (iTx i) := by
    have := cut_from (D.str "say" :: D.str s.pl :: s.f.map (D.str ∘ iTx)) (i := 2) (by simp)
    rw [show ((2 : Nat) : Int) = 2 from rfl] at this
    rw [this]
    rfl
  rw [e]
  refine s_tf h2 ?_
  exact ⟨small_le (by decide), h4⟩
theorem cut_mid1 {α : Type} (a : α) (xs : List α) (b : α) : DL.cutD (a :: (xs ++ [b])) (some 1) (some (-1)) = xs := by
  have hl : (a :: (xs ++ [b])).length = xs.length + 2 := by simp
  have e1 : HT.sIx (xs.length + 2) 0 (some 1) = 1 := by
    have := HT.sIx_nat (xs.length + 2) 0 1
    rw [show ((1 : Nat) : Int) = 1 from rfl] at this
    rw [this]; omega
  have e2 : HT.sIx (xs.length + 2) (xs.length + 2) (some (-1)) = xs.length + 1 := by
    have e : HT.sIx (xs.length + 2) (xs.length + 2) (some (-1)) = ((-1 : Int) + ((xs.length + 2 : Nat) : Int)).toNat := rfl
    rw [e]; omega
  unfold DL.cutD
  rw [hl, e1, e2]
  simp
theorem last_at {α : Type} (a : α) (xs : List α) (b : α) : atI (a :: (xs ++ [b])) (-1) = some b := by
  rw [atI_m1 (by simp)]
  have e : (a :: (xs ++ [b])).getLast? = some b := by rw [← List.cons_append, List.getLast?_append]; rfl
  rw [List.getLast?_eq_some_getLast (by simp)] at e
  exact e
theorem tsL_len {f : List Int} (h : FmW f) : (tsL f).length ≤ 50 := by
  have := words_len h
  unfold tsL
  simp only [app_len, cs3]
  omega
theorem brL_len {b : Br} (h1 : NmOk b.src) (h2 : NmOk b.tgt) : (brL b).length ≤ 50 := by
  have := nm_len h1
  have := nm_len h2
  unfold brL
  simp only [app_len, cs1, cs2]
  omega
theorem chw_len {b : Br} (h : BrR b) : (Txt.join "; " (b.chs.map words)).length ≤ 150 := by
  have hj := join_len (y := ("; " : Str)) (ps := b.chs.map words) (k := 40) fun p hp => by
    obtain ⟨f, hf, rfl⟩ := List.mem_map.mp hp
    exact words_len (h.fc f hf).1
  have := h.lc
  rw [List.length_map, cs5] at hj
  omega
theorem thL_len {b : Br} (h : BrR b) : (thL b).length ≤ 200 := by
  have := chw_len h
  unfold thL
  simp only [app_len, cs4]
  omega
theorem d_text_branch (xs : List D) (P : D → Prop) (h : S_text_branch.f xs P) : t_text_branch.f (En P) (startS ["lines", "words", "line", "tests", "part"] xs) := by
  obtain ⟨b, rfl, hB, h3⟩ := h
  have hb1 := brL_len hB.s hB.t
  have hb2 := thL_len hB
  have hb3 := chw_len hB
  have hlt := hB.lt
  have hlc := hB.lc
  have hs1 := split_branch b hB.s hB.t
  have hs2 := split_changes hB.c0
  have p5 : cutS (thL b) none (some (5 : Int)) = ("then " : Str) := pre_eq ("then " : Str) _
  have s5 : cutS (thL b) (some (5 : Int)) none = Txt.join "; " (b.chs.map words) := suf_eq ("then " : Str) _
  have m1 : DL.cutD (D.str (brL b) :: ((b.tests.map fun f => D.str (tsL f)) ++ [D.str (thL b)])) (some (1 : Int)) (some (-1 : Int)) = b.tests.map fun f => D.str (tsL f) := cut_mid1 _ _ _
  have e0 : (armL b).map D.str = D.str (brL b) :: ((b.tests.map fun f => D.str (tsL f)) ++ [D.str (thL b)]) := by
    rw [armL_eq]
    simp [Function.comp_def]
  rw [e0]
  have hat := last_at (D.str (brL b)) (b.tests.map fun f => D.str (tsL f)) (D.str (thL b))
  simp [t_text_branch, startS, small_le (show (brL b).length ≤ 1000000 by omega), small_le (show (thL b).length ≤ 1000000 by omega), hs1, hat, p5, m1]
  have hp : ∀ f : List Int, cutS (tsL f) none (some (5 : Int)) = ("test " : Str) := fun f => pre_eq ("test " : Str) _
  have hq : ∀ f : List Int, cutS (tsL f) (some (5 : Int)) none = words f := fun f => suf_eq ("test " : Str) _
  refine ⟨small_le (by omega), lc_map (fun _ => .bl false) _ (fun d hd Kk hK => ?_) ?_⟩
  · obtain ⟨f, hf, rfl⟩ := List.mem_map.mp hd
    have := tsL_len (hB.ft f hf).1
    simp [small_le (show (tsL f).length ≤ 1000000 by omega), hp]
    exact hK
  · refine ⟨fun x hx => by obtain ⟨_, _, rfl⟩ := List.mem_map.mp hx; rfl, ?_⟩
    rw [if_neg (fun ⟨x, hx, e⟩ => by obtain ⟨_, _, rfl⟩ := List.mem_map.mp hx; simp at e)]
    refine ⟨small_le (by omega), lc_map (fun d => match d with | .str z => dF ((Txt.split (cutS z (some 5) none) " ").map fun w => (intText? w).getD 0) | _ => .non) _ (fun d hd Kk hK => ?_) ?_⟩
    · obtain ⟨f, hf, rfl⟩ := List.mem_map.mp hd
      have h1 := tsL_len (hB.ft f hf).1
      have h2 := words_len (hB.ft f hf).1
      simp [small_le (show (tsL f).length ≤ 1000000 by omega), small_le (show (words f).length ≤ 1000000 by omega), hq, split_words (hB.ft f hf).2] at hK ⊢
      refine s_tf (hB.ft f hf).1 ?_
      have e : (f.map fun i => (intText? (iTx i)).getD 0) = f := by
        have : (f.map fun i => (intText? (iTx i)).getD 0) = f.map id := List.map_congr_left fun i hi => by rw [int_of ((hB.ft f hf).1.2 i hi)]; rfl
        rw [this, List.map_id]
      simpa [Function.comp_def, e] using hK
    · have e1 : (b.tests.map fun f => D.str (tsL f)).map (fun d => match d with | .str z => dF ((Txt.split (cutS z (some 5) none) " ").map fun w => (intText? w).getD 0) | _ => .non) = b.tests.map dF := by
        rw [List.map_map]
        refine List.map_congr_left fun f hf => ?_
        have e : (f.map fun i => (intText? (iTx i)).getD 0) = f := by
          have : (f.map fun i => (intText? (iTx i)).getD 0) = f.map id := List.map_congr_left fun i hi => by rw [int_of ((hB.ft f hf).1.2 i hi)]; rfl
          rw [this, List.map_id]
        show dF ((Txt.split (cutS (tsL f) (some 5) none) " ").map fun w => (intText? w).getD 0) = dF f
        rw [hq, split_words (hB.ft f hf).2, List.map_map]
        exact congrArg dF e
      rw [e1, s5, hs2]
      refine ⟨small_le (by omega), small_le (by simp; omega), lc_map (fun d => match d with | .str z => dF ((Txt.split z " ").map fun w => (intText? w).getD 0) | _ => .non) _ (fun d hd Kk hK => ?_) ?_⟩
      · obtain ⟨w, hw, rfl⟩ := List.mem_map.mp hd
        obtain ⟨f, hf, rfl⟩ := List.mem_map.mp hw
        have h2 := words_len (hB.fc f hf).1
        simp [small_le (show (words f).length ≤ 1000000 by omega), split_words (hB.fc f hf).2] at hK ⊢
        refine s_tf (hB.fc f hf).1 ?_
        have e : (f.map fun i => (intText? (iTx i)).getD 0) = f := by
          have : (f.map fun i => (intText? (iTx i)).getD 0) = f.map id := List.map_congr_left fun i hi => by rw [int_of ((hB.fc f hf).1.2 i hi)]; rfl
          rw [this, List.map_id]
        simpa [Function.comp_def, e] using hK
      · have e2 : ((b.chs.map words).map D.str).map (fun d => match d with | .str z => dF ((Txt.split z " ").map fun w => (intText? w).getD 0) | _ => .non) = b.chs.map dF := by
          rw [List.map_map, List.map_map]
          refine List.map_congr_left fun f hf => ?_
          have e : (f.map fun i => (intText? (iTx i)).getD 0) = f := by
            have : (f.map fun i => (intText? (iTx i)).getD 0) = f.map id := List.map_congr_left fun i hi => by rw [int_of ((hB.fc f hf).1.2 i hi)]; rfl
            rw [this, List.map_id]
          show dF ((Txt.split (words f) " ").map fun w => (intText? w).getD 0) = dF f
          rw [split_words (hB.fc f hf).2, List.map_map]
          exact congrArg dF e
        rw [e2]
        exact ⟨small_le (by decide), h3⟩
theorem PtOk.w {p : Pt} (h : PtOk p) : PtW p where
  n := h.n3
  nn := fun z hz => nm_len (h.nn z hz)
  s := h.s3
  ss := fun s hs => ⟨nm_len (h.ss s hs).p, by have := (h.ss s hs).f.1; have := h.n3; omega, (h.ss s hs).f.2⟩
  a := h.a5
  aa := fun b hb => by
    have hB := h.aa b hb
    have h3 := h.n3
    exact ⟨nm_len hB.s, nm_len hB.t, hB.lt, by have := hB.lc; omega, fun f hf => ⟨by have := (hB.ft f hf).1; omega, (hB.ft f hf).2⟩, fun f hf => ⟨by have := (hB.fc f hf).1; omega, (hB.fc f hf).2⟩⟩
theorem fm_ne {m : Nat} {f : List Int} (h : FmOk m f) : f ≠ [] := fun e => by have := h.1; rw [e] at this; simp at this
theorem PtOk.r {p : Pt} (h : PtOk p) : ∀ b ∈ p.arms, BrR b := fun b hb => by
  have hB := h.aa b hb
  have hW := h.w.aa b hb
  have h0 : 0 < p.names.length := List.length_pos_iff.mpr h.n0
  exact ⟨hB.s, hB.t, hB.lt, fun e => by have := hB.lc; rw [e] at this; simp at this; omega, hW.lc, fun f hf => ⟨hW.ft f hf, fm_ne (hB.ft f hf)⟩, fun f hf => ⟨hW.fc f hf, fm_ne (hB.fc f hf)⟩⟩
end KK
set_option maxRecDepth 100000
set_option maxHeartbeats 2000000
namespace KK
open PySem PySem.Spec PyProof.Rows L2 DL
theorem lc_maps {α : Type} {g : DG} {tt : DT} {te : DE} {ss : Sls} {Q : List D → Prop} (u w : α → D) : ∀ (l : List α) (acc : List D), (∀ a ∈ l, ∀ Kk : Option D → Prop, Kk (some (w a)) → lcI g tt te ss (u a) Kk) → Q (acc ++ l.map w) → lcD g tt te ss (l.map u) acc Q
  | [], acc, _, q => by
    unfold lcD
    simpa using q
  | a :: l, acc, h, q => by
    refine h a (by simp) (fun o => match o with
      | some y => lcD g tt te ss (l.map u) (acc ++ [y]) Q
      | none => lcD g tt te ss (l.map u) acc Q) ?_
    refine lc_maps u w l (acc ++ [w a]) (fun d hd => h d (by simp [hd])) ?_
    simpa using q
theorem cut_mids {α : Type} (a : α) (xs ys : List α) : DL.cutD (a :: (xs ++ ys)) (some 1) (some ((xs.length : Int) + 1)) = xs := by
  have h := cut_mid (a :: (xs ++ ys)) (i := 1) (j := xs.length + 1) (by omega) (by simp)
  rw [show ((1 : Nat) : Int) = 1 from rfl, show ((xs.length + 1 : Nat) : Int) = (xs.length : Int) + 1 by omega] at h
  rw [h]
  simp
theorem cut_rest {α : Type} (a : α) (xs ys : List α) : DL.cutD (a :: (xs ++ ys)) (some ((xs.length : Int) + 1)) none = ys := by
  have h := cut_from (a :: (xs ++ ys)) (i := xs.length + 1) (by simp)
  rw [show ((xs.length + 1 : Nat) : Int) = (xs.length : Int) + 1 by omega] at h
  rw [h]
  simp
theorem hd_brL (b : Br) : (tl (brL b)).head? = some 98 := by
  unfold brL
  rw [tl_app, tl_app, tl_app]
  rfl
theorem hd_tsL (f : List Int) : (tl (tsL f)).head? = some 116 := by
  unfold tsL
  rw [tl_app]
  rfl
theorem hd_thL (b : Br) : (tl (thL b)).head? = some 116 := by
  unfold thL
  rw [tl_app]
  rfl
theorem hd_vaL (p : Pt) : (tl (vaL p)).head? = some 118 := by
  unfold vaL
  rw [tl_app]
  rfl
theorem no_say {z : Str} {c : Nat} (h : (tl z).head? = some c) (hc : c ≠ 115) : cutS z none (some (4 : Int)) ≠ ("say " : Str) :=
  pre_ne (n := 4) (by decide) (by rw [h, show (tl ("say " : Str)).head? = some 115 by decide]; exact fun e => hc (Option.some.inj e))
theorem is_say (s : Sy) : cutS (sayL s) none (some (4 : Int)) = ("say " : Str) := by
  have e : sayL s = ("say " : Str) ++ (s.pl ++ (" " : Str) ++ words s.f) := ext_s (by unfold sayL; simp only [tl_app, List.append_assoc])
  rw [e]
  exact pre_eq ("say " : Str) _
theorem arm_nosay {b : Br} {z : Str} (h : z ∈ armL b) : cutS z none (some (4 : Int)) ≠ ("say " : Str) := by
  rw [armL_eq] at h
  rcases List.mem_cons.mp h with e | h
  · rw [e]; exact no_say (hd_brL b) (by decide)
  · rcases List.mem_append.mp h with h | h
    · obtain ⟨f, _, rfl⟩ := List.mem_map.mp h
      exact no_say (hd_tsL f) (by decide)
    · rw [List.mem_singleton.mp h]; exact no_say (hd_thL b) (by decide)
/-- the lines that begin with say -/
def sayOf (d : D) : Option D := match d with
  | .str z => if cutS z none (some (4 : Int)) = ("say " : Str) then some (.str z) else none
  | _ => none
theorem say_count (p : Pt) : ((ptL p).map D.str).filterMap sayOf = p.says.map fun s => D.str (sayL s) := by
  rw [ptL_eq, List.map_cons, List.map_append, List.filterMap_cons]
  have e0 : sayOf (D.str (vaL p)) = none := if_neg (no_say (hd_vaL p) (by decide))
  have e1 : ((p.says.map sayL).map D.str).filterMap sayOf = p.says.map fun s => D.str (sayL s) := by
    rw [List.map_map]
    induction p.says with
    | nil => rfl
    | cons s r ih =>
      have e : sayOf ((D.str ∘ sayL) s) = some (D.str (sayL s)) := if_pos (is_say s)
      rw [List.map_cons, List.filterMap_cons, ih, e]
      rfl
  have e2 : ((p.arms.flatMap armL).map D.str).filterMap sayOf = [] := by
    rw [List.filterMap_eq_nil_iff]
    intro d hd
    obtain ⟨z, hz, rfl⟩ := List.mem_map.mp hd
    obtain ⟨b, _, hz⟩ := List.mem_flatMap.mp hz
    exact if_neg (arm_nosay hz)
  rw [e0, List.filterMap_append, e1, e2, List.append_nil]
theorem sheet_len {p : Pt} (h : PtW p) : (Txt.join "\n" (ptL p)).length ≤ 10000 := by
  have hl := ptL_len h
  have hj := join_len (y := ("\n" : Str)) (ps := ptL p) (k := 200) (ptL_each h)
  rw [cs8] at hj
  have := Nat.mul_le_mul_right (200 + 1) hl
  omega
theorem d_text_program (xs : List D) (P : D → Prop) (h : S_text_program.f xs P) : t_text_program.f (En P) (startS ["value", "lines", "many", "line", "names", "parts", "sayings", "branches", "part"] xs) := by
  obtain ⟨p, rfl, hP, h3⟩ := h
  have hW := hP.w
  have hz := sheet_len hW
  have hl := ptL_len hW
  have hn3 := hP.n3
  have hs3 := hP.s3
  have ha5 := hP.a5
  have hsp := split_lines p hP
  have hva : (vaL p).length ≤ 200 := ptL_each hW _ (by rw [ptL_eq]; simp)
  have p5 : cutS (vaL p) none (some (5 : Int)) = ("vars " : Str) := pre_eq ("vars " : Str) _
  have s5 : cutS (vaL p) (some (5 : Int)) none = Txt.join " " p.names := suf_eq ("vars " : Str) _
  have hnm := split_names hP.n0 hP.nn
  have e0 : (ptL p).map D.str = D.str (vaL p) :: ((p.says.map fun s => D.str (sayL s)) ++ (p.arms.flatMap armL).map D.str) := by
    rw [ptL_eq]
    simp [Function.comp_def]
  have m1 : DL.cutD ((ptL p).map D.str) (some (1 : Int)) (some ((p.says.length : Int) + 1)) = p.says.map fun s => D.str (sayL s) := by
    rw [e0]
    have := cut_mids (D.str (vaL p)) (p.says.map fun s => D.str (sayL s)) ((p.arms.flatMap armL).map D.str)
    rw [List.length_map] at this
    exact this
  have m2 : DL.cutD ((ptL p).map D.str) (some ((p.says.length : Int) + 1)) none = (p.arms.flatMap armL).map D.str := by
    rw [e0]
    have := cut_rest (D.str (vaL p)) (p.says.map fun s => D.str (sayL s)) ((p.arms.flatMap armL).map D.str)
    rw [List.length_map] at this
    exact this
  have h0 : atI ((ptL p).map D.str) 0 = some (D.str (vaL p)) := by rw [e0]; exact at0
  simp [t_text_program, startS, small_le (show (Txt.join "\n" (ptL p)).length ≤ 1000000 by omega), hsp]
  refine ⟨small_le (by omega), lc_filterMap sayOf _ _ (fun d hd Kk hK => ?_) ?_⟩
  · obtain ⟨z, hz, rfl⟩ := List.mem_map.mp hd
    have := ptL_each hW z hz
    simp [small_le (show z.length ≤ 1000000 by omega)]
    simp [sayOf] at hK
    by_cases q : cutS z none (some (4 : Int)) = ("say " : Str)
    · simpa [q] using hK
    · simpa [q] using hK
  · rw [List.nil_append, say_count]
    simp [h0, small_le (show (vaL p).length ≤ 1000000 by omega), p5, m1]
    rw [s5, hnm, m2]
    have hnl : (Txt.join " " p.names).length ≤ 100 := by
      have hj := join_len (y := (" " : Str)) (ps := p.names) (k := 8) hW.nn
      rw [cs2] at hj
      omega
    refine ⟨small_le (by omega), lc_maps (fun s => D.str (sayL s)) (fun _ => .bl false) p.says [] (fun s hs Kk hK => ?_) ⟨fun x hx => ?_, ?_⟩⟩
    · have := sayL_len (hP.ss s hs).p (hW.ss s hs).2
      simp [small_le (show (sayL s).length ≤ 1000000 by omega), is_say]
      exact hK
    · obtain ⟨_, _, rfl⟩ := List.mem_map.mp hx
      rfl
    · rw [if_neg (fun ⟨x, hx, e⟩ => by obtain ⟨_, _, rfl⟩ := List.mem_map.mp hx; simp at e)]
      refine ⟨small_le (by omega), p.arms, rfl, ha5, hP.r, ?_⟩
      simp
      refine ⟨p.names, rfl, hP.n0, hn3, hP.nd, hP.nn, ?_⟩
      simp
      refine ⟨small_le (by omega), lc_maps (fun s => D.str (sayL s)) dSy p.says [] (fun s hs Kk hK => ?_) ⟨small_le (by omega), lc_maps (fun b : Br => D.lst ((armL b).map .str)) dBr p.arms [] (fun b hb Kk hK => ?_) ?_⟩⟩
      · simp
        exact ⟨s, rfl, (hP.ss s hs).p, (hW.ss s hs).2, fm_ne (hP.ss s hs).f, hK⟩
      · simp
        exact ⟨b, rfl, hP.r b hb, hK⟩
      · refine ⟨p.says, p.names.length, rfl, hn3, hs3, hP.ss, ?_⟩
        simp
        refine ⟨p.says, p.arms, p.names.length, rfl, hn3, hs3, hP.a0, ha5, hP.aa, hP.pl, ?_⟩
        simp
        exact ⟨p, rfl, hP, h3⟩
end KK
set_option maxRecDepth 100000
/-! Readings, printed by gen.py. -/
namespace KK
open PySem PySem.Spec PyProof.Rows L2 DL
def t__law_shows : DS := (dSeq (dUnp (dOp fIx (dVar 3) (dUn fNeg (dC (.int 1)))) (dgTup [5, 6]))
    (dSeq (dSet 7 (dFn (f1 fTuple) (dCons (dL (dLc (dRng1 (dCons (dFn (f1 fLen) (dCons (dOp fIx (dVar 2) (dC (.int 2))) dNil)) dNil)) (dgName 8) (dTest (dCall S__law_lets (dCons (dOp fIx (dOp fIx (dVar 2) (dC (.int 2))) (dVar 8)) (dCons (dOp fIx (dVar 3) (dUn fNeg (dC (.int 1)))) dNil)))) (dVar 8) [8])) dNil)))
    (dSeq (dSet 9 (dL (dLst (dCons (dPropL S_Lead__place (dVar 0)) (dCons (dPropL S_Lead__point (dVar 0)) (dCons (dPropL S_Lead__taken (dVar 0)) (dCons (dPropL S_Lead__ready (dVar 0)) (dCons (dPropL S_Lead__again (dVar 0)) (dCons (dCall S_Lead____len__ (dCons (dVar 0) dNil)) (dCons (dCall S_Lead____bool__ (dCons (dVar 0) dNil)) (dCons (dOp (fEqP S_Program____eq__) (dPropL S_Lead__program (dVar 0)) (dVar 1)) dNil)))))))))))
    (dRet (dOp fEq (dUn fRepr (dVar 9)) (dUn fRepr (dL (dLst (dCons (dVar 5) (dCons (dVar 6) (dCons (dFn (f1 fTuple) (dCons (dVar 4) dNil)) (dCons (dVar 7) (dCons (dCall S__law_again (dCons (dVar 3) dNil)) (dCons (dFn (f1 fLen) (dCons (dVar 4) dNil)) (dCons (dC (.bl true)) (dCons (dC (.bl true)) dNil))))))))))))))))
end KK
set_option maxRecDepth 100000
set_option maxHeartbeats 2000000
namespace KK
open PySem PySem.Spec PyProof.Rows L2 DL
theorem StR.ok {s : Sta} (h : StR s) : stOk s := cps_of fun c hc => by have := nm_rng h.n hc; omega
theorem shws_ints {l : List Int} (h : ∀ i ∈ l, i.natAbs.log2 < 1920) : D.shws (l.map .int) := by
  induction l with
  | nil => unfold D.shws; trivial
  | cons a r ih =>
    rw [List.map_cons]
    unfold D.shws
    refine ⟨?_, ih fun i hi => h i (by simp [hi])⟩
    unfold D.shw
    exact h a (by simp)
theorem costs_ints (l : List Int) : D.costs (l.map .int) = 2002 * l.length := by
  induction l with
  | nil => rfl
  | cons a r ih =>
    rw [List.map_cons]
    unfold D.costs
    rw [ih]
    unfold D.cost
    rw [List.length_cons]; omega
theorem deps_ints (l : List Int) : D.deps (l.map .int) = 0 := by
  induction l with
  | nil => rfl
  | cons a r ih =>
    rw [List.map_cons]
    unfold D.deps
    rw [ih]
    unfold D.dep
    rfl
theorem dNs_F (l : List Nat) : dNs l = dF (l.map fun (k : Nat) => (k : Int)) := by
  unfold dNs dF
  rw [List.map_map]
  rfl
theorem agnN_r (n : Nat) (o : Option Nat) (h : ∀ k, o = some k → n + k + 1 ≤ 1000000) : (agnN n o).shw ∧ (agnN n o).cost ≤ 2000 ∧ (agnN n o).dep = 0 := by
  unfold agnN
  cases o with
  | none =>
    refine ⟨?_, ?_, ?_⟩
    · unfold D.shw; trivial
    · unfold D.cost; omega
    · unfold D.dep; rfl
  | some k =>
    have := h k rfl
    refine ⟨?_, ?_, ?_⟩
    · unfold D.shw; exact log_small (by omega)
    · unfold D.cost; omega
    · unfold D.dep; rfl
/-- the list that is shown -/
def shown8 (p : Pt) (s : Sta) (r : List Int) (t : List Sta) : D := .lst [.str s.pl, dF s.pt, dF r, dNs (frees p s), agn s t, .int r.length, .bl true, .bl true]
theorem shown8_r {p : Pt} {s : Sta} {r : List Int} {t : List Sta} {Q : D → Prop} (h1 : StR s) (h2 : r.length ≤ 100) (h3 : t.length ≤ 100) (h4 : ∀ i ∈ r, -1000000 ≤ i ∧ i ≤ 1000000) (h5 : p.arms.length ≤ 5) (k : Q (.str (shown8 p s r t).py.shown)) : fRepr (shown8 p s r t) Q := by
  have hfl : (frees p s).length ≤ 5 := by
    unfold frees
    exact Nat.le_trans (List.length_filter_le _ _) (by rw [List.length_range]; exact h5)
  have hfm : ∀ i ∈ (frees p s).map fun (k : Nat) => (k : Int), i.natAbs.log2 < 1920 := fun i hi => by
    obtain ⟨k, hk, rfl⟩ := List.mem_map.mp hi
    have := List.mem_range.mp (List.mem_filter.mp hk).1
    exact log_small (by omega)
  have ha := agnN_r 0 (t.findIdx? fun a => sEq a s) fun k e => by
    have := (List.findIdx?_eq_some_iff_getElem.mp e).1
    omega
  have hr : ∀ i ∈ r, i.natAbs.log2 < 1920 := fun i hi => log_small (h4 i hi)
  have hn := nm_len h1.n
  refine ⟨rfl, ?_, ?_, ?_, k⟩
  · unfold shown8 D.shw D.shws D.shws D.shws D.shws D.shws D.shws D.shws D.shws D.shws
    refine ⟨?_, ?_, ?_, ?_, ha.1, ?_, ?_, ?_, trivial⟩
    · unfold D.shw
      exact fun c hc => by have := nm_rng h1.n hc; have : (16 : Nat) ^ 8 = 4294967296 := by decide
                           omega
    · unfold dF D.shw; exact shws_ints h1.w
    · unfold dF D.shw; exact shws_ints hr
    · rw [dNs_F]; unfold dF D.shw; exact shws_ints hfm
    · unfold D.shw; exact log_small (by omega)
    · unfold D.shw; trivial
    · unfold D.shw; trivial
  · have e1 : (D.str s.pl).cost ≤ 82 := by unfold D.cost; omega
    have e2 : (dF s.pt).cost ≤ 7000 := by unfold dF D.cost; rw [costs_ints]; have := h1.l; omega
    have e3 : (dF r).cost ≤ 210000 := by unfold dF D.cost; rw [costs_ints]; omega
    have e4 : (dNs (frees p s)).cost ≤ 11000 := by rw [dNs_F]; unfold dF D.cost; rw [costs_ints, List.length_map]; omega
    have e5 : (agn s t).cost ≤ 2000 := ha.2.1
    have e6 : (D.int (r.length : Int)).cost = 2000 := by unfold D.cost; rfl
    have e7 : (D.bl true).cost = 8 := by unfold D.cost; rfl
    unfold shown8 D.cost D.costs D.costs D.costs D.costs D.costs D.costs D.costs D.costs D.costs
    omega
  · have e1 : (D.str s.pl).dep = 0 := by unfold D.dep; rfl
    have e2 : (dF s.pt).dep = 1 := by unfold dF D.dep; rw [deps_ints]
    have e3 : (dF r).dep = 1 := by unfold dF D.dep; rw [deps_ints]
    have e4 : (dNs (frees p s)).dep = 1 := by rw [dNs_F]; unfold dF D.dep; rw [deps_ints]
    have e5 : (agn s t).dep = 0 := ha.2.2
    have e6 : (D.int (r.length : Int)).dep = 0 := by unfold D.dep; rfl
    have e7 : (D.bl true).dep = 0 := by unfold D.dep; rfl
    unfold shown8 D.dep D.deps D.deps D.deps D.deps D.deps D.deps D.deps D.deps D.deps
    rw [e1, e2, e3, e4, e5, e6, e7]
    decide
theorem free_rng (s : Sta) (p : Pt) : (frees p s).map (fun (k : Nat) => D.int k) = (D.rng 0 p.arms.length).filterMap fun d => match d with
    | .int i => (match p.arms[i.toNat]? with
      | some b => if free b s = true then some (.int i) else none
      | none => none)
    | _ => none := by
  unfold frees D.rng
  rw [List.filterMap_map]
  induction List.range p.arms.length with
  | nil => rfl
  | cons k r ih =>
    rw [List.filter_cons, List.filterMap_cons]
    have e : (0 + ((k : Nat) : Int)) = (k : Int) := by omega
    simp only [Function.comp_def, e, Int.toNat_natCast] at ih ⊢
    cases q : p.arms[k]? with
    | none => simpa [q] using ih
    | some b =>
      by_cases h : free b s = true
      · simp [q, h]; simpa using ih
      · simp [q, h]; simpa using ih
theorem d__law_shows (xs : List D) (P : D → Prop) (h : S__law_shows.f xs P) : t__law_shows.f (En P) (startS ["_law_hand", "_law_mine", "_law_parts", "_law_states", "_law_road", "_law_place_here", "_law_spot_here", "_law_free", "_law_k", "_law_got"] xs) := by
  obtain ⟨l, p, s, r, t, rfl, ⟨f1, f2, f3⟩, hP, ht, hr, hs, hts, hri, h3⟩ := h
  have hlast : atI ((s :: t.map (·.1)).reverse.map dSt) (-1) = some (dSt s) := by
    rw [atI_m1 (by simp)]
    simp
  have harm : atI [dNm p.names, dSs p.says, dBs p.arms] 2 = some (dBs p.arms) := at2
  have key : ∀ (Q : D → Prop), Q (.str (shown8 p s r (t.map (·.1))).py.shown) → fRepr (shown8 p s r (t.map (·.1))) Q := fun Q q => shown8_r hs hr (by simpa using ht) hri f1 q
  unfold t__law_shows
  simp [startS, dPt, hlast, harm, -List.reverse_cons, -List.map_reverse, -List.map_append]
  show dgTup [5, 6] (.tup [.str s.pl, dF s.pt]) _ _
  have harm2 : ∀ k : Nat, k < p.arms.length → atI (p.arms.map dBr) (k : Int) = some (dBr (p.arms[k]?.getD ⟨"", "", [], []⟩)) := fun k hk => by
    rw [atI_arms hk, List.getElem?_eq_getElem hk]; rfl
  simp [hlast, harm, -List.reverse_cons, -List.map_reverse, -List.map_append, show dBs p.arms = .tup (p.arms.map dBr) from rfl, rng_len]
  refine ⟨by omega, small_le (by omega), lc_filterMap (fun d => match d with
    | .int i => (match p.arms[i.toNat]? with
      | some b => if free b s = true then some (.int i) else none
      | none => none)
    | _ => none) _ _ (fun d hd Kk hK => ?_) ?_⟩
  · obtain ⟨k, hk, rfl⟩ := rng_mem hd
    simp [hlast, harm, -List.reverse_cons, -List.map_reverse, -List.map_append, harm2 k hk]
    refine s_lets f2 ?_ ?_
    · simp [hk]; exact f3 _ (by simp)
    · simp [hk] at hK ⊢
      by_cases q : free p.arms[k] s = true
      · simpa [q] using hK
      · have q' : free p.arms[k] s = false := by simpa using q
        simpa [q'] using hK
  · rw [List.nil_append, ← free_rng]
    have hst : stOk s := hs.ok
    have hsts : ∀ a ∈ t, stOk a.1 := fun a ha => (hts a ha).ok
    refine ⟨rfl, l, dPg p, s, dF r, dHist t, rfl, ?_⟩
    refine ⟨rfl, l, dPg p, s, dF r, dHist t, rfl, ?_⟩
    refine ⟨rfl, l, dPg p, dSt s, dF r, dHist t, rfl, ?_⟩
    refine ⟨rfl, l, p, s, dF r, dHist t, rfl, ⟨f1, f2, f3⟩, ?_⟩
    refine ⟨rfl, l, dPg p, s, r, t, rfl, hst, hsts, ?_⟩
    refine ⟨l, dPg p, dSt s, r.map .int, dHist t, rfl, by simp; omega, ?_⟩
    refine ⟨l, dPg p, dHist ((s, r) :: t), rfl, ?_⟩
    refine ⟨rfl, l, dPg p, dHist ((s, r) :: t), rfl, ?_⟩
    have hsh := key (fun _ => True) trivial
    have el : ((r.map D.int).length : Int) = (r.length : Int) := by rw [List.length_map]
    have ew : D.lst [D.str s.pl, dF s.pt, dF r, dNs (frees p s), agn s (t.map (·.1)), D.int ((r.map D.int).length : Int), D.bl true, D.bl true] = shown8 p s r (t.map (·.1)) := by rw [el]; rfl
    have ew2 : D.lst [D.str s.pl, dF s.pt, D.tup (r.map D.int), D.tup ((frees p s).map fun (k : Nat) => D.int k), agn s (t.map (·.1)), D.int (r.length : Int), D.bl true, D.bl true] = shown8 p s r (t.map (·.1)) := rfl
    refine ⟨rfl, rfl, p, rfl, hP.w, hP, small_le (by decide), ?_⟩
    rw [ew]
    refine ⟨hsh.1, hsh.2.1, hsh.2.2.1, hsh.2.2.2.1, ?_⟩
    refine ⟨s, t.map (·.1), rfl, by simp; omega, hst, fun a ha => by obtain ⟨b, hb, rfl⟩ := List.mem_map.mp ha; exact hsts b hb, ?_⟩
    refine ⟨small_le (by decide), ?_⟩
    rw [ew2]
    refine ⟨hsh.1, hsh.2.1, hsh.2.2.1, hsh.2.2.2.1, ?_⟩
    rw [decide_eq_true rfl]
    exact h3
end KK
set_option maxRecDepth 100000
set_option maxHeartbeats 2000000
namespace KK
open PySem PySem.Spec PyProof.Rows L2 DL
def top (i : Nat) : Stmt := PySem.Challenge.pw_fallranks_k57_whole_leads_taken_back.main.body.getD i (.Pass ⟨0, 0, 0, 0⟩)
theorem rix_l {K : PySem.W.Frag} {H : Hp} {p : Addr} {xs : List V} {i : Int} {v : V} {Q : VK} (h : H p = some (.lst xs)) (e : atI xs i = some v) (q : Q v H) : rIx K (.ref p) (.int i) H Q := .inl ⟨p, xs, i, v, rfl, rfl, SqL.of h, e, q⟩
theorem t_pl {K : PySem.W.Frag} {σ : L2.St} {H : Hp} {p : Addr} {xs : List V} {i : Nat} {k : Int} {v : V} {Q : VK} (e : σ[i]? = some (some (.ref p))) (h : H p = some (.lst xs)) (a : atI xs k = some v) (q : Q v H) : tOp (rIx K) (tVar i) (tC (.int k)) σ H Q := ⟨_, e, rix_l h a q⟩
theorem step_pail {c : Cf} {H : Hp} {p : Addr} {x y w x' y' w' : Int} (hp : c.pl = some p) (h : H p = some (.lst [.int x, .int y, .int w])) (h1 : 0 ≤ x') (h2 : 0 ≤ y') (h3 : y' < 2147483648) : Step c 0 H (upd H p (.lst [.int x', .int y', .int w'])) :=
  ⟨fun b o e n => by rw [upd_ne fun z => n (by rw [z]; exact hp)]; exact e, fun q z e ⟨z0, _⟩ => by
    rw [hp] at e
    cases e
    exact ⟨z, Nat.le_refl _, z0, x', y', w', upd_same, h1, h2, h3⟩⟩
theorem sc_cast : FnScope ["_law_pail", "_law_many", "_law_figure", "_law_state"] ["_law_pail", "_law_many"] (defScope (top 59)) := ⟨rfl, rfl, rfl, by decide +kernel, rfl, by decide +kernel, by decide +kernel⟩
theorem mul_ok {i j : Int} (h : -(2 ^ 64) < i ∧ i < 2 ^ 64) : IntMulOk i j := (show CMul i j from .inl h).ok
theorem pe_pl {X : Cx} {x : Str} {q p2 pos : Pos} {k : Int} {j} (i : Nat) (hN : X.N[i]? = some x := by rfl) (hv : Vis X.env.scope x := by exact Or.inl rfl) (hd : (x == ("__debug__" : Str)) = false := by decide) (hcd : (x == ("__classdict__" : Str)) = false := by decide) : PE X (.Subscript (.Name x q) (.Constant (.int k) j p2) pos) (tOp (rIx X.K) (tVar i) (tC (.int k))) :=
  pe_ix ix_seq (pe_var hN hv hd hcd) pe_int (fun _ _ => rfl)
section
variable {P : Program} {w : World} {K : PySem.W.Frag} {mg : Str → Option Value} {base : Heap} {f : Addr} {fd : FuncData}
theorem ok_cast (F : FunD K "_law_cast" "_law_cast" (defArgs (top 59)) (defBody (top 59)) (defScope (top 59)) [] [] f fd) (mdm : mg "divmod" = none) (mint : mg "int" = none) : FnOk P w K mg base C8.CX0 1 f fd ["_law_pail", "_law_many"] (spOf K S__law_cast) := by
  refine F.ok sc_cast (fun vs H Q E ⟨p, xs, P0, _, r, ⟨m, hx, _⟩, _⟩ => by rw [r.length, hx]; rfl) fun cdv A outer s H vs Q E hr ⟨p, xs, P0, hp, r, ⟨m, hx, m0, m1, hP⟩, kk⟩ => ?_
  subst hx
  obtain ⟨v, u, rfl, r1, r2⟩ := rps2 r
  cases (show u = _ from r2)
  unfold Rp at r1
  obtain ⟨q, hq, rfl⟩ := r1
  obtain ⟨z, ⟨z0, x, y, wz, hH, hx0, hy0, hy1⟩, _⟩ := hp q hq
  have nd := sc_cast.nd
  refine ⟨_, PSs.nox (pss_cons (ps_if (pt_cmpR op_gt (pe_pl 0) pe_int (nomark _)) (pss_cons (ps_asg (pe_callB call_divmod (by rfl) (by exact mdm) bt_divmod (pa_cons (pe_pl 0) (pa_cons (pe_var (i := 1) rfl (Or.inl rfl)) pa_nil))) (pg_tup rfl (pgs_cons (pg_sub (pe_var (i := 0) rfl (Or.inl rfl)) pe_int set_list) (pgs_cons (pg_name (i := 2) nd rfl (Or.inl rfl)) pgs_nil)))) (pss_one (ps_ret (pe_var (i := 2) rfl (Or.inl rfl))))) pss_nil)
    (pss_cons (ps_asg (pe_op op_add (pe_pl 0) pe_int) (pg_sub (pe_var (i := 0) rfl (Or.inl rfl)) pe_int set_list))
    (pss_cons (ps_set (i := 3) nd rfl (Or.inl rfl) (pe_op op_mod (pe_callTy call_int1 (by rfl) (by exact mint) bt_int (pa_cons (pe_op op_add (pe_op op_add (pe_op op_mulA (pe_pl 0) (pe_op op_add pe_int (pe_op op_mulA pe_int (pe_pl 0)))) (pe_op op_mulA pe_int (pe_pl 0))) pe_int) pa_nil)) pe_int))
    (pss_cons (ps_asg (pe_op op_mod (pe_callTy call_int1 (by rfl) (by exact mint) bt_int (pa_cons (pe_op op_add (pe_op op_add (pe_op op_mulA (pe_var (i := 3) rfl (Or.inl rfl)) pe_int) (pe_op op_mulA pe_int (pe_pl 0))) pe_int) pa_nil)) pe_int) (pg_sub (pe_var (i := 0) rfl (Or.inl rfl)) pe_int set_list))
    (pss_one (ps_ret (pe_op op_mod (pe_callTy call_int1 (by rfl) (by exact mint) bt_int (pa_cons (pe_op op_fdivW (pe_pl 0) pe_int) pa_nil)) (pe_var (i := 1) rfl (Or.inl rfl))))))))), ?_⟩
  have at0 : ∀ {a b c : V}, atI [a, b, c] 0 = some a := fun {a b c} => by simp
  have at1 : ∀ {a b c : V}, atI [a, b, c] 1 = some b := fun {a b c} => by simp
  have at2 : ∀ {a b c : V}, atI [a, b, c] 2 = some c := fun {a b c} => by simp
  have i0 : ixN 3 0 = some 0 := by decide
  have i1 : ixN 3 1 = some 1 := by decide
  have i2 : ixN 3 2 = some 2 := by decide
  refine t_pl rfl hH at0 ⟨_, _, rfl, rfl, _, rfl, ?_⟩
  by_cases hx : 0 < x
  · rw [decide_eq_true hx]
    refine t_pl rfl hH at0 ⟨_, rfl, _, _, rfl, ⟨m0, by omega⟩, fun T hT => ⟨T, _, rfl, SqT.of upd_same, rfl, _, _, rfl, ?_⟩⟩
    refine ⟨_, rfl, q, [.int x, .int y, .int wz], _, 0, rfl, rfl, by rw [upd_ne (ne_of_none hH hT)]; exact hH, i0, ?_⟩
    refine ⟨_, _, rfl, rfl, _, rfl, ?_⟩
    refine kk (.int (x % m)) (.int (x % m)) _ ?_ rfl (hP _ (Int.emod_nonneg _ (by omega)) (Int.emod_lt_of_pos _ m0))
    have h1 : Step ⟨K, p⟩ 0 H (upd H T (.tup [.int (x / m), .int (x % m)])) := Step.new hT
    have h2 := step_pail (c := ⟨K, p⟩) (H := upd H T (.tup [.int (x / m), .int (x % m)])) hq (by rw [upd_ne (ne_of_none hH hT)]; exact hH) (x' := x / m) (y' := y) (w' := wz) (Int.ediv_nonneg hx0 (by omega)) hy0 hy1
    exact h1.then0 h2
  · rw [decide_eq_false hx]
    refine t_pl rfl hH at2 ⟨_, _, rfl, rfl, _, rfl, q, _, _, 2, rfl, rfl, hH, i2, ?_⟩
    have hH1 : upd H q (.lst [.int x, .int y, .int (wz + 1)]) q = some (.lst [.int x, .int y, .int (wz + 1)]) := upd_same
    refine t_pl rfl hH1 at1 (t_pl rfl hH1 at2 ⟨_, _, rfl, rfl, mul_ok (by decide), _, _, rfl, rfl, _, _, rfl, rfl, mul_ok (by omega), t_pl rfl hH1 at2 ⟨_, _, rfl, rfl, mul_ok (by decide), _, _, rfl, rfl, _, _, rfl, rfl, .inl ⟨_, rfl, _, _, rfl, rfl, show (0 : Int) < 2147483629 by decide, ?_⟩⟩⟩)
    have st0 : 0 ≤ (y * (36809 + 2 * (wz + 1)) + 5303 * (wz + 1) + 7) % 2147483629 := Int.emod_nonneg _ (by decide)
    have st1 : (y * (36809 + 2 * (wz + 1)) + 5303 * (wz + 1) + 7) % 2147483629 < 2147483629 := Int.emod_lt_of_pos _ (by decide)
    refine ⟨_, rfl, _, _, rfl, rfl, mul_ok ⟨Int.lt_of_lt_of_le (by decide) st0, Int.lt_trans st1 (by decide)⟩, t_pl rfl hH1 at2 ⟨_, _, rfl, rfl, mul_ok (by decide), _, _, rfl, rfl, _, _, rfl, rfl, .inl ⟨_, rfl, _, _, rfl, rfl, show (0 : Int) < 2147483587 by decide, _, rfl, q, _, _, 1, rfl, rfl, hH1, i1, ?_⟩⟩⟩
    have y20 : 0 ≤ ((y * (36809 + 2 * (wz + 1)) + 5303 * (wz + 1) + 7) % 2147483629 * 45413 + 3 * (wz + 1) + 1) % 2147483587 := Int.emod_nonneg _ (by decide)
    have y21 : ((y * (36809 + 2 * (wz + 1)) + 5303 * (wz + 1) + 7) % 2147483629 * 45413 + 3 * (wz + 1) + 1) % 2147483587 < 2147483587 := Int.emod_lt_of_pos _ (by decide)
    refine t_pl rfl upd_same at1 ⟨_, _, rfl, rfl, ⟨by decide, by decide⟩, .inl ⟨_, rfl, _, rfl, _, _, rfl, rfl, m0, ?_⟩⟩
    refine kk (.int (((y * (36809 + 2 * (wz + 1)) + 5303 * (wz + 1) + 7) % 2147483629 * 45413 + 3 * (wz + 1) + 1) % 2147483587 / 256 % m)) _ _ ?_ rfl (hP _ (Int.emod_nonneg _ (by omega)) (Int.emod_lt_of_pos _ m0))
    have h1 : Step ⟨K, p⟩ 0 H (upd H q (.lst [.int x, .int y, .int (wz + 1)])) := step_pail hq hH hx0 hy0 hy1
    exact h1.then0 (step_pail hq hH1 hx0 y20 (by omega))
end
end KK
set_option maxRecDepth 100000
set_option maxHeartbeats 2000000
namespace DL
open PySem PySem.Spec PyProof.Rows L2
/-! ### a beginning over data, then anything -/
def upP (c : Cf) (G : Gm) (t : DS) (T : TS) : TS := fun D' σ H => upS c G t { D' with nx := fun σ' H' => T D' σ' H' } σ H
section
variable {X : Cx} {p : Option Addr} {G : Gm} {st : Stmt} {sts : List Stmt} {s1 s2 : DS} {T : TS}
theorem pre_nil (h : PSs X sts T) : PSs X sts (upP ⟨X.K, p⟩ G dNext T) := pssOf h fun D' σ H ⟨ss, ow, E, r, R, q, L⟩ => L.nx _ _ _ _ R.r q
theorem pre_cons (h1 : PS X st (upS ⟨X.K, p⟩ G s1)) (h2 : PSs X sts (upP ⟨X.K, p⟩ G s2 T)) : PSs X (st :: sts) (upP ⟨X.K, p⟩ G (dSeq s1 s2) T) :=
  pssOf (pss_cons h1 h2) fun D' σ H ⟨ss, ow, E, r, R, h, L⟩ => ⟨ss, ow, _, s2.n + r, R.wk (by show s1.n + (s2.n + r) ≤ s1.n + s2.n + r; omega), h,
    ⟨fun σ' H' ss' ow' R' h' => ⟨ss', ow', E, r, R', h', L⟩, fun σ H ss ow x v R' => L.rt σ H ss ow x v R'.r, fun σ H ss ow R' => L.bk σ H ss ow R'.r, fun σ H ss ow R' => L.ct σ H ss ow R'.r⟩⟩
end
/-- from the beginning of a call: what the beginning makes of the slots, the rest goes on from -/
theorem upT_run {c : Cf} {H : Hp} {σ : L2.St} {ss : Sls} {t : DS} {T : TS} {D' : Ends} {G : Gm} {ow : Nat → Addr} (R : RepS c 0 G H σ ss ow) (I : Sls → Prop)
    (h : t.f ⟨I, fun _ _ => False, fun _ => False, fun _ => False⟩ ss) (k : ∀ σ' H' ss' ow', RepS c 0 G H' σ' ss' ow' → I ss' → T D' σ' H') (hn : t.n = 0 := by rfl) : upP c G t T D' σ H :=
  ⟨ss, ow, _, 0, by rw [hn]; exact R, h, ⟨k, fun _ _ _ _ _ _ _ _ z => z.elim, fun _ _ _ _ _ z => z.elim, fun _ _ _ _ _ z => z.elim⟩⟩
/-! ### slots of an instance in the making -/
theorem slH_kept {H : Hp} {a C dx : Addr} {vs : List (Option V)} : ∀ b o, H b = some o → b ≠ a → b ≠ dx → SlX.slH H a C dx vs b = some o := fun b o e h1 h2 => by
  rw [SlX.slH_ne h1 h2]; exact e
theorem lem_slH {H : Hp} {a C dx : Addr} {vs : List (Option V)} (h1 : H a = some (.ins C dx [])) (h2 : H dx = some (.own a)) : LeM H (SlX.slH H a C dx vs) := fun b o e i t w => by
  by_cases z : b = a
  · subst z
    rw [h1] at e
    cases e
    exact absurd (i _ _ _ rfl) (by decide)
  · by_cases z2 : b = dx
    · subst z2
      rw [h2] at e
      cases e
      exact absurd rfl (w _)
    · exact slH_kept b o e z z2
theorem lem_ins {H : Hp} {a C dx : Addr} {fs fs' : List (Str × V)} (h1 : H a = some (.ins C dx fs)) (hl : fs.length ≠ 3) : LeM H (upd H a (.ins C dx fs')) := fun b o e i t w => by
  by_cases z : b = a
  · subst z
    rw [h1] at e
    cases e
    exact absurd (i _ _ _ rfl) hl
  · rw [upd_ne z]; exact e
theorem LeM.trans {H H1 H2 : Hp} (a : LeM H H1) (b : LeM H1 H2) : LeM H H2 := fun x o e i t w => b x o (a x o e i t w) i t w
theorem LeM.of {H H' : Hp} (h : ∀ b o, H b = some o → H' b = some o) : LeM H H' := fun b o e _ _ _ => h b o e
end DL
set_option maxRecDepth 100000
set_option maxHeartbeats 4000000
/-! Own exception classes over any built-in base, whose __init__ is walked as a def. -/
namespace DL
open PySem PySem.Spec PyProof.Rows L2 PySem.HandSPX
/-- own classes, then the base's line -/
def refsB (tail : List Value) : List Value → Bool
  | .ref _ :: r => refsB tail r
  | l => l == tail
theorem refsB_split (tail : List Value) : ∀ l : List Value, refsB tail l = true → ∃ cs : List Addr, l = cs.map Value.ref ++ tail
  | [], e => ⟨[], beq_iff_eq.mp e⟩
  | a :: r, e => by
    cases a with
    | ref c =>
      obtain ⟨cs, h⟩ := refsB_split tail r e
      exact ⟨c :: cs, by rw [h]; rfl⟩
    | _ => exact ⟨[], beq_iff_eq.mp e⟩
structure BaseF (B newId initId : String) (tail : List Value) : Prop where
  F : ExcBaseFacts B newId initId tail
  SF : StoreFacts B tail "object.__setattr__" "object"
theorem base_AE : BaseF "ArithmeticError" "ArithmeticError.__new__" "ArithmeticError.__init__" [.type "ArithmeticError", .type "Exception", .type "BaseException", .type "object"] := ⟨F.excBase_ArithmeticError, F.store_ArithmeticError⟩
theorem base_VE : BaseF "ValueError" "ValueError.__new__" "ValueError.__init__" [.type "ValueError", .type "Exception", .type "BaseException", .type "object"] := ⟨F.excBase_ValueError, F.store_ValueError⟩
open Builtin Builtin.ObjectAttr in
theorem refs_pass {tail : List Value} {B newId initId : String} (b : BaseF B newId initId tail) (self : Value) : ∀ cs : List Addr, refuseLoop self "__setattr__" (cs.map Value.ref ++ tail) = pure ()
  | [] => b.SF.passes self
  | c :: cs => by rw [List.map_cons, List.cons_append, refuseLoop_ref]; exact refs_pass b self cs
theorem refs_has {tail : List Value} (cs : List Addr) (T : String) : (cs.map Value.ref ++ tail).contains (.type T) = tail.contains (.type T) := by
  induction cs with
  | nil => rfl
  | cons c cs ih => rw [List.map_cons, List.cons_append, List.contains_cons, ih]; rfl
section
open Builtin Builtin.ObjectAttr
variable {prog : Program} {w : World} {A : Around} {R : Result → Shared → Prop} {hp : Heap} {g : Array GenState} {d : Drawn} {t : Nat} {os : OsState}
/-- self.name = v on an exception without a dict -/
theorem put_first {B newId initId : String} {tail : List Value} (b : BaseF B newId initId tail) {K : W.Frag} {name : Str} {tk : Tok} {v : Value} {x C : Addr} {fv : Array Value} {cd : ClassData} {cs : List Addr}
    (X : K.In hp) (hx : hp.get? x = some { cls := .ref C, data := .fields fv }) (hcd : W.clsIn K C = some cd) (hm : cd.mro = cs.map Value.ref ++ tail) (hh : cd.hasDict = true) (ha : W.findIn K (.ref C) name = some none)
    (k : ∀ h' tk' dx, (∀ c o, c ≠ x → hp.get? c = some o → h'.get? c = some o) → hp.objs.size ≤ dx → dx ≠ x → h'.get? x = some { cls := .ref C, dict := some dx, data := .fields fv } →
      h'.Ns1 dx (fun y => if y = name then some v else none) → R (.ok (.ret .none)) ⟨h', g, d, tk', os⟩) :
    codeAny (model prog w) A (.call (.builtin "object.__setattr__") ⟨[.ref x, .str name tk, v], []⟩) R ⟨hp, g, d, t, os⟩ := by
  have J : W.InstAt hp x { cls := .ref C, data := .fields fv } C none := ⟨hx, rfl, rfl, trivial⟩
  have hobj : cd.mro.contains (.type "object") = true := by
    have := b.SF.hasOwner
    rw [hm, refs_has]; exact this
  have hemp : cd.mro.isEmpty = false := by
    cases q : cd.mro with
    | nil => rw [q] at hobj; cases hobj
    | cons _ _ => rfl
  have hlt : x ≠ hp.objs.size := Nat.ne_of_lt (Heap.lt_size hx)
  have isObj : W.Looks (model prog w) hp (isInstance (.ref x) (.type "object")) true :=
    J.type.andThen (W.looks_mroIn X (by unfold W.mroIn; rw [hcd, Option.bind_some, if_neg (by rw [hemp]; decide), hobj]))
  have SO := F.store_object
  refine codeAny_call_builtin SO.slot.plain SO.entry
    (@W.check_slot (model prog w) _ _ ⟨hp, g, d, t, os⟩ "object.__setattr__" "object" "__setattr__" (.ref x) [.str name tk, v] [] _ SO.kind SO.split isObj (SO.args (.ref x) (.str name tk) v) ?_)
  have lm : W.Looks (model prog w) hp (mroOf (.ref C)) cd.mro := (W.looks_clsIn X hcd).andThen .now
  have lt0 : W.Looks (model prog w) hp (storeTaker? none) none := .now
  have lc : W.Looks (model prog w) hp (classData C) cd := W.looks_clsIn X hcd
  rw [W.osa_eq, refuse_eq]
  refine wpAny_bind (wpAny_bind (J.type.at (wpAny_bind (lm.at ?_))))
  rw [hm, refs_pass b]
  refine wpAny_pure (wpAny_bind (J.type.at (wpAny_bind ((W.looks_findIn X ha).at
    (wpAny_bind (lt0.at ?_))))))
  show wpAny _ _
    (storeInOwnDict (.ref x) (.ref C) (.str name tk) name v false) _ _ _
  obtain ⟨e1, e2, e3, e4, e5, e6, e7, e8, e9, e10, e11⟩ := cd
  dsimp only at hh
  subst hh
  unfold storeInOwnDict ownDictForStores
  repeat (first | with_reducible refine store_in_new ?_ ?_ | with_reducible refine wpAny_loadPart_at hx ?_ | with_reducible refine lc.at ?_ | wp_step)
  · exact ⟨_, #[], _, (Heap.get?_update_ne _ _ _ _ hlt.symm).trans (Heap.get?_push_at rfl rfl), rfl,
      fun e he => absurd he (by simp), fun _ => rfl⟩
  · intro h' tk' hn' hs
    have hx1 : (hp.push { cls := .type "dict", data := .dict #[] }).get? x = some { cls := .ref C, data := .fields fv } := Heap.get?_push_of_some _ hx
    refine k h' tk' hp.objs.size (fun c o hc ho => ?_) (Nat.le_refl _) hlt.symm ((hs.2 x hlt).trans (Heap.get?_update_self _ hx1 rfl)) hn'
    exact (hs.2 c (Nat.ne_of_lt (Heap.lt_size ho))).trans
      ((Heap.get?_update_ne _ _ _ _ hc).trans (Heap.get?_push_of_some _ ho))
end
/-- what the written part says of the class -/
structure ExK (K : PySem.W.Frag) (C : Addr) (newId : String) (tail : List Value) : Prop where
  cls : ∃ nm q N bs cs sn sub ab col dd k0 k1 k2 k3 k5, K.lookup C = some (excClassObj nm q C N bs (List.map Value.ref cs ++ tail) true sn sub ab col dd k0 k1 k2 k3 k5 newId)
  sa : PySem.W.findIn K (.ref C) "__setattr__" = some (some (.builtin "object.__setattr__"))
  exC : PySem.W.subIn K (.ref C) (.type "BaseException") = some true
  tyC : PySem.W.typeIn K (.ref C) = some (.type "type")
  kC : PySem.W.keepIn K (.ref C) = true
section
variable {X : Cx} {pins : List (Addr × Obj)} {σ : L2.St} {H : Hp} {s : Shared} {a C : Addr} {f : Str} {y : V} {u : Value} {Q : Unit → Shared → Prop} {E : Value → Shared → Prop} {A : Around} {B newId initId : String} {tail : List Value}
theorem ex_put (b : BaseF B newId initId tail) (T : ExK X.K C newId tail) (I : Inv X pins σ H s) (e : H a = some (exo a C none)) (hno : PySem.W.findIn X.K (.ref C) f = some none) (ry : RelV y u)
    (k : ∀ dx s', H dx = none → dx ≠ a → Inv X pins σ (upd (upd H dx (exd dx [(f, y)])) a (exo a C (some dx))) s' → Q () s') : wpAny (model X.prog X.w) A (setAttr (.ref a) f u) Q E s := by
  obtain ⟨nm, q, N, bs, cs, sn, sub, ab, col, dd, k0, k1, k2, k3, k5, hC⟩ := T.cls
  have hcl : PySem.W.clsIn X.K C = some { name := nm, bases := bs, mro := .ref C :: (cs.map Value.ref ++ tail), ns := N, qualname := q, hasDict := true, slotNames := sn, subclasses := sub, abstract := ab, collection := col, hasDel := false } := by
    unfold PySem.W.clsIn
    rw [hC] <;> rfl
  obtain ⟨t1, ho⟩ := exo_at I.hok e
  obtain ⟨hp, g, d, t, os⟩ := s
  refine PySem.W.set_plain I.kIn (ox := { cls := .ref C, dict := none, data := .fields #[.ref t1, .none, .none, .none, .bool false, .none] })
    (od := none) ⟨ho, rfl, rfl, trivial⟩ T.sa ?_
  refine put_first (cs := C :: cs) b I.kIn ho hcl rfl rfl hno fun h' tk' dx kp dn dne hx hn => ?_
  have fd : H dx = none := I.hok.fresh dn
  have ndx : ∀ {c : Addr} {o : Obj}, hp.get? c = some o → c ≠ dx := fun {c o} z => Nat.ne_of_lt (Nat.lt_of_lt_of_le (Heap.lt_size z) dn)
  have na : ∀ {c : Addr}, H c = none → c ≠ a := fun {c} n z => by rw [z, e] at n; cases n
  have U : Un X.fs [] H (upd (upd H dx (exd dx [(f, y)])) a (exo a C (some dx))) hp h' := {
    keep := fun c o z n _ _ => kp c o (na n) z
    slot := fun c o z n _ _ => ⟨o.slots, kp c o (na n) z⟩
    free := fun c o z n _ => by rw [upd_ne (na n), upd_ne (ndx z)]; exact n
    there := fun c o z _ => by
      by_cases hc : c = a
      · subst hc; exact ⟨_, hx⟩
      · exact ⟨o, kp c o hc z⟩
    tups := fun c xs z => by rw [upd_ne (at_ne e z exo_tup), upd_ne (ne_of_none z fd)]; exact z
    frzs := fun c o v z => by rw [upd_ne (at_ne e z exo_frz), upd_ne (ne_of_none z fd)]; exact z
    tbls := fun c ps z => ⟨#[], by rw [upd_ne (at_ne e z exo_tbl), upd_ne (ne_of_none z fd), z]; simp⟩ }
  refine k dx _ fd dne (I.un (t' := tk') U fun c o z => ?_)
  by_cases hc : c = a
  · subst hc
    rw [upd_same] at z
    cases z
    exact exo_ok hx
  · rw [upd_ne hc] at z
    by_cases hd : c = dx
    · subst hd
      rw [upd_same] at z
      cases z
      exact exd_ok hn (relO_put (fs := []) ry fun g => True.intro)
    · rw [upd_ne hd] at z
      refine (I.hok c o z).stay (fun c2 v hc2 z2 => kp c2 v ?_ z2) (fun c2 hc2 => ?_) fun c2 xs hc2 => ?_
      · rcases hc2 with e2 | e2
        · rw [e2]; exact hc
        · exact at_ne e e2 exo_own
      · rw [upd_ne (at_ne e hc2 exo_own), upd_ne (ne_of_none hc2 fd)]; exact hc2
      · rw [upd_ne (at_ne e hc2 exo_tup), upd_ne (ne_of_none hc2 fd)]; exact hc2
end
/-! ### rules -/
/-- self.f = e, the first one -/
def tExS (K : PySem.W.Frag) (newId : String) (tail : List Value) (f : Str) (to te : TE) : TS := fun D σ H => te σ H fun y H1 => to σ H1 fun x H2 => ∃ a C : Addr, x = .ref a ∧ ExK K C newId tail ∧ PySem.W.findIn K (.ref C) f = some none ∧ H2 a = some (exo a C none) ∧
  ∀ dx, H2 dx = none → dx ≠ a → D.nx σ (upd (upd H2 dx (exd dx [(f, y)])) a (exo a C (some dx)))
section
variable {X : Cx} {o e : Expr} {es : List Expr} {to te : TE} {ta : TA} {f : Str} {p p' pos : Pos} {B newId initId : String} {tail : List Value}
theorem ps_exS (b : BaseF B newId initId tail) (ho : PE X o to) (he : PE X e te) (hs : swapsWith e (some (.Attribute o f p')) pos.line X.env = pure false := by rfl) : PS X (.Assign [.Attribute o f p'] e pos) (tExS X.K newId tail f to te) :=
  ⟨fun pins s σ H D I h => plainObj_wpAny_Assign_Attribute (thn (he.run pins s σ H _ I h) fun v s1 ⟨y, H1, I1, r1, q1⟩ => thn (ho.run pins s1 σ H1 _ I1 q1) fun u s2 ⟨x, H2, I2, r2, a, C, ex, T, hno, ea, q⟩ => by
    subst ex
    obtain rfl : u = Value.ref a := r2
    exact ex_put b T I2 ea hno r1 fun dx s' n ne J => ⟨σ, _, J, q dx n ne⟩) hs⟩
/-- C(e, ..), its __init__ a def -/
theorem pmk_ex (b : BaseF B newId initId tail) {x : Str} {C fI : Addr} {k : Nat} {fd : FuncData} {ps : List Str} {sp : Sp} (T : ExK X.K C newId tail) (iC : PySem.W.findIn X.K (.ref C) "__init__" = some (some (.ref fI))) (tI : PySem.W.typeIn X.K (.ref fI) = some (.type "function"))
    (F1 : FnOk X.prog X.w X.K X.mg X.base C8.CX0 k fI fd ps sp) (hr : Room (k + 1) X.A) (hb : L2.Binds X.K fd ps []) (hg : Gl X x) (hm : X.mg x = some (.ref C)) (ha : PA X (e :: es) ta)
    (hdb : (x == ("__debug__" : Str)) = false := by decide) (he : starEach (e :: es) X.env = (false, eval e X.env) :: starEach es X.env := by rfl) (hpl : (backTo pos (starEach es X.env)).any (·.1) = false := by rfl) :
    PMk X (.Call (.Name x p) (e :: es) [] pos) (tMkO C sp [] ta) := by
  intro pins s σ H Q I h
  obtain ⟨nm, q, N, bs, cs, sn, sub, ab, col, dd, k0, k1, k2, k3, k5, hC⟩ := T.cls
  refine wpAny_Call_Name_kw (ld_glob I hg hm (PySem.W.callWith_K (h₀ := X.base) I.ok.mod.kin T.kC (thn (ha.run pos pins s σ H _ I h) fun us s1 ⟨vs, H1, I1, r1, hz, q1⟩ => ⟨I1.kIn, ?_⟩) he hpl) hdb)
  show wpAny _ _ (call (.ref C) us) _ _ _
  obtain ⟨hp, g, dr, tk, os⟩ := s1
  have sz : hp.objs.size ≤ hp.objs.size + 1 := Nat.le_succ _
  have fr : H1 (hp.objs.size + 1) = none := I1.hok.fresh sz
  have sq := q1 (hp.objs.size + 1) fr
  rw [List.append_nil] at sq
  have kk : ∀ c o, hp.get? c = some o → ((hp.push (PySem.W.kdv_tup us)).push (excO C hp.objs.size)).get? c = some o := fun c o z => Heap.get?_push_of_some _ (Heap.get?_push_of_some _ z)
  have hget : ((hp.push (PySem.W.kdv_tup us)).push (excO C hp.objs.size)).get? (hp.objs.size + 1) = some (excO C hp.objs.size) := by heap_get
  have I2 : Inv X pins σ (upd H1 (hp.objs.size + 1) (exo (hp.objs.size + 1) C none)) ⟨(hp.push (PySem.W.kdv_tup us)).push (excO C hp.objs.size), g, dr, tk, os⟩ :=
    I1.laid (t' := tk) kk sz (exo_ok hget)
  have r2 : Vals (V.ref (hp.objs.size + 1) :: vs) (Value.ref (hp.objs.size + 1) :: us) := .cons rfl r1
  have hl : (Value.ref (hp.objs.size + 1) :: us).length = ps.length := by rw [← r2.length]; exact F1.len _ _ _ _ sq
  have hus : us.length ≤ sizeLine := by rw [← r1.length, sizeLine_eq]; omega
  have hbt := hb ⟨(hp.push (PySem.W.kdv_tup us)).push (excO C hp.objs.size), g, dr, tk, os⟩ (Value.ref (hp.objs.size + 1) :: us) I2.kIn (by rw [List.append_nil]; exact hl)
  rw [List.append_nil] at hbt
  refine wpAny_call (call_own b.F (refs_has cs) (I1.kIn _ _ hC) (PySem.W.looks_findIn I1.kIn iC) (fun self => PySem.W.bind_fn I1.kIn self tI) hus
    (codeAny_mono (F1.run _ X.stack _ _ ⟨Value.ref (hp.objs.size + 1) :: us, []⟩ _ _ _ (fun _ _ _ => False) (hr.make C us []) (I2.env0.make C us []) hbt r2 sq) fun r s' z => ?_))
  cases r with
  | error er => exact z.elim
  | ok fl =>
    cases fl with
    | ret u =>
      obtain ⟨v, H2, o2, b2, u2, k2', rv, ev, dx, fs, ea, ed, h1d, qq⟩ := z
      subst ev
      obtain ⟨hh2, g2, d2, t2, os'⟩ := s'
      exact ⟨rv, mk_end (raises_own T.exC T.tyC) I1 sz kk u2 k2' o2 b2 ea ed h1d qq⟩
    | next => exact z.elim
    | brk => exact z.elim
    | cont => exact z.elim
end
end DL
set_option maxRecDepth 100000
set_option maxHeartbeats 4000000
/-! try .. except (X, Y, Z) as n. -/
namespace DL
open PySem PySem.Spec PyProof.Rows L2
theorem flying_on {B h h' : Heap} {l : List Env} {a : Addr} {Z : Obj → Prop} (fl : HandSPX.FlyingZ B l a Z h) (k : ∀ b o, h.get? b = some o → h'.get? b = some o) : HandSPX.FlyingZ B l a Z h' := by
  obtain ⟨f1, f2, f3, oe, vs, T, oT, ts, g1, g2, g3, g4, g5, g6, g7, g8, g9⟩ := fl
  exact ⟨fun b o e => k b o (f1 b o e), f2, Heap.FunFrames.of_keeps (fun b o e _ => ⟨o, k b o e, rfl⟩) f3,
    oe, vs, T, oT, ts, k _ _ g1, g2, g3, g4, g5, g6, k _ _ g7, g8, g9⟩
/-- what the clause wishes: it takes every exception that comes -/
def wTup (K : PySem.W.Frag) (cs : List Value) (i : Nat) (ts : Addr → Value → Option Addr → TS) (D : Ends) : WX := fun cls d σ H => PySem.W.exmAny K cls cs = some true ∧
  ∀ a, H a = none → ts a cls d { nx := fun σ' H' => D.nx (σ'.set i none) H', rt := D.rt, bk := fun σ' H' => D.bk (σ'.set i none) H', ct := fun σ' H' => D.ct (σ'.set i none) H' } (σ.set i (some (.ref a))) H
theorem name_at {X : Cx} {x : Str} {c : Value} (n : Names X x c) {pins : List (Addr × Obj)} {σ : L2.St} {H : Hp} {s : Shared} {np : Pos} {Q : Value → Shared → Prop} {E : Value → Shared → Prop} (I : Inv X pins σ H s) (q : Q c s) : wpAny (model X.prog X.w) X.A (eval (.Name x np) X.env) Q E s := by
  obtain ⟨hg, hd, h | ⟨h1, h2, h3⟩⟩ := n
  · exact ld_glob I hg h q hd
  · exact ld_blt I hg h1 h2 q h3 hd
section
variable {X : Cx} {x1 x2 x3 n : Str} {c1 c2 c3 : Value} {i : Nat} {body suite : List Stmt} {b₀ : Stmt} {p1 p2 p3 tp pos pos' : Pos} {tf : Nat} {tb : WX → TS} {ts : Addr → Value → Option Addr → TS}
theorem ps_try_tup (hs : X.stack = X.env :: X.outer) (hf : X.env.frame = some X.env.locals) (hN : X.N.Nodup) (hi : X.N[i]? = some n) (hln : X.env.kindOf n = some .local) (m1 : Names X x1 c1) (m2 : Names X x2 c2) (m3 : Names X x3 c3)
    (hb : ∀ (W : WX) (pn : List (Addr × Obj)) (xe : Value → Shared → Prop), Takes (X.tr pn xe) W → PassesOwn (model X.prog X.w) X.A X.env xe →
      PSs (X.tr pn xe) body (tb W))
    (hsu : ∀ (a : Addr) (oe : Obj) (cls : Value) (d : Option Addr) (pn : List (Addr × Obj)), Zc cls d oe → (∃ vs, oe.data = .fields vs) →
      PSs (X.suite a ((a, oe) :: pn)) (b₀ :: suite) (ts a cls d)) :
    PS X (.Try body [.ExceptHandler (some (.Tuple [.Name x1 p1, .Name x2 p2, .Name x3 p3] tf tp)) (some n) (b₀ :: suite) pos'] [] [] pos) (fun D σ H => tb (wTup X.K [c1, c2, c3] i ts D) D σ H) := ⟨fun pins s σ H D I h => by
  have ok := I.ok
  have frs_ : X.A.frames = some (X.env :: X.outer) := by rw [ok.frames, hs]
  refine wpAny_Try_except (wpAny_mono ((hb (wTup X.K [c1, c2, c3] i ts D) (X.pn ++ pins) _ (fun u s' xx => ?_) PassesOwn.looking).run [] s σ H D (I.toTry _) h) (fun f s1 e1 => ?_) fun e s1 he => he)
  · obtain ⟨a, B, sI, pins', σ', H', cls, d, eu, J', nb, up, sky, na, os, ag, hm, hyes⟩ := xx
    subst eu
    have J : Inv X pins σ' H' sI := J'.ofTry ok
    have sky1 : Sky B (X.env :: X.outer) a (Zc cls d) X.env.locals s'.heap := by rw [← hs]; exact sky
    show wpAny (model X.prog X.w) X.A (noteFrame (.ref a) X.env) _ _ _
    refine Sky.land Zc.steady frs_ hf sky1 fun hA flA upA => ?_
    have KA := J.landed (s' := { s' with heap := hA }) nb flA.1 (up.trans upA) os ag
    obtain ⟨oA, vA, gA, zA, dA⟩ := flA.there
    have off : ∀ {h : Heap} {o : Obj} {vs : Array Value}, h.FunFrames B (X.env :: X.outer) → h.get? a = some o → o.data = .fields vs → a ∉ frs (X.env :: X.outer) := fun {h o vs} ff e dd hm => by
      obtain ⟨_, o2, e2, nfields⟩ := ff.mem hm
      rw [e] at e2
      cases e2
      exact nfields _ dd
    have a_off := off flA.2.2.1 gA dA
    have aL : a ≠ X.env.locals := fun z => a_off (List.mem_filterMap.mpr ⟨X.env, List.mem_cons_self, by rw [hf, z]⟩)
    have aF : a ∉ X.fs := fun hm => by
      obtain ⟨e, he, z⟩ := List.mem_filterMap.mp hm
      exact a_off (List.mem_filterMap.mpr ⟨e, List.mem_cons_of_mem _ he, z⟩)
    have SA := KA.suite gA dA na aL aF
    refine wpAny_handleBy_cons (codeAny_handlers_test ?_) (by intro z; cases z)
    -- the tuple of the classes
    refine wpAny_Tuple_spliced (Calls.spliced_cons (name_at (X := X.suite a ((a, oA) :: (X.pn ++ pins))) m1 SA (Calls.spliced_cons (name_at (X := X.suite a ((a, oA) :: (X.pn ++ pins))) m2 SA (Calls.spliced_cons (name_at (X := X.suite a ((a, oA) :: (X.pn ++ pins))) m3 SA (Calls.spliced_nil ⟨(show 3 ≤ sizeLine by decide), ?_⟩)))))))
    have grow : ∀ b o, hA.get? b = some o → (hA.push { cls := .type "tuple", data := .seq [c1, c2, c3].toArray }).get? b = some o := fun b o e => Heap.get?_push_of_some _ e
    have fl := flying_on flA grow
    have LT : PySem.W.Looks (model X.prog X.w) (hA.push { cls := .type "tuple", data := .seq [c1, c2, c3].toArray }) (typeOf (.ref a)) cls := fun A Q E s k q => wpAny_typeOf_ref (k _ _ (grow _ _ gA)) (by rw [zA.1]; exact q)
    have LM := PySem.W.exm_tup3 (M := model X.prog X.w) (tp := hA.objs.size) (KA.kIn.keeps grow) LT (Heap.get?_push_size _ rfl) hm
    refine LM.here (codeAny_handlers_suite_as (HandSPX.lands_againZ fl fun hC flC upC => ?_))
    have upB : hA.UpToSlots hC := (Heap.UpToSlots.of_keeps grow).trans upC
    have KC := J.landed (s' := { s' with heap := hC }) nb flC.1 ((up.trans upA).trans upB) os ag
    obtain ⟨oC, vC, gC, zC, dC⟩ := flC.there
    have SC := KC.suite gC dC na aL aF
    refine store_ok (X := X.suite a ((a, oC) :: (X.pn ++ pins))) (v := .ref a) SC hN hi (.inl hln) rfl (fun s5 S5 => ?_) (.inr hln)
    refine wpAny_mono ((hsu a oC cls d (X.pn ++ pins) zC ⟨_, dC⟩).run [] s5 _ H' _ S5 (hyes a na)) (fun f s6 done => ?_) fun _ _ z => False.elim z
    have gone : ∀ {σ6 : L2.St} {H6 : Hp} {Q : Shared → Prop}, Inv (X.suite a ((a, oC) :: (X.pn ++ pins))) [] σ6 H6 s6 → (∀ s7, Inv X pins (σ6.set i none) H6 s7 → Q s7) →
        wpAny (model X.prog X.w) X.A (do bindName X.env n .none; unbindBehindTheSuite X.env n pos') (fun _ s7 => Q s7) X.xe s6 :=
      fun {σ6 H6 Q} S6 hq => gone_ok (S6.unsuite ok) hN hi hln hq
    rcases f with _ | _ | _ | u
    all_goals first
      | (obtain ⟨σ6, H6, S6, q6⟩ := done; exact gone S6 fun s7 J7 => ⟨_, _, J7, q6⟩)
      | (obtain ⟨v6, σ6, H6, S6, r6, q6⟩ := done; exact gone S6 fun s7 J7 => ⟨_, _, _, J7, r6, q6⟩)
  · rcases f with _ | _ | _ | u
    all_goals first
      | (obtain ⟨σ2, H2, J2, q2⟩ := e1; exact wpAny_execs_nil ⟨σ2, H2, J2.ofTry ok, q2⟩)
      | (obtain ⟨σ2, H2, J2, q2⟩ := e1; exact ⟨σ2, H2, J2.ofTry ok, q2⟩)
      | (obtain ⟨v2, σ2, H2, J2, r2, q2⟩ := e1; exact ⟨v2, σ2, H2, J2.ofTry ok, r2, q2⟩)⟩
end
end DL
set_option maxRecDepth 100000
set_option maxHeartbeats 2000000
/-! A caught error handed to a def; list.count of flat items; repr of an int. -/
namespace DL
open PySem PySem.Spec PyProof.Rows L2
/-! ### xs.count(x) -/
theorem count_eqU {x : V} : ∀ {xs : List V} {us : List Value}, Vals xs us → xs.all flatV = true → us.countP (eqU x) = xs.countP fun y => eqV y x
  | _, _, .nil, _ => rfl
  | y :: xs, u :: us, .cons r t, f => by
    rw [List.all_cons, Bool.and_eq_true] at f
    rw [List.countP_cons, List.countP_cons, eqU_of r f.1, count_eqU t f.2]
def rCntF (K : PySem.W.Frag) : V → List V → Hp → VK → Prop := fun x xs H Q => ∃ p vs y, x = .ref p ∧ xs = [y] ∧ SqL K H p vs ∧ flatV y = true ∧ vs.all flatV = true ∧ Q (.int ((vs.countP fun z => eqV z y : Nat) : Int)) H
theorem mt_countF {X : Cx} : MtR X "list.count" (rCntF X.K) := by
  intro pins s σ H x xs v us Q I rx rxs h
  obtain ⟨p, vs, y, rfl, rfl, hs, fy, fs, q⟩ := h
  cases rx
  obtain ⟨u, rfl, ru⟩ := rxs.one
  obtain ⟨its, rv, ⟨⟨cls, dd, data, sl⟩, n, ho, hc, hdn, hd⟩, hlen⟩ := I.list hs
  simp only at hc hd
  subst hc hd
  refine call_meets PySem.F.slot_list_count ⟨_, ho, rfl⟩ PySem.F.entry_list_count (PySem.F.args_list_count_2 _ _)
    (SeqAt.list_countAt p its.toArray n dd sl u (eqU y)) ⟨ho, fun z hz => mem_eqAt ru fy rv fs z (by simpa using hz), ?_⟩
  refine ⟨.int ((vs.countP fun z => eqV z y : Nat) : Int), H, I.tok _, ⟨s.toks, ?_⟩, q⟩
  rw [show its.toArray.toList.countP (eqU y) = its.countP (eqU y) by simp, count_eqU rv fs]
/-- a list of flat items: how often x is among them -/
def fCnt : F2 := fun x y Q => match x with
  | .lst ds => y.flat = true ∧ ds.all D.flat = true ∧ (ds.all fun z => z.kin y) = true ∧ Q (.int ((ds.countP fun z => z.eqF y : Nat) : Int))
  | _ => False
@[simp] theorem x_cnt {ds : List D} {y : D} {Q : D → Prop} : fCnt (.lst ds) y Q = (y.flat = true ∧ ds.all D.flat = true ∧ (ds.all fun z => z.kin y) = true ∧ Q (.int ((ds.countP fun z => z.eqF y : Nat) : Int))) := rfl
theorem cntF_V {c : Cf} {H : Hp} {y : D} {u : V} (r1 : Rp c H y u) (h : y.flat = true) : ∀ {ds : List D} {vs : List V}, Rps c H ds vs → ds.all D.flat = true → (ds.all fun z => z.kin y) = true → vs.countP (fun z => eqV z u) = ds.countP fun z => z.eqF y
  | [], vs, r, _, _ => by unfold Rps at r; rw [r]; rfl
  | d :: ds, vs, r, h1, hk => by
    unfold Rps at r
    obtain ⟨x, xs, rfl, q1, q2⟩ := r
    rw [List.all_cons, Bool.and_eq_true] at h1 hk
    rw [List.countP_cons, List.countP_cons, eqF_V q1 r1 h1.1 h hk.1, cntF_V r1 h q2 h1.2 hk.2]
def D.isL : D → Bool
  | .lst _ => true
  | _ => false
@[simp] theorem x_isL {ds : List D} : D.isL (.lst ds) = true := rfl
def dCnt (a b : DE) : DE := ⟨a.n + b.n, fun ss Q => a ss fun x => x.isL = true ∧ b ss fun y => fCnt x y Q⟩
@[simp] theorem x_dcnt {a b : DE} {ss : Sls} {Q : D → Prop} : (dCnt a b).f ss Q = a.f ss fun x => x.isL = true ∧ b.f ss fun y => fCnt x y Q := rfl
section
variable {X : Cx} {p : Option Addr} {G : Gm} {pos apos q : Pos} {a e : Expr} {da db : DE}
theorem pd_count (ho : PE X a (up ⟨X.K, p⟩ G da)) (he : PE X e (up ⟨X.K, p⟩ G db)) (hb : attributeBase a "count" X.env (eval a X.env) = eval a X.env := by rfl)
    (hfew : ((backTo pos (starEach [e] X.env)).all (fun x => !x.1) && (backToKw pos (keywordEach [] X.env)).all (fun x => x.1.isSome)
      && decide (([e] : List Expr).length + ([] : List Keyword).length + (if ([] : List Keyword).isEmpty then 0 else 1) < 30)) = true := by rfl)
    (hline : (apos.endLine == pos.line) = true := by rfl) (hs : starEach [e] X.env = (false, eval e X.env) :: starEach [] X.env := by rfl) (hplain : (backTo pos (starEach [] X.env)).any (·.1) = false := by rfl) :
    PE X (.Call (.Attribute a "count" apos) [e] [] pos) (up ⟨X.K, p⟩ G (dCnt da db)) :=
  peOf (pe_bm PySem.F.plainAttrs_list PySem.F.slot_list_count PySem.F.type_list_count mt_countF ho (pa_cons he pa_nil hs) hb hfew hline hs hplain) fun σ H Q ⟨ss, ow, P, R, h, k⟩ => ⟨ss, ow, _, R.l, h, fun x v H1 s1 r1 ⟨p0, p1⟩ => by
    have key : ∀ ds, x = .lst ds → ∃ b xs, v = .ref b ∧ SqF H1 b xs ∧ Rps ⟨X.K, p⟩ H1 ds xs := fun ds e => by
      subst e
      unfold Rp at r1
      exact r1
    have R1 := R.step s1
    cases x with
    | lst ds =>
      obtain ⟨b, xs, rfl, h1, h2⟩ := key ds rfl
      refine ⟨.inl ⟨rfl, xs, h1.l⟩, ss, ow, _, R1, p1, fun y w H2 s2 r2 p2 => ?_⟩
      obtain ⟨q1, q2, q3, q4⟩ := p2
      have le2 := R1.le s2
      have h2' := h2.le le2 _ _
      refine ⟨b, xs, w, rfl, rfl, (h1.le le2).l, flat_V r2 q1, flats_V h2' q2, ?_⟩
      rw [cntF_V r2 q1 h2' q2 q3]
      exact k _ _ H2 (s1.trans s2) r_int q4
    | _ => cases p0⟩
/-- repr(int) -/
def fReprI (x : D) (Q : D → Prop) : Prop := match x with
  | .int i => i.natAbs.log2 < 1920 ∧ Q (.str (toString i))
  | _ => False
@[simp] theorem x_reprI {i : Int} {Q : D → Prop} : fReprI (.int i) Q = (i.natAbs.log2 < 1920 ∧ Q (.str (toString i))) := rfl
theorem pd_reprI (ha : PE X a (up ⟨X.K, p⟩ G da)) (hg : Gl X "repr") (hm : X.mg "repr" = none)
    (he : starEach [a] X.env = (false, eval a X.env) :: starEach [] X.env := by rfl) (hpl : (backTo pos (starEach [] X.env)).any (·.1) = false := by rfl) :
    PE X (.Call (.Name "repr" q) [a] [] pos) (up ⟨X.K, p⟩ G (dUn fReprI da)) :=
  peOf (pe_callB SkE.call_repr_int hg hm bt_repr (pa_cons ha pa_nil he) (by decide) (by decide) he hpl) fun σ H Q ⟨ss, ow, P, R, h, kk⟩ => ⟨ss, ow, _, R, h, fun x v H1 s1 r1 p1 => by
    cases x with
    | int i =>
      cases (show v = _ from r1)
      exact ⟨i, rfl, p1.1, kk _ _ H1 s1 r_str p1.2⟩
    | _ => exact p1.elim⟩
end
/-! ### the caught error, held in a slot -/
/-- slot i holds v, and what is asked of it is d -/
def dRawF (i : Nat) (v : V) (d : D) : DE := ⟨0, fun ss Q => ss[i]? = some (Sl.raw v) ∧ Q d⟩
@[simp] theorem x_rawF {i : Nat} {v : V} {d : D} {ss : Sls} {Q : D → Prop} : (dRawF i v d).f ss Q = (ss[i]? = some (Sl.raw v) ∧ Q d) := rfl
/-- what the class must say -/
structure ExcQ (K : PySem.W.Frag) (C : Addr) : Prop where
  cl : (PySem.W.clsIn K C).isSome = true
  ga : PySem.W.findIn K (.ref C) "__getattribute__" = some (some (.builtin "BaseException.__getattribute__"))
  gg : PySem.W.findIn K (.ref C) "__getattr__" = some none
  sb : PySem.W.subIn K (.ref C) (.type "BaseException") = some true
  hd : PySem.W.hasDictIn K C = true
  ca : PySem.W.findIn K (.ref C) "__class__" = some (some (.builtin "object.__class__"))
  cg : PySem.W.specialIn K (.builtin "object.__class__") "__get__" = some (some (.builtin "getset_descriptor.__get__"))
  ct : PySem.W.takesIn K (.builtin "object.__class__") = some true
  ob : PySem.W.mroIn K C (.type "object") = some true
section
variable {X : Cx} {p : Option Addr} {G : Gm} {pos q q1 q2 : Pos} {a C dd : Addr} {oe : Obj} {pn : List (Addr × Obj)} {x y n : Str} {i : Nat} {fs : List (Str × V)}
/-- isinstance(e, T), T a class by its name -/
theorem pd_isX (E : ExcQ X.K C) (hz : Zc (.ref C) (some dd) oe) (hf : ∃ vs, oe.data = .fields vs) (hG : G.H0 dd = some (.xd fs)) (hio : ¬ G.io dd) {cv : Value} {b : Bool} (hk : PySem.W.kitOne X.K (.ref C) cv = some b) {pv : V} (hpv : RelV pv cv) (hcv : ∀ u, RelV pv u → u = cv)
    (hN : X.N[i]? = some x) (hv : Vis X.env.scope x) (hT : PE (X.suite a ((a, oe) :: pn)) (.Name y q2) (fun σ H Q => Q pv H)) (hg : Gl X "isinstance") (hm : X.mg "isinstance" = none) (hd : (x == ("__debug__" : Str)) = false := by decide) (hcd : (x == ("__classdict__" : Str)) = false := by decide)
    (he : starEach [.Name x q1, .Name y q2] X.env = (false, eval (.Name x q1) X.env) :: starEach [.Name y q2] X.env := by rfl) (he2 : starEach [.Name y q2] X.env = (false, eval (.Name y q2) X.env) :: starEach [] X.env := by rfl) (hpl : (backTo pos (starEach [.Name y q2] X.env)).any (·.1) = false := by rfl) :
    PE (X.suite a ((a, oe) :: pn)) (.Call (.Name "isinstance" q) [.Name x q1, .Name y q2] [] pos) (up ⟨X.K, p⟩ G (dRawF i (.ref a) (.bl b))) := by
  have hc : CallR (X.suite a ((a, oe) :: pn)) (.builtin "isinstance") (fun xs H Q => xs = [.ref a, pv] ∧ H dd = some (.xd fs) ∧ Q (.bl b) H) := by
    intro pins s σ H xs us Q I r h
    obtain ⟨rfl, hH, hQ⟩ := h
    cases r with
    | cons r1 r =>
      cases r with
      | cons r2 r =>
        cases r
        cases r1
        rw [hcv _ r2]
        obtain ⟨ha, _⟩ := I.pin (a, oe) (List.mem_append_left _ List.mem_cons_self)
        obtain ⟨vs, hdv⟩ := hf
        have hx : ObjOk X.prog X.w H s.heap dd (.xd fs) := I.hok dd _ hH
        obtain ⟨mA, hns, hr⟩ := hx
        obtain ⟨od, ho, hl⟩ := lookIn_ns hns
        have J : PySem.W.InstAt s.heap a oe C (some od) := ⟨ha, hz.1, by unfold PySem.W.notCls; rw [hdv] <;> rfl, by rw [hz.2]; exact ho⟩
        exact PySem.W.kia_one (PySem.W.kitx_exc E.cl E.ga E.gg E.sb E.ca E.cg E.ct E.ob) I.kIn J hk (fun z => nomatch z) fun tk => ⟨.bl b, H, I.kept (t' := tk) fun _ _ z => z, rfl, hQ⟩
  refine peOf (pe_callB hc hg hm bt_isinstance (pa_cons (pe_var (i := i) hN hv hd hcd) (pa_cons hT pa_nil he2) he) (by decide) (by decide) he hpl) fun σ H Q ⟨ss, ow, P, R, ⟨h1, h2⟩, kk⟩ => ?_
  refine ⟨_, R.raw i _ h1, rfl, R.keep dd _ hG hio, kk _ _ H (Step.refl _ _ _) r_bl h2⟩
/-- e.n, a field of the caught error -/
theorem pd_xf (E : ExcQ X.K C) (hz : Zc (.ref C) (some dd) oe) (hf : ∃ vs, oe.data = .fields vs) (hG : G.H0 dd = some (.xd fs)) (hio : ¬ G.io dd) {v : V} {d : D} (hl : fs.lookup n = some v) (hd' : ∀ H, Rp ⟨X.K, p⟩ H d v) (hno : PySem.W.findIn X.K (.ref C) n = some none)
    (hN : X.N[i]? = some x) (hv : Vis X.env.scope x) (hd : (x == ("__debug__" : Str)) = false := by decide) (hcd : (x == ("__classdict__" : Str)) = false := by decide)
    (hb : attributeBase (.Name x q1) n X.env (eval (.Name x q1) X.env) = eval (.Name x q1) X.env := by rfl) :
    PE (X.suite a ((a, oe) :: pn)) (.Attribute (.Name x q1) n pos) (up ⟨X.K, p⟩ G (dRawF i (.ref a) d)) :=
  peOf (pe_xf (n := n) ⟨E.ga, E.gg, E.sb, E.hd⟩ hno hz hf (pe_var (i := i) hN hv hd hcd) hb) fun σ H Q ⟨ss, ow, P, R, ⟨h1, h2⟩, kk⟩ =>
    ⟨_, R.raw i _ h1, rfl, rfl, dd, fs, v, rfl, R.keep dd _ hG hio, hl, kk _ _ H (Step.refl _ _ _) (hd' H) h2⟩
end
end DL
set_option maxRecDepth 100000
set_option maxHeartbeats 2000000
/-! A def called with the caught error. -/
namespace DL
open PySem PySem.Spec PyProof.Rows L2 L2H
theorem run_pin {P : Program} {w : World} {K : PySem.W.Frag} {mg : Str → Option Value} {base : Heap} {k : Nat} {f : Addr} {name qual : Str} {params : Arguments} {body : List Stmt} {scope : Scope} {dV kV doc pm cdv ct oc : Value} {an od : Option Addr} {osl : Array (Option Value)} {N ps : List Str}
    (lk : K.lookup f = some ⟨oc, od, .func (PySem.W.fnOf name qual params body scope dV kV doc pm an cdv ct), osl⟩) (hcd : PySem.W.codeIn K cdv qual = true) (S : FnScope N ps scope) {A : Around} {outer : List Env} {s : Shared} {H : Hp} {args : Args} {us : List Value} {vs : List V} {Q : VK} {p : Addr × Obj}
    (hr : RoomH (k + 1) A) (hpin : PinOk outer H s p) (e0 : Env0 P w K mg base A outer s H) (hb : BindsTo s (PySem.W.fnOf name qual params body scope dV kV doc pm an cdv ct) args (ps.zip us)) (r : Vals vs us) (hl : vs.length = ps.length)
    (hbody : RoomH k (A.deeper (envOfC qual scope s.heap.objs.size f cdv)) → ∃ t, PSs (cxH C8.CX0 P w K mg base N qual scope f cdv A outer s H C8.E0 p) body t ∧ t { nx := fun _ H' => Q .non H', rt := Q } (L2.start N vs) H) :
    codeAny (model P w) A (.call (.ref f) args) (CR C8.CX0 outer P w H s Q C8.E0) s := by
  have ext := e0.bs
  have kX : K.In s.heap := e0.mod.kin.keeps fun b o e => (ext b o e).1
  refine codeAny_call_function hr.depth (kX _ _ lk) rfl S.co S.gen rfl (PySem.W.codeRec_of kX hcd) (hb _ _ _ _
    (wpAny_newFunctionEnv_cells S.kind (fun ⟨n, v⟩ hy => (S.par n (List.of_mem_zip hy).1).elim .inl fun c => .inr ⟨c, PySem.W.cellsFrom_some _ _ _ (.inl c)⟩) fun env he s1 x => ?_))
  subst he
  refine ⟨(e0.mod.nolimit.keeps fun b o e => (ext b o e).1).keeps x.toInCall.keep, codeAny_func ?_⟩
  obtain ⟨t, ht, hq⟩ := hbody (hr.deeper _)
  have J0 := inv_startH (CX := C8.CX0) (E := C8.E0) (N := N) S hpin e0 hl r x
  refine wpAny_mono (ht.run [] s1 _ H _ J0 hq) (fun fl s' z => ?_) fun e s' z => z
  rcases fl with _ | _ | _ | u
  · obtain ⟨σ', H', J, q⟩ := z
    exact ⟨.non, H', J.os, J.bare, J.base, J.hok, rfl, q⟩
  · obtain ⟨_, _, _, q⟩ := z
    exact False.elim q
  · obtain ⟨_, _, _, q⟩ := z
    exact False.elim q
  · obtain ⟨v, σ', H', J, rv, q⟩ := z
    exact ⟨v, H', J.os, J.bare, J.base, J.hok, rv, q⟩
/-- a def that may be called with the caught error -/
structure PinK (P : Program) (w : World) (K : PySem.W.Frag) (mg : Str → Option Value) (base : Heap) (k : Nat) (x : Str) (sp : Addr → Obj → Hp → VK → Prop) : Prop where
  ex : ∃ f, mg x = some (.ref f) ∧ PySem.W.keepIn K (.ref f) = true ∧ ∀ (A0 : Around) (outer : List Env) (s : Shared) (H : Hp) (a : Addr) (oe : Obj) (Q : VK), RoomH k (A0.mark (some (.ref a))) → PinOk outer H s (a, oe) → Env0 P w K mg base (A0.mark (some (.ref a))) outer s H → sp a oe H Q →
    codeAny (model P w) (A0.mark (some (.ref a))) (.call (.ref f) ⟨[.ref a], []⟩) (CR C8.CX0 outer P w H s Q C8.E0) s
section
variable {X : Cx} {a : Addr} {oe : Obj} {pn : List (Addr × Obj)} {x y : Str} {i k : Nat} {q q1 pos : Pos} {sp : Addr → Obj → Hp → VK → Prop}
theorem pe_pin (F : PinK X.prog X.w X.K X.mg X.base k x sp) (hr : RoomH k (X.A.mark (some (.ref a)))) (hg : Gl X x) (hN : X.N[i]? = some y) (hv : Vis X.env.scope y) (hdb : (x == ("__debug__" : Str)) = false := by decide)
    (hd : (y == ("__debug__" : Str)) = false := by decide) (hcd : (y == ("__classdict__" : Str)) = false := by decide) (he : starEach [.Name y q1] X.env = (false, eval (.Name y q1) X.env) :: starEach [] X.env := by rfl) (hpl : (backTo pos (starEach [] X.env)).any (·.1) = false := by rfl) :
    PE (X.suite a ((a, oe) :: pn)) (.Call (.Name x q) [.Name y q1] [] pos) (fun σ H Q => σ[i]? = some (some (.ref a)) ∧ sp a oe H Q) := by
  obtain ⟨f, hm, hk, run⟩ := F.ex
  refine ⟨fun pins s σ H Q I ⟨h1, h2⟩ => wpAny_Call_Name_kw (ld_glob I hg hm ?_ hdb)⟩
  have hy : PA (X.suite a ((a, oe) :: pn)) [.Name y q1] (tCons (tVar i) tNil) := pa_cons (pe_var (i := i) hN hv hd hcd) pa_nil he
  refine PySem.W.callWith_K (h₀ := X.base) I.ok.mod.kin hk (thn (hy.run pos pins s σ H (fun vs H1 => vs = [.ref a] ∧ H1 = H) I ⟨_, h1, rfl, rfl⟩) fun us s1 ⟨vs, H1, I1, r, ev, eH⟩ => ⟨I1.kIn, ?_⟩) he hpl
  subst ev eH
  obtain ⟨u, rfl, ru⟩ := r.one
  cases ru
  have P1 := I1.pin (a, oe) (List.mem_append_left _ List.mem_cons_self)
  have hpin : PinOk X.stack H1 s1 (a, oe) := ⟨P1.1, P1.2.1, fun hm => (List.mem_cons.mp (I1.stkSub a hm)).elim P1.2.2.1 P1.2.2.2.1, P1.2.2.2.2⟩
  refine wpAny_call (codeAny_mono (run X.A X.stack s1 H1 a oe Q hr hpin I1.env0 h2) fun r s' z => ?_)
  cases r with
  | error e => exact z.elim
  | ok fl =>
    cases fl with
    | ret u => exact I1.after z
    | next => exact z.elim
    | brk => exact z.elim
    | cont => exact z.elim
end
end DL
set_option maxRecDepth 100000
set_option maxHeartbeats 2000000
namespace DL
open PySem PySem.Spec PyProof.Rows L2
/-- a test over data, whatever the beginning -/
def upTX (c : Cf) (t : DT) : TT := fun σ H Q => ∃ ss P, RepX c H σ ss ∧ t.f ss P ∧ ∀ b H', Step c 0 H H' → P b → Q b H'
section
variable {X : Cx} {p : Option Addr} {t : DT} {e : Expr}
theorem pt_X (h : ∀ G, PT X e (upT ⟨X.K, p⟩ G t)) (hn : t.n = 0 := by rfl) : PT X e (upTX ⟨X.K, p⟩ t) := ⟨fun pins s σ H Q I ⟨ss, P, R, h1, L⟩ => by
  obtain ⟨ow, R⟩ := R.reps
  exact (h (gAll H)).run pins s σ H Q I ⟨ss, ow, P, by rw [hn]; exact R, h1, fun b H' s => L b H' (by rw [hn] at s; exact s)⟩⟩
end
/-! ### o.m(k = v), a method with keywords -/
def tMethK (C : Addr) (m : Str) (n : Nat) (sp : Sp) (gV : List V → List V → List V) (E : XK) (ta : TE) (tk : TA) : TE := fun σ H Q => ta σ H fun x H1 => ∃ a dx fs, x = .ref a ∧ H1 a = some (.ins C dx fs) ∧ fs.lookup m = none ∧ tk σ H1 fun zs H2 => zs.length = n ∧ sp (gV [.ref a] zs) H2 Q E
theorem pe_methK {X : Cx} {CX : CXT} {k : Nat} {C f : Addr} {m : Str} {fd : FuncData} {ps ks : List Str} {sp : Sp} {E : XK} {o : Expr} {kws : List Keyword} {apos pos : Pos} {ta : TE} {tk : TA} {g : List Value → List Value → List Value} {gV : List V → List V → List V} {pl : Sem Bool}
    (he : PE X o ta) (c : Cls X.K C) (hm : Meth X.K C m f) (F : FnOk X.prog X.w X.K X.mg X.base CX k f fd ps sp) (hr : Room k X.A) (hb : KBn X.K fd ps 1 ks g gV) (hx : Passes CX X E) (hkw : PK X kws tk)
    (hall : (backToKw pos (keywordEach kws X.env)).all (·.1.isSome) = true := by rfl) (hks : (backToKw pos (keywordEach kws X.env)).filterMap (·.1) = ks := by rfl)
    (hpl : ((backTo pos (starEach [] X.env)).any (·.1) || (backToKw pos (keywordEach kws X.env)).any (·.1.isNone)) = false := by rfl)
    (ht : eval (.Call (.Attribute o m apos) [] kws pos) X.env = (do
      let ov ← eval o X.env
      standAt apos.atName
      let (f, first) ← holding [ov] (getMethod ov m pl)
      callWith pos f first (backTo pos (starEach [] X.env)) (backToKw pos (keywordEach kws X.env))) := by rfl) :
    PE X (.Call (.Attribute o m apos) [] kws pos) (tMethK C m ks.length sp gV E ta tk) := by
  refine ⟨fun pins s σ H Q I h => PySem.W.methodCall_KW (pl := pl) (thn (he.run pins s σ H _ I h) fun u s1 ⟨x, H1, I1, rx, a, dx, fs, ex, ea, l, q⟩ => ?_) ht⟩
  subst ex
  obtain rfl : u = Value.ref a := rx
  refine getmeth_ok I1 ea c hm l (PySem.W.callWith_KW0 (first := [.ref a]) (h₀ := X.base) I.ok.mod.kin hm.kp hall ?_ hpl)
  refine thn (hkw.run pos pins s1 σ H1 _ I1 q) fun ws s2 ⟨zs, H2, I2, rz, l2, q2⟩ => ⟨I2.kIn, ?_⟩
  rw [hks]
  exact run_fnN (us := [.ref a]) (vs := [.ref a]) F hr hb hx I2 (.cons rfl .nil) rz rfl l2 q2
end DL
set_option maxRecDepth 100000
set_option maxHeartbeats 2000000
/-! Printed by printB.py: what is known of the module, how the defs' bodies read, what the defs promise. -/
namespace KK
open PySem PySem.Spec PyProof.Rows L2 DL
def meth (i j : Nat) : Stmt := ((PySem.Challenge.pw_fallranks_k57_whole_leads_taken_back.main.body.getD i (.Pass ⟨0, 0, 0, 0⟩)) |> C8.clsBody).getD j (.Pass ⟨0, 0, 0, 0⟩)
/-- a def of the module -/
def DefK (K : PySem.W.Frag) (mg : Str → Option Value) (x : Str) (st : Stmt) : Prop := ∃ f fd, FunD K x x (defArgs st) (defBody st) (defScope st) [] [] f fd ∧ mg x = some (.ref f)
/-- a method of the class at C -/
def MetK (K : PySem.W.Frag) (C : Addr) (m qual : Str) (st : Stmt) : Prop := ∃ f fd, FunD K m qual (defArgs st) (defBody st) (defScope st) [] [] f fd ∧ PySem.W.findIn K (.ref C) m = some (some (.ref f)) ∧ PySem.W.isFn K (.ref f) = true
/-- a property of the class at C -/
def PrpK (K : PySem.W.Frag) (C : Addr) (m qual : Str) (st : Stmt) : Prop := ∃ p g fd, PropOf K C m p g ∧ FunD K m qual (defArgs st) (defBody st) (defScope st) [] [] g fd
/-- a class that is made -/
def IniK (K : PySem.W.Frag) (C : Addr) (qual : Str) (st : Stmt) : Prop := ∃ f fd, FunD K "__init__" qual (defArgs st) (defBody st) (defScope st) [] [] f fd ∧ Mk K C f
theorem raw_ok {P : Program} {w : World} {K : PySem.W.Frag} {mg : Str → Option Value} {base : Heap} {k : Nat} {f : Addr} {fd : FuncData} {ps : List Str} {sp : Sp} (F : FnOk P w K mg base C8.CX0 k f fd ps sp) (hb : L2.Binds K fd ps []) : FnR P w K mg base C8.CX0 k f sp := by
  have := F.raw hb (dvs := []) .nil
  simpa using this
theorem len_S_is_integer {xs : List D} {P : D → Prop} (h : S_is_integer.f xs P) : xs.length = 1 := by
  have h := h
  simp only [S_is_integer, S__law_ask] at h
  grind
theorem len_S_is_name {xs : List D} {P : D → Prop} (h : S_is_name.f xs P) : xs.length = 1 := by
  have h := h
  simp only [S_is_name, S__law_ask] at h
  grind
theorem len_S_are_integers {xs : List D} {P : D → Prop} (h : S_are_integers.f xs P) : xs.length = 2 := by
  have h := h
  simp only [S_are_integers, S__law_ask] at h
  grind
theorem len_S_written_integer {xs : List D} {P : D → Prop} (h : S_written_integer.f xs P) : xs.length = 1 := by
  have h := h
  simp only [S_written_integer, S__law_ask] at h
  grind
theorem len_S_is_form {xs : List D} {P : D → Prop} (h : S_is_form.f xs P) : xs.length = 2 := by
  have h := h
  simp only [S_is_form, S__law_ask] at h
  grind
theorem len_S_is_saying {xs : List D} {P : D → Prop} (h : S_is_saying.f xs P) : xs.length = 2 := by
  have h := h
  simp only [S_is_saying, S__law_ask] at h
  grind
theorem len_S_is_branch {xs : List D} {P : D → Prop} (h : S_is_branch.f xs P) : xs.length = 2 := by
  have h := h
  simp only [S_is_branch, S__law_ask] at h
  grind
theorem len_S_wrong_name {xs : List D} {P : D → Prop} (h : S_wrong_name.f xs P) : xs.length = 1 := by
  have h := h
  simp only [S_wrong_name, S__law_ask] at h
  grind
theorem len_S_wrong_saying {xs : List D} {P : D → Prop} (h : S_wrong_saying.f xs P) : xs.length = 2 := by
  have h := h
  simp only [S_wrong_saying, S__law_ask] at h
  grind
theorem len_S_places_in {xs : List D} {P : D → Prop} (h : S_places_in.f xs P) : xs.length = 2 := by
  have h := h
  simp only [S_places_in, S__law_ask] at h
  grind
theorem len_S_Program__places {xs : List D} {P : D → Prop} (h : S_Program__places.f xs P) : xs.length = 1 := by
  have h := h
  simp only [S_Program__places, S__law_ask] at h
  grind
theorem len_S_wrong_branch {xs : List D} {P : D → Prop} (h : S_wrong_branch.f xs P) : xs.length = 3 := by
  have h := h
  simp only [S_wrong_branch, S__law_ask] at h
  grind
theorem len_S_Program____len__ {xs : List D} {P : D → Prop} (h : S_Program____len__.f xs P) : xs.length = 1 := by
  have h := h
  simp only [S_Program____len__, S__law_ask] at h
  grind
theorem len_S_form_words {xs : List D} {P : D → Prop} (h : S_form_words.f xs P) : xs.length = 1 := by
  have h := h
  simp only [S_form_words, S__law_ask] at h
  grind
theorem len_S_branch_lines {xs : List D} {P : D → Prop} (h : S_branch_lines.f xs P) : xs.length = 1 := by
  have h := h
  simp only [S_branch_lines, S__law_ask] at h
  grind
theorem len_S_program_lines {xs : List D} {P : D → Prop} (h : S_program_lines.f xs P) : xs.length = 1 := by
  have h := h
  simp only [S_program_lines, S__law_ask] at h
  grind
theorem len_S_Program____eq__ {xs : List D} {P : D → Prop} (h : S_Program____eq__.f xs P) : xs.length = 2 := by
  have h := h
  simp only [S_Program____eq__, S__law_ask] at h
  grind
theorem len_S_text_form {xs : List D} {P : D → Prop} (h : S_text_form.f xs P) : xs.length = 1 := by
  have h := h
  simp only [S_text_form, S__law_ask] at h
  grind
theorem len_S_text_saying {xs : List D} {P : D → Prop} (h : S_text_saying.f xs P) : xs.length = 1 := by
  have h := h
  simp only [S_text_saying, S__law_ask] at h
  grind
theorem len_S_text_branch {xs : List D} {P : D → Prop} (h : S_text_branch.f xs P) : xs.length = 1 := by
  have h := h
  simp only [S_text_branch, S__law_ask] at h
  grind
theorem len_S_text_program {xs : List D} {P : D → Prop} (h : S_text_program.f xs P) : xs.length = 1 := by
  have h := h
  simp only [S_text_program, S__law_ask] at h
  grind
theorem len_S_value_at {xs : List D} {P : D → Prop} (h : S_value_at.f xs P) : xs.length = 2 := by
  have h := h
  simp only [S_value_at, S__law_ask] at h
  grind
theorem len_S_blocking {xs : List D} {P : D → Prop} (h : S_blocking.f xs P) : xs.length = 2 := by
  have h := h
  simp only [S_blocking, S__law_ask] at h
  grind
theorem len_S_moved {xs : List D} {P : D → Prop} (h : S_moved.f xs P) : xs.length = 2 := by
  have h := h
  simp only [S_moved, S__law_ask] at h
  grind
theorem len_S_is_free {xs : List D} {P : D → Prop} (h : S_is_free.f xs P) : xs.length = 3 := by
  have h := h
  simp only [S_is_free, S__law_ask] at h
  grind
theorem len_S_check_program {xs : List D} {P : D → Prop} (h : S_check_program.f xs P) : xs.length = 1 := by
  have h := h
  simp only [S_check_program, S__law_ask] at h
  grind
theorem len_S_check_index {xs : List D} {P : D → Prop} (h : S_check_index.f xs P) : xs.length = 2 := by
  have h := h
  simp only [S_check_index, S__law_ask] at h
  grind
theorem len_S_check_place {xs : List D} {P : D → Prop} (h : S_check_place.f xs P) : xs.length = 2 := by
  have h := h
  simp only [S_check_place, S__law_ask] at h
  grind
theorem len_S_check_point {xs : List D} {P : D → Prop} (h : S_check_point.f xs P) : xs.length = 2 := by
  have h := h
  simp only [S_check_point, S__law_ask] at h
  grind
theorem len_S__law_any_of {xs : List D} {P : D → Prop} (h : S__law_any_of.f xs P) : xs.length = 2 := by
  have h := h
  simp only [S__law_any_of, S__law_ask] at h
  grind
theorem len_S__law_tags {xs : List D} {P : D → Prop} (h : S__law_tags.f xs P) : xs.length = 2 := by
  have h := h
  simp only [S__law_tags, S__law_ask] at h
  grind
theorem len_S__law_words {xs : List D} {P : D → Prop} (h : S__law_words.f xs P) : xs.length = 1 := by
  have h := h
  simp only [S__law_words, S__law_ask] at h
  grind
theorem len_S__law_arm_lines {xs : List D} {P : D → Prop} (h : S__law_arm_lines.f xs P) : xs.length = 1 := by
  have h := h
  simp only [S__law_arm_lines, S__law_ask] at h
  grind
theorem len_S__law_lines {xs : List D} {P : D → Prop} (h : S__law_lines.f xs P) : xs.length = 1 := by
  have h := h
  simp only [S__law_lines, S__law_ask] at h
  grind
theorem len_S__law_sheet {xs : List D} {P : D → Prop} (h : S__law_sheet.f xs P) : xs.length = 1 := by
  have h := h
  simp only [S__law_sheet, S__law_ask] at h
  grind
theorem len_S__law_spots {xs : List D} {P : D → Prop} (h : S__law_spots.f xs P) : xs.length = 1 := by
  have h := h
  simp only [S__law_spots, S__law_ask] at h
  grind
theorem len_S__law_unit {xs : List D} {P : D → Prop} (h : S__law_unit.f xs P) : xs.length = 2 := by
  have h := h
  simp only [S__law_unit, S__law_ask] at h
  grind
theorem len_S__law_shift {xs : List D} {P : D → Prop} (h : S__law_shift.f xs P) : xs.length = 2 := by
  have h := h
  simp only [S__law_shift, S__law_ask] at h
  grind
theorem len_S__law_little {xs : List D} {P : D → Prop} (h : S__law_little.f xs P) : xs.length = 2 := by
  have h := h
  simp only [S__law_little, S__law_ask] at h
  grind
theorem len_S__law_ask {xs : List D} {P : D → Prop} (h : S__law_ask.f xs P) : xs.length = 3 := by
  have h := h
  simp only [S__law_ask, S__law_ask] at h
  grind
theorem len_S__law_turn {xs : List D} {P : D → Prop} (h : S__law_turn.f xs P) : xs.length = 3 := by
  have h := h
  simp only [S__law_turn, S__law_ask] at h
  grind
theorem len_S__law_arm {xs : List D} {P : D → Prop} (h : S__law_arm.f xs P) : xs.length = 3 := by
  have h := h
  simp only [S__law_arm, S__law_ask] at h
  grind
theorem len_S__law_small {xs : List D} {P : D → Prop} (h : S__law_small.f xs P) : xs.length = 2 := by
  have h := h
  simp only [S__law_small, S__law_ask] at h
  grind
theorem len_S__law_value {xs : List D} {P : D → Prop} (h : S__law_value.f xs P) : xs.length = 2 := by
  have h := h
  simp only [S__law_value, S__law_ask] at h
  grind
theorem len_S__law_lets {xs : List D} {P : D → Prop} (h : S__law_lets.f xs P) : xs.length = 2 := by
  have h := h
  simp only [S__law_lets, S__law_ask] at h
  grind
theorem len_S__law_behind {xs : List D} {P : D → Prop} (h : S__law_behind.f xs P) : xs.length = 2 := by
  have h := h
  simp only [S__law_behind, S__law_ask] at h
  grind
theorem len_S__law_spot {xs : List D} {P : D → Prop} (h : S__law_spot.f xs P) : xs.length = 2 := by
  have h := h
  simp only [S__law_spot, S__law_ask] at h
  grind
theorem len_S__law_again {xs : List D} {P : D → Prop} (h : S__law_again.f xs P) : xs.length = 1 := by
  have h := h
  simp only [S__law_again, S__law_ask] at h
  grind
theorem len_S__law_next {xs : List D} {P : D → Prop} (h : S__law_next.f xs P) : xs.length = 3 := by
  have h := h
  simp only [S__law_next, S__law_ask] at h
  grind
theorem len_S_Lead__place {xs : List D} {P : D → Prop} (h : S_Lead__place.f xs P) : xs.length = 1 := by
  have h := h
  simp only [S_Lead__place, S__law_ask] at h
  grind
theorem len_S_Lead__point {xs : List D} {P : D → Prop} (h : S_Lead__point.f xs P) : xs.length = 1 := by
  have h := h
  simp only [S_Lead__point, S__law_ask] at h
  grind
theorem len_S_Lead__taken {xs : List D} {P : D → Prop} (h : S_Lead__taken.f xs P) : xs.length = 1 := by
  have h := h
  simp only [S_Lead__taken, S__law_ask] at h
  grind
theorem len_S_Lead__ready {xs : List D} {P : D → Prop} (h : S_Lead__ready.f xs P) : xs.length = 1 := by
  have h := h
  simp only [S_Lead__ready, S__law_ask] at h
  grind
theorem len_S_Lead__again {xs : List D} {P : D → Prop} (h : S_Lead__again.f xs P) : xs.length = 1 := by
  have h := h
  simp only [S_Lead__again, S__law_ask] at h
  grind
theorem len_S_Lead__program {xs : List D} {P : D → Prop} (h : S_Lead__program.f xs P) : xs.length = 1 := by
  have h := h
  simp only [S_Lead__program, S__law_ask] at h
  grind
theorem len_S_Lead____len__ {xs : List D} {P : D → Prop} (h : S_Lead____len__.f xs P) : xs.length = 1 := by
  have h := h
  simp only [S_Lead____len__, S__law_ask] at h
  grind
theorem len_S_Lead____bool__ {xs : List D} {P : D → Prop} (h : S_Lead____bool__.f xs P) : xs.length = 1 := by
  have h := h
  simp only [S_Lead____bool__, S__law_ask] at h
  grind
/-- what is known of the module -/
structure Fx (K : PySem.W.Frag) (mg : Str → Option Value) : Prop where
  abs : mg "abs" = none
  all : mg "all" = none
  any : mg "any" = none
  bool : mg "bool" = none
  c_DIGITS : ∃ t, mg "DIGITS" = some (.str "0123456789" t)
  c_LETTERS : ∃ t, mg "LETTERS" = some (.str "abcdefghijklmnopqrstuvwxyz" t)
  c_MOST_BRANCHES : ∃ t, mg "MOST_BRANCHES" = some (.int 5 t)
  c_MOST_NUMBER : ∃ t, mg "MOST_NUMBER" = some (.int 1000000 t)
  c_MOST_PLACES : ∃ t, mg "MOST_PLACES" = some (.int 3 t)
  c_MOST_SAYINGS : ∃ t, mg "MOST_SAYINGS" = some (.int 3 t)
  c_MOST_TESTS : ∃ t, mg "MOST_TESTS" = some (.int 3 t)
  c_MOST_VARIABLES : ∃ t, mg "MOST_VARIABLES" = some (.int 3 t)
  divmod : mg "divmod" = none
  enumerate : mg "enumerate" = none
  int : mg "int" = none
  isinstance : mg "isinstance" = none
  ld : LdFx K
  len : mg "len" = none
  max : mg "max" = none
  min : mg "min" = none
  pr : PrFx K
  mpr : mg "Program" = some (.ref (progC K))
  range : mg "range" = none
  repr : mg "repr" = none
  str : mg "str" = none
  sum : mg "sum" = none
  tuple : mg "tuple" = none
  nf : PySem.W.notFirst K (progC K) (.ref (progC K)) = true
  f_is_integer : DefK K mg "is_integer" (top 24)
  f_is_name : DefK K mg "is_name" (top 25)
  f_are_integers : DefK K mg "are_integers" (top 26)
  f_written_integer : DefK K mg "written_integer" (top 27)
  f_is_form : DefK K mg "is_form" (top 29)
  f_is_saying : DefK K mg "is_saying" (top 30)
  f_is_branch : DefK K mg "is_branch" (top 31)
  f_wrong_name : DefK K mg "wrong_name" (top 32)
  f_wrong_saying : DefK K mg "wrong_saying" (top 33)
  f_places_in : DefK K mg "places_in" (top 34)
  p_Program__places : PrpK K (progC K) "places" "Program.places" (meth 38 6)
  f_wrong_branch : DefK K mg "wrong_branch" (top 35)
  i_Program : IniK K (progC K) "Program.__init__" (meth 38 1)
  g_Program : mg "Program" = some (.ref (progC K))
  m_Program____len__ : MetK K (progC K) "__len__" "Program.__len__" (meth 38 10)
  f_form_words : DefK K mg "form_words" (top 36)
  f_branch_lines : DefK K mg "branch_lines" (top 37)
  f_program_lines : DefK K mg "program_lines" (top 39)
  m_Program____eq__ : MetK K (progC K) "__eq__" "Program.__eq__" (meth 38 11)
  f_text_form : DefK K mg "text_form" (top 40)
  f_text_saying : DefK K mg "text_saying" (top 41)
  f_text_branch : DefK K mg "text_branch" (top 42)
  f_text_program : DefK K mg "text_program" (top 44)
  f_value_at : DefK K mg "value_at" (top 45)
  f_blocking : DefK K mg "blocking" (top 51)
  f_moved : DefK K mg "moved" (top 52)
  f_is_free : DefK K mg "is_free" (top 53)
  f_check_program : DefK K mg "check_program" (top 46)
  f_check_index : DefK K mg "check_index" (top 47)
  f_check_place : DefK K mg "check_place" (top 48)
  f_check_point : DefK K mg "check_point" (top 49)
  i_Stage : IniK K (stgC K) "Stage.__init__" (meth 55 0)
  g_Stage : mg "Stage" = some (.ref (stgC K))
  i_Lead : IniK K (ldC K) "Lead.__init__" (meth 56 0)
  g_Lead : mg "Lead" = some (.ref (ldC K))
  f__law_any_of : DefK K mg "_law_any_of" (top 60)
  f__law_tags : DefK K mg "_law_tags" (top 61)
  f__law_words : DefK K mg "_law_words" (top 62)
  f__law_arm_lines : DefK K mg "_law_arm_lines" (top 63)
  f__law_lines : DefK K mg "_law_lines" (top 64)
  f__law_sheet : DefK K mg "_law_sheet" (top 65)
  f__law_spots : DefK K mg "_law_spots" (top 66)
  f__law_unit : DefK K mg "_law_unit" (top 69)
  f__law_shift : DefK K mg "_law_shift" (top 70)
  f__law_little : DefK K mg "_law_little" (top 71)
  f__law_ask : DefK K mg "_law_ask" (top 72)
  f__law_turn : DefK K mg "_law_turn" (top 73)
  f__law_arm : DefK K mg "_law_arm" (top 74)
  f__law_small : DefK K mg "_law_small" (top 75)
  f__law_value : DefK K mg "_law_value" (top 76)
  f__law_lets : DefK K mg "_law_lets" (top 77)
  f__law_behind : DefK K mg "_law_behind" (top 78)
  f__law_spot : DefK K mg "_law_spot" (top 79)
  f__law_again : DefK K mg "_law_again" (top 80)
  f__law_next : DefK K mg "_law_next" (top 82)
  p_Lead__place : PrpK K (ldC K) "place" "Lead.place" (meth 56 2)
  p_Lead__point : PrpK K (ldC K) "point" "Lead.point" (meth 56 3)
  p_Lead__taken : PrpK K (ldC K) "taken" "Lead.taken" (meth 56 4)
  p_Lead__ready : PrpK K (ldC K) "ready" "Lead.ready" (meth 56 5)
  p_Lead__again : PrpK K (ldC K) "again" "Lead.again" (meth 56 6)
  p_Lead__program : PrpK K (ldC K) "program" "Lead.program" (meth 56 1)
  m_Lead____len__ : MetK K (ldC K) "__len__" "Lead.__len__" (meth 56 11)
  m_Lead____bool__ : MetK K (ldC K) "__bool__" "Lead.__bool__" (meth 56 12)
  f__law_shows : DefK K mg "_law_shows" (top 81)
  exS : ExK K (clsA K "Stuck") "ArithmeticError.__new__" [.type "ArithmeticError", .type "Exception", .type "BaseException", .type "object"]
  exQ : ExcQ K (clsA K "Stuck")
  exi : ∃ f fd, FunD K "__init__" "Stuck.__init__" (defArgs (meth 13 0)) (defBody (meth 13 0)) (defScope (meth 13 0)) [] [] f fd ∧ PySem.W.findIn K (.ref (clsA K "Stuck")) "__init__" = some (some (.ref f)) ∧ PySem.W.typeIn K (.ref f) = some (.type "function")
  exn : PySem.W.findIn K (.ref (clsA K "Stuck")) "index" = some none
  gS : mg "Stuck" = some (.ref (clsA K "Stuck"))
  gWV : mg "WrongValue" = some (.ref (clsA K "WrongValue"))
  gWN : mg "WrongName" = some (.ref (clsA K "WrongName"))
  gNP : mg "NotPossible" = some (.ref (clsA K "NotPossible"))
  gII : mg "InvalidIndex" = some (.ref (clsA K "InvalidIndex"))
  gNU : mg "NothingToUndo" = some (.ref (clsA K "NothingToUndo"))
  fVE : mg "ValueError" = none
  fLE : mg "LookupError" = none
  fAE : mg "ArithmeticError" = none
  ex3 : PySem.W.exmAny K (.ref (clsA K "Stuck")) [.ref (clsA K "WrongValue"), .ref (clsA K "WrongName"), .ref (clsA K "NotPossible")] = some true
  k1 : PySem.W.kitOne K (.ref (clsA K "Stuck")) (.ref (clsA K "WrongValue")) = some false
  k2 : PySem.W.kitOne K (.ref (clsA K "Stuck")) (.ref (clsA K "WrongName")) = some false
  k3 : PySem.W.kitOne K (.ref (clsA K "Stuck")) (.ref (clsA K "NotPossible")) = some true
  k4 : PySem.W.kitOne K (.ref (clsA K "Stuck")) (.type "ValueError") = some false
  k5 : PySem.W.kitOne K (.ref (clsA K "Stuck")) (.type "LookupError") = some false
  k6 : PySem.W.kitOne K (.ref (clsA K "Stuck")) (.type "ArithmeticError") = some true
  k7 : PySem.W.kitOne K (.ref (clsA K "Stuck")) (.ref (clsA K "InvalidIndex")) = some false
  k8 : PySem.W.kitOne K (.ref (clsA K "Stuck")) (.ref (clsA K "Stuck")) = some true
  k9 : PySem.W.kitOne K (.ref (clsA K "Stuck")) (.ref (clsA K "NothingToUndo")) = some false
  d_take : ∃ f fd, FunD K "take" "Lead.take" (defArgs (meth 56 7)) (defBody (meth 56 7)) (defScope (meth 56 7)) [] [] f fd ∧ Meth K (ldC K) "take" f
  d_answer : DefK K mg "_law_answer" (top 68)
  d_sort : DefK K mg "_law_sort" (top 83)
  d_right : DefK K mg "_law_right" (top 84)
  d_built : DefK K mg "_law_built" (top 67)
  d_begun : DefK K mg "_law_begun" (top 58)
  d_cast : DefK K mg "_law_cast" (top 59)
  d_parts : DefK K mg "branch_parts" (top 43)
  d_undo : ∃ f fd, FunD K "undo" "Lead.undo" (defArgs (meth 56 8)) (defBody (meth 56 8)) (defScope (meth 56 8)) [] [] f fd ∧ Meth K (ldC K) "undo" f
  nX : PySem.W.excIn K (clsA K "NothingToUndo") [.type "ArithmeticError", .type "Exception", .type "BaseException", .type "object"] "ArithmeticError.__new__" = true
  nB : PySem.W.subIn K (.ref (clsA K "NothingToUndo")) (.type "BaseException") = some true
  nS : PySem.W.subIn K (.ref (clsA K "NothingToUndo")) (.ref (clsA K "NothingToUndo")) = some true
  nT : PySem.W.typeIn K (.ref (clsA K "NothingToUndo")) = some (.type "type")
  nQ : ExcQ K (clsA K "NothingToUndo")
  nx3 : PySem.W.exmAny K (.ref (clsA K "NothingToUndo")) [.ref (clsA K "WrongValue"), .ref (clsA K "WrongName"), .ref (clsA K "NotPossible")] = some true
  n1 : PySem.W.kitOne K (.ref (clsA K "NothingToUndo")) (.ref (clsA K "WrongValue")) = some false
  n2 : PySem.W.kitOne K (.ref (clsA K "NothingToUndo")) (.ref (clsA K "WrongName")) = some false
  n3 : PySem.W.kitOne K (.ref (clsA K "NothingToUndo")) (.ref (clsA K "NotPossible")) = some true
  n4 : PySem.W.kitOne K (.ref (clsA K "NothingToUndo")) (.type "ValueError") = some false
  n5 : PySem.W.kitOne K (.ref (clsA K "NothingToUndo")) (.type "LookupError") = some false
  n6 : PySem.W.kitOne K (.ref (clsA K "NothingToUndo")) (.type "ArithmeticError") = some true
  n7 : PySem.W.kitOne K (.ref (clsA K "NothingToUndo")) (.ref (clsA K "InvalidIndex")) = some false
  n8 : PySem.W.kitOne K (.ref (clsA K "NothingToUndo")) (.ref (clsA K "Stuck")) = some false
  n9 : PySem.W.kitOne K (.ref (clsA K "NothingToUndo")) (.ref (clsA K "NothingToUndo")) = some true
variable {P : Program} {w : World} {K : PySem.W.Frag} {mg : Str → Option Value} {base : Heap}
abbrev N_is_integer : List Str := ["value"]
abbrev scope_is_integer : Scope := defScope (top 24)
theorem sc_is_integer : FnScope N_is_integer ["value"] scope_is_integer := ⟨rfl, rfl, rfl, by decide +kernel, rfl, by decide +kernel, by decide +kernel⟩
theorem b_is_integer (E : Fx K mg)  : Body P w K mg base N_is_integer "is_integer" scope_is_integer 0 (defBody (top 24)) t_is_integer := fun f cdv A outer s H E' p G hr => by
  have nd := sc_is_integer.nd
  exact (sd_one (sd_ret (pd_and (pd_isi .int (pd_var 0) (by rfl) (by exact E.isinstance) (by rfl) (by exact E.int) (by exact bt_int)) (pd_one (pd_not (pd_isi .bool (pd_var 0) (by rfl) (by exact E.isinstance) (by rfl) (by exact E.bool) (by exact bt_bool)))))))
theorem c_is_integer (E : Fx K mg)  : C8.Cal P w K mg base 1 "is_integer" (spOf K S_is_integer) [] := by
  obtain ⟨f, fd, F, hm⟩ := E.f_is_integer
  exact cal_ok F hm sc_is_integer (fun _ _ _ _ _ _ us hl => match us, hl with | [_], _ => rfl) (fun xs P h => len_S_is_integer h) (by decide) (fun cdv A outer s H E' p G hr => b_is_integer E  f cdv A outer s H E' p G hr) d_is_integer
abbrev N_is_name : List Str := ["value", "sign"]
abbrev scope_is_name : Scope := defScope (top 25)
theorem sc_is_name : FnScope N_is_name ["value"] scope_is_name := ⟨rfl, rfl, rfl, by decide +kernel, rfl, by decide +kernel, by decide +kernel⟩
theorem b_is_name (E : Fx K mg)  : Body P w K mg base N_is_name "is_name" scope_is_name 0 (defBody (top 25)) t_is_name := fun f cdv A outer s H E' p G hr => by
  have nd := sc_is_name.nd
  exact (sd_cons (sd_if (PW.pt (wd_or (td_not (td_val (pd_isi .str (pd_var 0) (by rfl) (by exact E.isinstance) (by rfl) (by exact E.str) (by exact bt_str)))) (wd_or (td_not (td_chain op_le lr_le op_le lr_le pd_int (pd_fn call_len lc_len (by rfl) (by exact E.len) bt_len (ad_cons (pd_var 0) ad_nil)) pd_int)) (wd_or1 (td_cmp op_notIn_sign lr_notins (pd_ix (pd_var 0) pd_int) (pd_gstr (by exact E.c_LETTERS))))))) (sd_one (sd_ret pd_bl)) sd_nil)
    (sd_one (sd_ret (pd_fn (cr_all rfl) lc_all (by rfl) (by exact E.all) bt_all (ad_cons (pd_l (pl_lc (own := [("sign", 1)]) (g := (gName 1)) rfl nd (id_str (pd_var 0)) (blkOk_by (N := N_is_name) (sc := scope_is_name) (by decide +kernel)) (g_name 1) (by decide) (fun _ _ _ _ _ => (pg_name (i := 1) nd rfl (by first | exact Or.inl rfl | exact Or.inr rfl))) (fun _ _ _ _ _ => tsd_nil) (fun _ _ _ _ _ => (pd_or (pd_cmp op_in_sign lr_ins (pd_var 1) (pd_gstr (by exact E.c_LETTERS))) (pd_one (pd_cmp op_in_sign lr_ins (pd_var 1) (pd_gstr (by exact E.c_DIGITS)))))))) ad_nil)))))
theorem c_is_name (E : Fx K mg)  : C8.Cal P w K mg base 1 "is_name" (spOf K S_is_name) [] := by
  obtain ⟨f, fd, F, hm⟩ := E.f_is_name
  exact cal_ok F hm sc_is_name (fun _ _ _ _ _ _ us hl => match us, hl with | [_], _ => rfl) (fun xs P h => len_S_is_name h) (by decide) (fun cdv A outer s H E' p G hr => b_is_name E  f cdv A outer s H E' p G hr) d_is_name
abbrev N_are_integers : List Str := ["value", "many", "part"]
abbrev scope_are_integers : Scope := defScope (top 26)
theorem sc_are_integers : FnScope N_are_integers ["value", "many"] scope_are_integers := ⟨rfl, rfl, rfl, by decide +kernel, rfl, by decide +kernel, by decide +kernel⟩
theorem b_are_integers (E : Fx K mg) (C_is_integer : C8.Cal P w K mg base 1 "is_integer" (spOf K S_is_integer) []) : Body P w K mg base N_are_integers "are_integers" scope_are_integers 1 (defBody (top 26)) t_are_integers := fun f cdv A outer s H E' p G hr => by
  have nd := sc_are_integers.nd
  exact (sd_one (sd_ret (pd_and (pd_isi .tuple (pd_var 0) (by rfl) (by exact E.isinstance) (by rfl) (by exact E.tuple) (by exact bt_tuple)) (pd_and (pd_cmp op_eq lr_eq (pd_fn call_len lc_len (by rfl) (by exact E.len) bt_len (ad_cons (pd_var 0) ad_nil)) (pd_var 1)) (pd_one (pd_fn (cr_all rfl) lc_all (by rfl) (by exact E.all) bt_all (ad_cons (pd_l (pl_lc (own := [("part", 2)]) (g := (gName 2)) rfl nd (id_tup (pd_var 0)) (blkOk_by (N := N_are_integers) (sc := scope_are_integers) (by decide +kernel)) (g_name 2) (by decide) (fun _ _ _ _ _ => (pg_name (i := 2) nd rfl (by first | exact Or.inl rfl | exact Or.inr rfl))) (fun _ _ _ _ _ => tsd_nil) (fun _ _ _ _ _ => (pd_call C_is_integer hr (ad_cons (pd_var 2) ad_nil))))) ad_nil)))))))
theorem c_are_integers (E : Fx K mg) (C_is_integer : C8.Cal P w K mg base 1 "is_integer" (spOf K S_is_integer) []) : C8.Cal P w K mg base 2 "are_integers" (spOf K S_are_integers) [] := by
  obtain ⟨f, fd, F, hm⟩ := E.f_are_integers
  exact cal_ok F hm sc_are_integers (fun _ _ _ _ _ _ us hl => match us, hl with | [_, _], _ => rfl) (fun xs P h => len_S_are_integers h) (by decide) (fun cdv A outer s H E' p G hr => b_are_integers E C_is_integer f cdv A outer s H E' p G hr) d_are_integers
abbrev N_written_integer : List Str := ["word", "digits", "sign"]
abbrev scope_written_integer : Scope := defScope (top 27)
theorem sc_written_integer : FnScope N_written_integer ["word"] scope_written_integer := ⟨rfl, rfl, rfl, by decide +kernel, rfl, by decide +kernel, by decide +kernel⟩
theorem b_written_integer (E : Fx K mg)  : Body P w K mg base N_written_integer "written_integer" scope_written_integer 0 (defBody (top 27)) t_written_integer := fun f cdv A outer s H E' p G hr => by
  have nd := sc_written_integer.nd
  exact (sd_cons (sd_set 1 nd (pd_if (td_cmp op_eq lr_eq (pd_sls (pd_var 0) od_none (od_some pd_int)) pd_str) (pd_sls (pd_var 0) (od_some pd_int) od_none) (pd_var 0)))
    (sd_cons (sd_if (PW.pt (wd_or (td_cmp op_eq lr_eq (pd_var 1) pd_str) (wd_or (td_cmp op_gt lr_gt (pd_fn call_len lc_len (by rfl) (by exact E.len) bt_len (ad_cons (pd_var 1) ad_nil)) pd_int) (wd_or1 (td_not (td_val (pd_fn (cr_all rfl) lc_all (by rfl) (by exact E.all) bt_all (ad_cons (pd_l (pl_lc (own := [("sign", 2)]) (g := (gName 2)) rfl nd (id_str (pd_var 1)) (blkOk_by (N := N_written_integer) (sc := scope_written_integer) (by decide +kernel)) (g_name 2) (by decide) (fun _ _ _ _ _ => (pg_name (i := 2) nd rfl (by first | exact Or.inl rfl | exact Or.inr rfl))) (fun _ _ _ _ _ => tsd_nil) (fun _ _ _ _ _ => (pd_cmp op_in_sign lr_ins (pd_var 2) (pd_gstr (by exact E.c_DIGITS)))))) ad_nil)))))))) (sd_one (sd_ret pd_non)) sd_nil)
    (sd_one (sd_ret (pd_if (td_cmp op_eq lr_eq (pd_ty call_str_int lc_strI (by rfl) (by exact E.str) bt_str (ad_cons (pd_ty call_int_str lc_intS (by rfl) (by exact E.int) bt_int (ad_cons (pd_var 0) ad_nil)) ad_nil)) (pd_var 0)) (pd_ty call_int_str lc_intS (by rfl) (by exact E.int) bt_int (ad_cons (pd_var 0) ad_nil)) pd_non)))))
theorem c_written_integer (E : Fx K mg)  : C8.Cal P w K mg base 1 "written_integer" (spOf K S_written_integer) [] := by
  obtain ⟨f, fd, F, hm⟩ := E.f_written_integer
  exact cal_ok F hm sc_written_integer (fun _ _ _ _ _ _ us hl => match us, hl with | [_], _ => rfl) (fun xs P h => len_S_written_integer h) (by decide) (fun cdv A outer s H E' p G hr => b_written_integer E  f cdv A outer s H E' p G hr) d_written_integer
abbrev N_is_form : List Str := ["value", "many", "part"]
abbrev scope_is_form : Scope := defScope (top 29)
theorem sc_is_form : FnScope N_is_form ["value", "many"] scope_is_form := ⟨rfl, rfl, rfl, by decide +kernel, rfl, by decide +kernel, by decide +kernel⟩
theorem b_is_form (E : Fx K mg) (C_are_integers : C8.Cal P w K mg base 2 "are_integers" (spOf K S_are_integers) []) : Body P w K mg base N_is_form "is_form" scope_is_form 2 (defBody (top 29)) t_is_form := fun f cdv A outer s H E' p G hr => by
  have nd := sc_is_form.nd
  exact (sd_one (sd_ret (pd_and (pd_call C_are_integers hr (ad_cons (pd_var 0) (ad_cons (pd_add (pd_var 1) pd_int) ad_nil))) (pd_one (pd_fn (cr_all rfl) lc_all (by rfl) (by exact E.all) bt_all (ad_cons (pd_l (pl_lc (own := [("part", 2)]) (g := (gName 2)) rfl nd (id_tup (pd_var 0)) (blkOk_by (N := N_is_form) (sc := scope_is_form) (by decide +kernel)) (g_name 2) (by decide) (fun _ _ _ _ _ => (pg_name (i := 2) nd rfl (by first | exact Or.inl rfl | exact Or.inr rfl))) (fun _ _ _ _ _ => tsd_nil) (fun _ _ _ _ _ => (pd_cmp op_le lr_le (pd_fn call_abs lc_abs (by rfl) (by exact E.abs) bt_abs (ad_cons (pd_var 2) ad_nil)) (pd_gint (by exact E.c_MOST_NUMBER)))))) ad_nil))))))
theorem c_is_form (E : Fx K mg) (C_are_integers : C8.Cal P w K mg base 2 "are_integers" (spOf K S_are_integers) []) : C8.Cal P w K mg base 3 "is_form" (spOf K S_is_form) [] := by
  obtain ⟨f, fd, F, hm⟩ := E.f_is_form
  exact cal_ok F hm sc_is_form (fun _ _ _ _ _ _ us hl => match us, hl with | [_, _], _ => rfl) (fun xs P h => len_S_is_form h) (by decide) (fun cdv A outer s H E' p G hr => b_is_form E C_are_integers f cdv A outer s H E' p G hr) d_is_form
abbrev N_is_saying : List Str := ["value", "many"]
abbrev scope_is_saying : Scope := defScope (top 30)
theorem sc_is_saying : FnScope N_is_saying ["value", "many"] scope_is_saying := ⟨rfl, rfl, rfl, by decide +kernel, rfl, by decide +kernel, by decide +kernel⟩
theorem b_is_saying (E : Fx K mg) (C_is_name : C8.Cal P w K mg base 1 "is_name" (spOf K S_is_name) []) (C_is_form : C8.Cal P w K mg base 3 "is_form" (spOf K S_is_form) []) : Body P w K mg base N_is_saying "is_saying" scope_is_saying 3 (defBody (top 30)) t_is_saying := fun f cdv A outer s H E' p G hr => by
  have nd := sc_is_saying.nd
  exact (sd_cons (sd_if (PW.pt (wd_or (td_not (td_val (pd_isi .tuple (pd_var 0) (by rfl) (by exact E.isinstance) (by rfl) (by exact E.tuple) (by exact bt_tuple)))) (wd_or1 (td_cmp op_ne lr_ne (pd_fn call_len lc_len (by rfl) (by exact E.len) bt_len (ad_cons (pd_var 0) ad_nil)) pd_int)))) (sd_one (sd_ret pd_bl)) sd_nil)
    (sd_one (sd_ret (pd_and (pd_call C_is_name hr (ad_cons (pd_ix (pd_var 0) pd_int) ad_nil)) (pd_one (pd_call C_is_form hr (ad_cons (pd_ix (pd_var 0) pd_int) (ad_cons (pd_var 1) ad_nil))))))))
theorem c_is_saying (E : Fx K mg) (C_is_name : C8.Cal P w K mg base 1 "is_name" (spOf K S_is_name) []) (C_is_form : C8.Cal P w K mg base 3 "is_form" (spOf K S_is_form) []) : C8.Cal P w K mg base 4 "is_saying" (spOf K S_is_saying) [] := by
  obtain ⟨f, fd, F, hm⟩ := E.f_is_saying
  exact cal_ok F hm sc_is_saying (fun _ _ _ _ _ _ us hl => match us, hl with | [_, _], _ => rfl) (fun xs P h => len_S_is_saying h) (by decide) (fun cdv A outer s H E' p G hr => b_is_saying E C_is_name C_is_form f cdv A outer s H E' p G hr) d_is_saying
abbrev N_is_branch : List Str := ["value", "many", "form"]
abbrev scope_is_branch : Scope := defScope (top 31)
theorem sc_is_branch : FnScope N_is_branch ["value", "many"] scope_is_branch := ⟨rfl, rfl, rfl, by decide +kernel, rfl, by decide +kernel, by decide +kernel⟩
theorem b_is_branch (E : Fx K mg) (C_is_name : C8.Cal P w K mg base 1 "is_name" (spOf K S_is_name) []) (C_is_form : C8.Cal P w K mg base 3 "is_form" (spOf K S_is_form) []) : Body P w K mg base N_is_branch "is_branch" scope_is_branch 3 (defBody (top 31)) t_is_branch := fun f cdv A outer s H E' p G hr => by
  have nd := sc_is_branch.nd
  exact (sd_cons (sd_if (PW.pt (wd_or (td_not (td_val (pd_isi .tuple (pd_var 0) (by rfl) (by exact E.isinstance) (by rfl) (by exact E.tuple) (by exact bt_tuple)))) (wd_or (td_cmp op_ne lr_ne (pd_fn call_len lc_len (by rfl) (by exact E.len) bt_len (ad_cons (pd_var 0) ad_nil)) pd_int) (wd_or (td_not (td_val (pd_call C_is_name hr (ad_cons (pd_ix (pd_var 0) pd_int) ad_nil)))) (wd_or1 (td_not (td_val (pd_call C_is_name hr (ad_cons (pd_ix (pd_var 0) pd_int) ad_nil))))))))) (sd_one (sd_ret pd_bl)) sd_nil)
    (sd_cons (sd_if (PW.pt (wd_or (td_not (td_val (pd_isi .tuple (pd_ix (pd_var 0) pd_int) (by rfl) (by exact E.isinstance) (by rfl) (by exact E.tuple) (by exact bt_tuple)))) (wd_or1 (td_not (td_val (pd_isi .tuple (pd_ix (pd_var 0) pd_int) (by rfl) (by exact E.isinstance) (by rfl) (by exact E.tuple) (by exact bt_tuple))))))) (sd_one (sd_ret pd_bl)) sd_nil)
    (sd_cons (sd_if (PW.pt (wd_or (td_cmp op_gt lr_gt (pd_fn call_len lc_len (by rfl) (by exact E.len) bt_len (ad_cons (pd_ix (pd_var 0) pd_int) ad_nil)) (pd_gint (by exact E.c_MOST_TESTS))) (wd_or1 (td_cmp op_ne lr_ne (pd_fn call_len lc_len (by rfl) (by exact E.len) bt_len (ad_cons (pd_ix (pd_var 0) pd_int) ad_nil)) (pd_var 1))))) (sd_one (sd_ret pd_bl)) sd_nil)
    (sd_one (sd_ret (pd_fn (cr_all rfl) lc_all (by rfl) (by exact E.all) bt_all (ad_cons (pd_l (pl_lc (own := [("form", 2)]) (g := (gName 2)) rfl nd (id_tup (pd_tup (ad_star (pd_ix (pd_var 0) pd_int) (ad_star (pd_ix (pd_var 0) pd_int) ad_nil)))) (blkOk_by (N := N_is_branch) (sc := scope_is_branch) (by decide +kernel)) (g_name 2) (by decide) (fun _ _ _ _ _ => (pg_name (i := 2) nd rfl (by first | exact Or.inl rfl | exact Or.inr rfl))) (fun _ _ _ _ _ => tsd_nil) (fun _ _ _ _ _ => (pd_call C_is_form hr (ad_cons (pd_var 2) (ad_cons (pd_var 1) ad_nil)))))) ad_nil)))))))
theorem c_is_branch (E : Fx K mg) (C_is_name : C8.Cal P w K mg base 1 "is_name" (spOf K S_is_name) []) (C_is_form : C8.Cal P w K mg base 3 "is_form" (spOf K S_is_form) []) : C8.Cal P w K mg base 4 "is_branch" (spOf K S_is_branch) [] := by
  obtain ⟨f, fd, F, hm⟩ := E.f_is_branch
  exact cal_ok F hm sc_is_branch (fun _ _ _ _ _ _ us hl => match us, hl with | [_, _], _ => rfl) (fun xs P h => len_S_is_branch h) (by decide) (fun cdv A outer s H E' p G hr => b_is_branch E C_is_name C_is_form f cdv A outer s H E' p G hr) d_is_branch
abbrev N_wrong_name : List Str := ["value", "at", "name"]
abbrev scope_wrong_name : Scope := defScope (top 32)
theorem sc_wrong_name : FnScope N_wrong_name ["value"] scope_wrong_name := ⟨rfl, rfl, rfl, by decide +kernel, rfl, by decide +kernel, by decide +kernel⟩
theorem b_wrong_name (E : Fx K mg) (C_is_name : C8.Cal P w K mg base 1 "is_name" (spOf K S_is_name) []) : Body P w K mg base N_wrong_name "wrong_name" scope_wrong_name 1 (defBody (top 32)) t_wrong_name := fun f cdv A outer s H E' p G hr => by
  have nd := sc_wrong_name.nd
  exact (sd_cons (sd_if (PW.pt (wd_or (td_not (td_val (pd_isi .tuple (pd_var 0) (by rfl) (by exact E.isinstance) (by rfl) (by exact E.tuple) (by exact bt_tuple)))) (wd_or1 (td_cmp op_eq lr_eq (pd_fn call_len lc_len (by rfl) (by exact E.len) bt_len (ad_cons (pd_var 0) ad_nil)) pd_int)))) (sd_one (sd_ret (pd_neg pd_int))) sd_nil)
    (sd_cons (sd_for (g := (gTup K 2 (gNames [1, 2]))) PassesOwn.never rfl (id_enT (by rfl) (by exact E.enumerate) (ad_cons (pd_var 0) ad_nil)) (pg_tup rfl (pgs_cons (pg_name (i := 1) nd rfl (by first | exact Or.inl rfl | exact Or.inr rfl)) (pgs_cons (pg_name (i := 2) nd rfl (by first | exact Or.inl rfl | exact Or.inr rfl)) pgs_nil))) (g_tup [1, 2] 2 rfl) (fun G => (sd_one (sd_if (PW.pt (wd_or (td_cmp op_eq lr_eq (pd_var 1) (pd_gint (by exact E.c_MOST_VARIABLES))) (wd_or (td_not (td_val (pd_call C_is_name hr (ad_cons (pd_var 2) ad_nil)))) (wd_or1 (td_cmp op_in_seq (lr_in (neg := false)) (pd_var 2) (pd_slt (pd_var 0) od_none (od_some (pd_var 1)))))))) (sd_one (sd_ret (pd_var 1))) sd_nil))))
    (sd_one (sd_ret pd_non))))
theorem c_wrong_name (E : Fx K mg) (C_is_name : C8.Cal P w K mg base 1 "is_name" (spOf K S_is_name) []) : C8.Cal P w K mg base 2 "wrong_name" (spOf K S_wrong_name) [] := by
  obtain ⟨f, fd, F, hm⟩ := E.f_wrong_name
  exact cal_ok F hm sc_wrong_name (fun _ _ _ _ _ _ us hl => match us, hl with | [_], _ => rfl) (fun xs P h => len_S_wrong_name h) (by decide) (fun cdv A outer s H E' p G hr => b_wrong_name E C_is_name f cdv A outer s H E' p G hr) d_wrong_name
abbrev N_wrong_saying : List Str := ["value", "many", "at", "saying"]
abbrev scope_wrong_saying : Scope := defScope (top 33)
theorem sc_wrong_saying : FnScope N_wrong_saying ["value", "many"] scope_wrong_saying := ⟨rfl, rfl, rfl, by decide +kernel, rfl, by decide +kernel, by decide +kernel⟩
theorem b_wrong_saying (E : Fx K mg) (C_is_saying : C8.Cal P w K mg base 4 "is_saying" (spOf K S_is_saying) []) : Body P w K mg base N_wrong_saying "wrong_saying" scope_wrong_saying 4 (defBody (top 33)) t_wrong_saying := fun f cdv A outer s H E' p G hr => by
  have nd := sc_wrong_saying.nd
  exact (sd_cons (sd_if (td_not (td_val (pd_isi .tuple (pd_var 0) (by rfl) (by exact E.isinstance) (by rfl) (by exact E.tuple) (by exact bt_tuple)))) (sd_one (sd_ret (pd_neg pd_int))) sd_nil)
    (sd_cons (sd_for (g := (gTup K 2 (gNames [2, 3]))) PassesOwn.never rfl (id_enT (by rfl) (by exact E.enumerate) (ad_cons (pd_var 0) ad_nil)) (pg_tup rfl (pgs_cons (pg_name (i := 2) nd rfl (by first | exact Or.inl rfl | exact Or.inr rfl)) (pgs_cons (pg_name (i := 3) nd rfl (by first | exact Or.inl rfl | exact Or.inr rfl)) pgs_nil))) (g_tup [2, 3] 2 rfl) (fun G => (sd_one (sd_if (PW.pt (wd_or (td_cmp op_eq lr_eq (pd_var 2) (pd_gint (by exact E.c_MOST_SAYINGS))) (wd_or1 (td_not (td_val (pd_call C_is_saying hr (ad_cons (pd_var 3) (ad_cons (pd_var 1) ad_nil)))))))) (sd_one (sd_ret (pd_var 2))) sd_nil))))
    (sd_one (sd_ret pd_non))))
theorem c_wrong_saying (E : Fx K mg) (C_is_saying : C8.Cal P w K mg base 4 "is_saying" (spOf K S_is_saying) []) : C8.Cal P w K mg base 5 "wrong_saying" (spOf K S_wrong_saying) [] := by
  obtain ⟨f, fd, F, hm⟩ := E.f_wrong_saying
  exact cal_ok F hm sc_wrong_saying (fun _ _ _ _ _ _ us hl => match us, hl with | [_, _], _ => rfl) (fun xs P h => len_S_wrong_saying h) (by decide) (fun cdv A outer s H E' p G hr => b_wrong_saying E C_is_saying f cdv A outer s H E' p G hr) d_wrong_saying
abbrev N_places_in : List Str := ["sayings", "branches", "found", "place", "form", "source", "target", "tests", "changes", "at"]
abbrev scope_places_in : Scope := defScope (top 34)
theorem sc_places_in : FnScope N_places_in ["sayings", "branches"] scope_places_in := ⟨rfl, rfl, rfl, by decide +kernel, rfl, by decide +kernel, by decide +kernel⟩
theorem b_places_in (E : Fx K mg)  : Body P w K mg base N_places_in "places_in" scope_places_in 0 (defBody (top 34)) t_places_in := fun f cdv A outer s H E' p G hr => by
  have nd := sc_places_in.nd
  exact (sd_cons (sd_setO 2 nd (pl_lst ad_nil))
    (sd_cons (sd_for (g := (gTup K 2 (gNames [3, 4]))) PassesOwn.never rfl (id_tup (pd_var 0)) (pg_tup rfl (pgs_cons (pg_name (i := 3) nd rfl (by first | exact Or.inl rfl | exact Or.inr rfl)) (pgs_cons (pg_name (i := 4) nd rfl (by first | exact Or.inl rfl | exact Or.inr rfl)) pgs_nil))) (g_tup [3, 4] 2 rfl) (fun G => (sd_one (sd_app 2 (pd_var 3)))))
    (sd_cons (sd_for (g := (gTup K 4 (gNames [5, 6, 7, 8]))) PassesOwn.never rfl (id_tup (pd_var 1)) (pg_tup rfl (pgs_cons (pg_name (i := 5) nd rfl (by first | exact Or.inl rfl | exact Or.inr rfl)) (pgs_cons (pg_name (i := 6) nd rfl (by first | exact Or.inl rfl | exact Or.inr rfl)) (pgs_cons (pg_name (i := 7) nd rfl (by first | exact Or.inl rfl | exact Or.inr rfl)) (pgs_cons (pg_name (i := 8) nd rfl (by first | exact Or.inl rfl | exact Or.inr rfl)) pgs_nil))))) (g_tup [5, 6, 7, 8] 4 rfl) (fun G => (sd_one (sd_ext 2 (pd_l (pl_lst (ad_cons (pd_var 5) (ad_cons (pd_var 6) ad_nil))))))))
    (sd_one (sd_fz 2 (sd_ret (pd_ty call_tuple_of lc_tuple (by rfl) (by exact E.tuple) bt_tuple (ad_cons (pd_l (pl_lc (own := [("at", 9), ("place", 3)]) (g := (gTup K 2 (gNames [9, 3]))) rfl nd (id_enL (by rfl) (by exact E.enumerate) (ad_cons (pd_var 2) ad_nil)) (blkOk_by (N := N_places_in) (sc := scope_places_in) (by decide +kernel)) (g_tup [9, 3] 2 rfl) (by decide) (fun _ _ _ _ _ => (pg_tup rfl (pgs_cons (pg_name (i := 9) nd rfl (by first | exact Or.inl rfl | exact Or.inr rfl)) (pgs_cons (pg_name (i := 3) nd rfl (by first | exact Or.inl rfl | exact Or.inr rfl)) pgs_nil)))) (fun _ _ _ _ _ => (tsd_one (td_cmp op_notIn_seq (lr_in (neg := true)) (pd_var 3) (pd_l (pl_sl (pd_var 2) od_none (od_some (pd_var 9))))))) (fun _ _ _ _ _ => (pd_var 3)))) ad_nil))))))))
theorem c_places_in (E : Fx K mg)  : C8.Cal P w K mg base 1 "places_in" (spOf K S_places_in) [] := by
  obtain ⟨f, fd, F, hm⟩ := E.f_places_in
  exact cal_ok F hm sc_places_in (fun _ _ _ _ _ _ us hl => match us, hl with | [_, _], _ => rfl) (fun xs P h => len_S_places_in h) (by decide) (fun cdv A outer s H E' p G hr => b_places_in E  f cdv A outer s H E' p G hr) d_places_in
abbrev N_Program__places : List Str := ["self"]
abbrev scope_Program__places : Scope := defScope (meth 38 6)
theorem sc_Program__places : FnScope N_Program__places ["self"] scope_Program__places := ⟨rfl, rfl, rfl, by decide +kernel, rfl, by decide +kernel, by decide +kernel⟩
theorem b_Program__places (E : Fx K mg) (C_places_in : C8.Cal P w K mg base 1 "places_in" (spOf K S_places_in) []) : Body P w K mg base N_Program__places "Program.places" scope_Program__places 1 (defBody (meth 38 6)) t_Program__places := fun f cdv A outer s H E' p G hr => by
  have nd := sc_Program__places.nd
  exact (sd_one (sd_ret (pd_call C_places_in hr (ad_cons (pd_pS (by exact E.pr) (pd_var 0)) (ad_cons (pd_pB (by exact E.pr) (pd_var 0)) ad_nil)))))
theorem k_Program__places (E : Fx K mg) (C_places_in : C8.Cal P w K mg base 1 "places_in" (spOf K S_places_in) []) {f : Addr} {fd : FuncData} (F : FunD K "places" "Program.places" (defArgs (meth 38 6)) (defBody (meth 38 6)) (defScope (meth 38 6)) [] [] f fd) : FnOk P w K mg base C8.CX0 2 f fd ["self"] (spOf K S_Program__places) ∧ L2.Binds K fd ["self"] [] :=
  ⟨fn_ok F sc_Program__places (fun xs P h => len_S_Program__places h) (by decide) (fun cdv A outer s H E' p G hr => b_Program__places E C_places_in f cdv A outer s H E' p G hr) d_Program__places, F.bindsN (fun _ _ _ _ _ _ us hl => match us, hl with | [_], _ => rfl)⟩
theorem c_Program__places (E : Fx K mg) (C_places_in : C8.Cal P w K mg base 1 "places_in" (spOf K S_places_in) []) : PrpC P w K mg base 2 "places" S_Program__places := by
  obtain ⟨p, g, fd, hp, F⟩ := E.p_Program__places
  obtain ⟨h1, h2⟩ := k_Program__places (P := P) (w := w) (base := base) E C_places_in F
  exact ⟨p, g, E.pr.cls, hp.at_, hp.get, hp.tak, hp.rec_, raw_ok h1 h2⟩
abbrev N_wrong_branch : List Str := ["sayings", "value", "many", "at", "branch"]
abbrev scope_wrong_branch : Scope := defScope (top 35)
theorem sc_wrong_branch : FnScope N_wrong_branch ["sayings", "value", "many"] scope_wrong_branch := ⟨rfl, rfl, rfl, by decide +kernel, rfl, by decide +kernel, by decide +kernel⟩
theorem b_wrong_branch (E : Fx K mg) (C_is_branch : C8.Cal P w K mg base 4 "is_branch" (spOf K S_is_branch) []) (C_places_in : C8.Cal P w K mg base 1 "places_in" (spOf K S_places_in) []) : Body P w K mg base N_wrong_branch "wrong_branch" scope_wrong_branch 4 (defBody (top 35)) t_wrong_branch := fun f cdv A outer s H E' p G hr => by
  have nd := sc_wrong_branch.nd
  exact (sd_cons (sd_if (PW.pt (wd_or (td_not (td_val (pd_isi .tuple (pd_var 1) (by rfl) (by exact E.isinstance) (by rfl) (by exact E.tuple) (by exact bt_tuple)))) (wd_or1 (td_cmp op_eq lr_eq (pd_fn call_len lc_len (by rfl) (by exact E.len) bt_len (ad_cons (pd_var 1) ad_nil)) pd_int)))) (sd_one (sd_ret (pd_neg pd_int))) sd_nil)
    (sd_cons (sd_for (g := (gTup K 2 (gNames [3, 4]))) PassesOwn.never rfl (id_enT (by rfl) (by exact E.enumerate) (ad_cons (pd_var 1) ad_nil)) (pg_tup rfl (pgs_cons (pg_name (i := 3) nd rfl (by first | exact Or.inl rfl | exact Or.inr rfl)) (pgs_cons (pg_name (i := 4) nd rfl (by first | exact Or.inl rfl | exact Or.inr rfl)) pgs_nil))) (g_tup [3, 4] 2 rfl) (fun G => (sd_cons (sd_if (PW.pt (wd_or (td_cmp op_eq lr_eq (pd_var 3) (pd_gint (by exact E.c_MOST_BRANCHES))) (wd_or1 (td_not (td_val (pd_call C_is_branch hr (ad_cons (pd_var 4) (ad_cons (pd_var 2) ad_nil)))))))) (sd_one (sd_ret (pd_var 3))) sd_nil)
    (sd_one (sd_if (td_cmp op_gt lr_gt (pd_fn call_len lc_len (by rfl) (by exact E.len) bt_len (ad_cons (pd_call C_places_in hr (ad_cons (pd_var 0) (ad_cons (pd_slt (pd_var 1) od_none (od_some (pd_add (pd_var 3) pd_int))) ad_nil))) ad_nil)) (pd_gint (by exact E.c_MOST_PLACES))) (sd_one (sd_ret (pd_var 3))) sd_nil)))))
    (sd_one (sd_ret pd_non))))
theorem c_wrong_branch (E : Fx K mg) (C_is_branch : C8.Cal P w K mg base 4 "is_branch" (spOf K S_is_branch) []) (C_places_in : C8.Cal P w K mg base 1 "places_in" (spOf K S_places_in) []) : C8.Cal P w K mg base 5 "wrong_branch" (spOf K S_wrong_branch) [] := by
  obtain ⟨f, fd, F, hm⟩ := E.f_wrong_branch
  exact cal_ok F hm sc_wrong_branch (fun _ _ _ _ _ _ us hl => match us, hl with | [_, _, _], _ => rfl) (fun xs P h => len_S_wrong_branch h) (by decide) (fun cdv A outer s H E' p G hr => b_wrong_branch E C_is_branch C_places_in f cdv A outer s H E' p G hr) d_wrong_branch
abbrev N_Program____len__ : List Str := ["self"]
abbrev scope_Program____len__ : Scope := defScope (meth 38 10)
theorem sc_Program____len__ : FnScope N_Program____len__ ["self"] scope_Program____len__ := ⟨rfl, rfl, rfl, by decide +kernel, rfl, by decide +kernel, by decide +kernel⟩
theorem b_Program____len__ (E : Fx K mg)  : Body P w K mg base N_Program____len__ "Program.__len__" scope_Program____len__ 0 (defBody (meth 38 10)) t_Program____len__ := fun f cdv A outer s H E' p G hr => by
  have nd := sc_Program____len__.nd
  exact (sd_one (sd_ret (pd_fn call_len lc_len (by rfl) (by exact E.len) bt_len (ad_cons (pd_pB (by exact E.pr) (pd_var 0)) ad_nil))))
theorem k_Program____len__ (E : Fx K mg)  {f : Addr} {fd : FuncData} (F : FunD K "__len__" "Program.__len__" (defArgs (meth 38 10)) (defBody (meth 38 10)) (defScope (meth 38 10)) [] [] f fd) : FnOk P w K mg base C8.CX0 1 f fd ["self"] (spOf K S_Program____len__) ∧ L2.Binds K fd ["self"] [] :=
  ⟨fn_ok F sc_Program____len__ (fun xs P h => len_S_Program____len__ h) (by decide) (fun cdv A outer s H E' p G hr => b_Program____len__ E  f cdv A outer s H E' p G hr) d_Program____len__, F.bindsN (fun _ _ _ _ _ _ us hl => match us, hl with | [_], _ => rfl)⟩
theorem c_Program____len__ (E : Fx K mg)  : Spc P w K mg base 1 (progC K) "__len__" (spOf K S_Program____len__) := by
  obtain ⟨f, fd, F, hf, hi⟩ := E.m_Program____len__
  obtain ⟨h1, h2⟩ := k_Program____len__ (P := P) (w := w) (base := base) E  F
  exact ⟨f, hf, hi, raw_ok h1 h2⟩
abbrev N_form_words : List Str := ["form", "part"]
abbrev scope_form_words : Scope := defScope (top 36)
theorem sc_form_words : FnScope N_form_words ["form"] scope_form_words := ⟨rfl, rfl, rfl, by decide +kernel, rfl, by decide +kernel, by decide +kernel⟩
theorem b_form_words (E : Fx K mg)  : Body P w K mg base N_form_words "form_words" scope_form_words 0 (defBody (top 36)) t_form_words := fun f cdv A outer s H E' p G hr => by
  have nd := sc_form_words.nd
  exact (sd_one (sd_ret (pd_join pd_str (pd_l (pl_lc (own := [("part", 1)]) (g := (gName 1)) rfl nd (id_tup (pd_var 0)) (blkOk_by (N := N_form_words) (sc := scope_form_words) (by decide +kernel)) (g_name 1) (by decide) (fun _ _ _ _ _ => (pg_name (i := 1) nd rfl (by first | exact Or.inl rfl | exact Or.inr rfl))) (fun _ _ _ _ _ => tsd_nil) (fun _ _ _ _ _ => (pd_ty call_str_int lc_strI (by rfl) (by exact E.str) bt_str (ad_cons (pd_var 1) ad_nil))))))))
theorem c_form_words (E : Fx K mg)  : C8.Cal P w K mg base 1 "form_words" (spOf K S_form_words) [] := by
  obtain ⟨f, fd, F, hm⟩ := E.f_form_words
  exact cal_ok F hm sc_form_words (fun _ _ _ _ _ _ us hl => match us, hl with | [_], _ => rfl) (fun xs P h => len_S_form_words h) (by decide) (fun cdv A outer s H E' p G hr => b_form_words E  f cdv A outer s H E' p G hr) d_form_words
abbrev N_branch_lines : List Str := ["branch", "source", "target", "tests", "changes", "lines", "form"]
abbrev scope_branch_lines : Scope := defScope (top 37)
theorem sc_branch_lines : FnScope N_branch_lines ["branch"] scope_branch_lines := ⟨rfl, rfl, rfl, by decide +kernel, rfl, by decide +kernel, by decide +kernel⟩
theorem b_branch_lines (E : Fx K mg) (C_form_words : C8.Cal P w K mg base 1 "form_words" (spOf K S_form_words) []) : Body P w K mg base N_branch_lines "branch_lines" scope_branch_lines 1 (defBody (top 37)) t_branch_lines := fun f cdv A outer s H E' p G hr => by
  have nd := sc_branch_lines.nd
  exact (sd_cons (sd_asg (g := (gTup K 4 (gNames [1, 2, 3, 4]))) (pd_var 0) (pg_tup rfl (pgs_cons (pg_name (i := 1) nd rfl (by first | exact Or.inl rfl | exact Or.inr rfl)) (pgs_cons (pg_name (i := 2) nd rfl (by first | exact Or.inl rfl | exact Or.inr rfl)) (pgs_cons (pg_name (i := 3) nd rfl (by first | exact Or.inl rfl | exact Or.inr rfl)) (pgs_cons (pg_name (i := 4) nd rfl (by first | exact Or.inl rfl | exact Or.inr rfl)) pgs_nil))))) (g_tup [1, 2, 3, 4] 4 rfl))
    (sd_cons (sd_setLc 5 (own := [("form", 6)]) (g := (gName 6)) rfl nd rfl rfl (sw_true rfl rfl rfl (by decide +kernel)) (id_tup (pd_var 3)) (blkOk_by (N := N_branch_lines) (sc := scope_branch_lines) (by decide +kernel)) (g_name 6) (by decide) (fun _ _ _ _ _ => (pg_name (i := 6) nd rfl (by first | exact Or.inl rfl | exact Or.inr rfl))) (fun _ _ _ _ _ => tsd_nil) (fun _ _ _ _ _ => (pd_adds pd_str (pd_call C_form_words hr (ad_cons (pd_var 6) ad_nil)))))
    (sd_one (sd_fz 5 (sd_ret (pd_l (pl_lst (ad_cons (pd_joined (JD.cons pd_str (JD.cons (pd_fmt (pd_var 1)) (JD.cons pd_str (JD.cons (pd_fmt (pd_var 2)) JD.nil))))) (ad_star (pd_var 5) (ad_cons (pd_adds pd_str (pd_join pd_str (pd_l (pl_lc (own := [("form", 6)]) (g := (gName 6)) rfl nd (id_tup (pd_var 4)) (blkOk_by (N := N_branch_lines) (sc := scope_branch_lines) (by decide +kernel)) (g_name 6) (by decide) (fun _ _ _ _ _ => (pg_name (i := 6) nd rfl (by first | exact Or.inl rfl | exact Or.inr rfl))) (fun _ _ _ _ _ => tsd_nil) (fun _ _ _ _ _ => (pd_call C_form_words hr (ad_cons (pd_var 6) ad_nil))))))) ad_nil))))))))))
theorem c_branch_lines (E : Fx K mg) (C_form_words : C8.Cal P w K mg base 1 "form_words" (spOf K S_form_words) []) : C8.Cal P w K mg base 2 "branch_lines" (spOf K S_branch_lines) [] := by
  obtain ⟨f, fd, F, hm⟩ := E.f_branch_lines
  exact cal_ok F hm sc_branch_lines (fun _ _ _ _ _ _ us hl => match us, hl with | [_], _ => rfl) (fun xs P h => len_S_branch_lines h) (by decide) (fun cdv A outer s H E' p G hr => b_branch_lines E C_form_words f cdv A outer s H E' p G hr) d_branch_lines
abbrev N_program_lines : List Str := ["program", "lines", "place", "form", "branch"]
abbrev scope_program_lines : Scope := defScope (top 39)
theorem sc_program_lines : FnScope N_program_lines ["program"] scope_program_lines := ⟨rfl, rfl, rfl, by decide +kernel, rfl, by decide +kernel, by decide +kernel⟩
theorem b_program_lines (E : Fx K mg) (C_form_words : C8.Cal P w K mg base 1 "form_words" (spOf K S_form_words) []) (C_branch_lines : C8.Cal P w K mg base 2 "branch_lines" (spOf K S_branch_lines) []) : Body P w K mg base N_program_lines "program_lines" scope_program_lines 2 (defBody (top 39)) t_program_lines := fun f cdv A outer s H E' p G hr => by
  have nd := sc_program_lines.nd
  exact (sd_cons (sd_setO 1 nd (pl_lst (ad_cons (pd_adds pd_str (pd_join pd_str (pd_pN (by exact E.pr) (pd_var 0)))) ad_nil)))
    (sd_cons (sd_ext 1 (pd_l (pl_lc (own := [("place", 2), ("form", 3)]) (g := (gTup K 2 (gNames [2, 3]))) rfl nd (id_tup (pd_pS (by exact E.pr) (pd_var 0))) (blkOk_by (N := N_program_lines) (sc := scope_program_lines) (by decide +kernel)) (g_tup [2, 3] 2 rfl) (by decide) (fun _ _ _ _ _ => (pg_tup rfl (pgs_cons (pg_name (i := 2) nd rfl (by first | exact Or.inl rfl | exact Or.inr rfl)) (pgs_cons (pg_name (i := 3) nd rfl (by first | exact Or.inl rfl | exact Or.inr rfl)) pgs_nil)))) (fun _ _ _ _ _ => tsd_nil) (fun _ _ _ _ _ => (pd_joined (JD.cons pd_str (JD.cons (pd_fmt (pd_var 2)) (JD.cons pd_str (JD.cons (pd_fmt (pd_call C_form_words hr (ad_cons (pd_var 3) ad_nil))) JD.nil)))))))))
    (sd_cons (sd_for (g := (gName 4)) PassesOwn.never rfl (id_tup (pd_pB (by exact E.pr) (pd_var 0))) (pg_name (i := 4) nd rfl (by first | exact Or.inl rfl | exact Or.inr rfl)) (g_name 4) (fun G => (sd_one (sd_ext 1 (pd_call C_branch_lines hr (ad_cons (pd_var 4) ad_nil))))))
    (sd_one (sd_fz 1 (sd_ret (pd_var 1)))))))
theorem c_program_lines (E : Fx K mg) (C_form_words : C8.Cal P w K mg base 1 "form_words" (spOf K S_form_words) []) (C_branch_lines : C8.Cal P w K mg base 2 "branch_lines" (spOf K S_branch_lines) []) : C8.Cal P w K mg base 3 "program_lines" (spOf K S_program_lines) [] := by
  obtain ⟨f, fd, F, hm⟩ := E.f_program_lines
  exact cal_ok F hm sc_program_lines (fun _ _ _ _ _ _ us hl => match us, hl with | [_], _ => rfl) (fun xs P h => len_S_program_lines h) (by decide) (fun cdv A outer s H E' p G hr => b_program_lines E C_form_words C_branch_lines f cdv A outer s H E' p G hr) d_program_lines
abbrev N_Program____eq__ : List Str := ["self", "other"]
abbrev scope_Program____eq__ : Scope := defScope (meth 38 11)
theorem sc_Program____eq__ : FnScope N_Program____eq__ ["self", "other"] scope_Program____eq__ := ⟨rfl, rfl, rfl, by decide +kernel, rfl, by decide +kernel, by decide +kernel⟩
theorem b_Program____eq__ (E : Fx K mg) (C_program_lines : C8.Cal P w K mg base 3 "program_lines" (spOf K S_program_lines) []) : Body P w K mg base N_Program____eq__ "Program.__eq__" scope_Program____eq__ 3 (defBody (meth 38 11)) t_Program____eq__ := fun f cdv A outer s H E' p G hr => by
  have nd := sc_Program____eq__.nd
  exact (sd_one (sd_ret (pd_and (pd_isP (by exact E.pr) (pd_var 1) (by rfl) (by exact E.isinstance) (by rfl) (by exact E.mpr)) (pd_one (pd_cmp (op_eqD hr.units) lr_eqD (pd_call C_program_lines hr (ad_cons (pd_var 0) ad_nil)) (pd_call C_program_lines hr (ad_cons (pd_var 1) ad_nil)))))))
theorem k_Program____eq__ (E : Fx K mg) (C_program_lines : C8.Cal P w K mg base 3 "program_lines" (spOf K S_program_lines) []) {f : Addr} {fd : FuncData} (F : FunD K "__eq__" "Program.__eq__" (defArgs (meth 38 11)) (defBody (meth 38 11)) (defScope (meth 38 11)) [] [] f fd) : FnOk P w K mg base C8.CX0 4 f fd ["self", "other"] (spOf K S_Program____eq__) ∧ L2.Binds K fd ["self", "other"] [] :=
  ⟨fn_ok F sc_Program____eq__ (fun xs P h => len_S_Program____eq__ h) (by decide) (fun cdv A outer s H E' p G hr => b_Program____eq__ E C_program_lines f cdv A outer s H E' p G hr) d_Program____eq__, F.bindsN (fun _ _ _ _ _ _ us hl => match us, hl with | [_, _], _ => rfl)⟩
theorem c_Program____eq__ (E : Fx K mg) (C_program_lines : C8.Cal P w K mg base 3 "program_lines" (spOf K S_program_lines) []) : EqC P w K mg base 4 S_Program____eq__ := by
  obtain ⟨f, fd, F, hf, hi⟩ := E.m_Program____eq__
  obtain ⟨h1, h2⟩ := k_Program____eq__ (P := P) (w := w) (base := base) E C_program_lines F
  exact ⟨E.nf, ⟨f, hf, hi, raw_ok h1 h2⟩⟩
abbrev N_text_form : List Str := ["words", "found", "word"]
abbrev scope_text_form : Scope := defScope (top 40)
theorem sc_text_form : FnScope N_text_form ["words"] scope_text_form := ⟨rfl, rfl, rfl, by decide +kernel, rfl, by decide +kernel, by decide +kernel⟩
theorem b_text_form (E : Fx K mg) (C_written_integer : C8.Cal P w K mg base 1 "written_integer" (spOf K S_written_integer) []) : Body P w K mg base N_text_form "text_form" scope_text_form 1 (defBody (top 40)) t_text_form := fun f cdv A outer s H E' p G hr => by
  have nd := sc_text_form.nd
  exact (sd_cons (sd_set 1 nd (pd_ty call_tuple_of lc_tuple (by rfl) (by exact E.tuple) bt_tuple (ad_cons (pd_l (pl_lc (own := [("word", 2)]) (g := (gName 2)) rfl nd (id_lst (pd_var 0)) (blkOk_by (N := N_text_form) (sc := scope_text_form) (by decide +kernel)) (g_name 2) (by decide) (fun _ _ _ _ _ => (pg_name (i := 2) nd rfl (by first | exact Or.inl rfl | exact Or.inr rfl))) (fun _ _ _ _ _ => tsd_nil) (fun _ _ _ _ _ => (pd_call C_written_integer hr (ad_cons (pd_var 2) ad_nil))))) ad_nil)))
    (sd_one (sd_ret (pd_if (td_cmp op_in_seq (lr_in (neg := false)) pd_non (pd_var 1)) pd_non (pd_var 1)))))
theorem c_text_form (E : Fx K mg) (C_written_integer : C8.Cal P w K mg base 1 "written_integer" (spOf K S_written_integer) []) : C8.Cal P w K mg base 2 "text_form" (spOf K S_text_form) [] := by
  obtain ⟨f, fd, F, hm⟩ := E.f_text_form
  exact cal_ok F hm sc_text_form (fun _ _ _ _ _ _ us hl => match us, hl with | [_], _ => rfl) (fun xs P h => len_S_text_form h) (by decide) (fun cdv A outer s H E' p G hr => b_text_form E C_written_integer f cdv A outer s H E' p G hr) d_text_form
abbrev N_text_saying : List Str := ["line", "words"]
abbrev scope_text_saying : Scope := defScope (top 41)
theorem sc_text_saying : FnScope N_text_saying ["line"] scope_text_saying := ⟨rfl, rfl, rfl, by decide +kernel, rfl, by decide +kernel, by decide +kernel⟩
theorem b_text_saying (E : Fx K mg) (C_text_form : C8.Cal P w K mg base 2 "text_form" (spOf K S_text_form) []) : Body P w K mg base N_text_saying "text_saying" scope_text_saying 2 (defBody (top 41)) t_text_saying := fun f cdv A outer s H E' p G hr => by
  have nd := sc_text_saying.nd
  exact (sd_cons (sd_set 1 nd (pd_l (pl_split (pd_var 0) pd_str)))
    (sd_one (sd_ret (pd_if (td_cmp op_gt lr_gt (pd_fn call_len lc_len (by rfl) (by exact E.len) bt_len (ad_cons (pd_var 1) ad_nil)) pd_int) (pd_tup (ad_cons (pd_ix (pd_var 1) pd_int) (ad_cons (pd_call C_text_form hr (ad_cons (pd_l (pl_sl (pd_var 1) (od_some pd_int) od_none)) ad_nil)) ad_nil))) pd_non))))
theorem c_text_saying (E : Fx K mg) (C_text_form : C8.Cal P w K mg base 2 "text_form" (spOf K S_text_form) []) : C8.Cal P w K mg base 3 "text_saying" (spOf K S_text_saying) [] := by
  obtain ⟨f, fd, F, hm⟩ := E.f_text_saying
  exact cal_ok F hm sc_text_saying (fun _ _ _ _ _ _ us hl => match us, hl with | [_], _ => rfl) (fun xs P h => len_S_text_saying h) (by decide) (fun cdv A outer s H E' p G hr => b_text_saying E C_text_form f cdv A outer s H E' p G hr) d_text_saying
abbrev N_text_branch : List Str := ["lines", "words", "line", "tests", "part"]
abbrev scope_text_branch : Scope := defScope (top 42)
theorem sc_text_branch : FnScope N_text_branch ["lines"] scope_text_branch := ⟨rfl, rfl, rfl, by decide +kernel, rfl, by decide +kernel, by decide +kernel⟩
theorem b_text_branch (E : Fx K mg) (C_text_form : C8.Cal P w K mg base 2 "text_form" (spOf K S_text_form) []) : Body P w K mg base N_text_branch "text_branch" scope_text_branch 2 (defBody (top 42)) t_text_branch := fun f cdv A outer s H E' p G hr => by
  have nd := sc_text_branch.nd
  exact (sd_cons (sd_set 1 nd (pd_l (pl_split (pd_ix (pd_var 0) pd_int) pd_str)))
    (sd_cons (sd_if (PW.pt (wd_or (td_cmp op_ne lr_ne (pd_fn call_len lc_len (by rfl) (by exact E.len) bt_len (ad_cons (pd_var 1) ad_nil)) pd_int) (wd_or (td_cmp op_ne lr_ne (pd_sls (pd_ix (pd_var 0) (pd_neg pd_int)) od_none (od_some pd_int)) pd_str) (wd_or1 (td_val (pd_fn (cr_any rfl) lc_any (by rfl) (by exact E.any) bt_any (ad_cons (pd_l (pl_lc (own := [("line", 2)]) (g := (gName 2)) rfl nd (id_lst (pd_l (pl_sl (pd_var 0) (od_some pd_int) (od_some (pd_neg pd_int))))) (blkOk_by (N := N_text_branch) (sc := scope_text_branch) (by decide +kernel)) (g_name 2) (by decide) (fun _ _ _ _ _ => (pg_name (i := 2) nd rfl (by first | exact Or.inl rfl | exact Or.inr rfl))) (fun _ _ _ _ _ => tsd_nil) (fun _ _ _ _ _ => (pd_cmp op_ne lr_ne (pd_sls (pd_var 2) od_none (od_some pd_int)) pd_str)))) ad_nil))))))) (sd_one (sd_ret pd_non)) sd_nil)
    (sd_cons (sd_set 3 nd (pd_ty call_tuple_of lc_tuple (by rfl) (by exact E.tuple) bt_tuple (ad_cons (pd_l (pl_lc (own := [("line", 2)]) (g := (gName 2)) rfl nd (id_lst (pd_l (pl_sl (pd_var 0) (od_some pd_int) (od_some (pd_neg pd_int))))) (blkOk_by (N := N_text_branch) (sc := scope_text_branch) (by decide +kernel)) (g_name 2) (by decide) (fun _ _ _ _ _ => (pg_name (i := 2) nd rfl (by first | exact Or.inl rfl | exact Or.inr rfl))) (fun _ _ _ _ _ => tsd_nil) (fun _ _ _ _ _ => (pd_call C_text_form hr (ad_cons (pd_l (pl_split (pd_sls (pd_var 2) (od_some pd_int) od_none) pd_str)) ad_nil))))) ad_nil)))
    (sd_one (sd_ret (pd_tup (ad_cons (pd_ix (pd_var 1) pd_int) (ad_cons (pd_ix (pd_var 1) pd_int) (ad_cons (pd_var 3) (ad_cons (pd_ty call_tuple_of lc_tuple (by rfl) (by exact E.tuple) bt_tuple (ad_cons (pd_l (pl_lc (own := [("part", 4)]) (g := (gName 4)) rfl nd (id_lst (pd_l (pl_split (pd_sls (pd_ix (pd_var 0) (pd_neg pd_int)) (od_some pd_int) od_none) pd_str))) (blkOk_by (N := N_text_branch) (sc := scope_text_branch) (by decide +kernel)) (g_name 4) (by decide) (fun _ _ _ _ _ => (pg_name (i := 4) nd rfl (by first | exact Or.inl rfl | exact Or.inr rfl))) (fun _ _ _ _ _ => tsd_nil) (fun _ _ _ _ _ => (pd_call C_text_form hr (ad_cons (pd_l (pl_split (pd_var 4) pd_str)) ad_nil))))) ad_nil)) ad_nil))))))))))
theorem c_text_branch (E : Fx K mg) (C_text_form : C8.Cal P w K mg base 2 "text_form" (spOf K S_text_form) []) : C8.Cal P w K mg base 3 "text_branch" (spOf K S_text_branch) [] := by
  obtain ⟨f, fd, F, hm⟩ := E.f_text_branch
  exact cal_ok F hm sc_text_branch (fun _ _ _ _ _ _ us hl => match us, hl with | [_], _ => rfl) (fun xs P h => len_S_text_branch h) (by decide) (fun cdv A outer s H E' p G hr => b_text_branch E C_text_form f cdv A outer s H E' p G hr) d_text_branch
abbrev N_text_program : List Str := ["value", "lines", "many", "line", "names", "parts", "sayings", "branches", "part"]
abbrev scope_text_program : Scope := defScope (top 44)
theorem sc_text_program : FnScope N_text_program ["value"] scope_text_program := ⟨rfl, rfl, rfl, by decide +kernel, rfl, by decide +kernel, by decide +kernel⟩
theorem b_text_program (E : Fx K mg) (C_wrong_name : C8.Cal P w K mg base 2 "wrong_name" (spOf K S_wrong_name) []) (C_wrong_saying : C8.Cal P w K mg base 5 "wrong_saying" (spOf K S_wrong_saying) []) (C_wrong_branch : C8.Cal P w K mg base 5 "wrong_branch" (spOf K S_wrong_branch) []) (C_Program : MkC P w K mg base 8 "Program" (progC K) ["names", "sayings", "branches"] S_Program) (C_text_saying : C8.Cal P w K mg base 3 "text_saying" (spOf K S_text_saying) []) (C_text_branch : C8.Cal P w K mg base 3 "text_branch" (spOf K S_text_branch) []) (C_branch_parts : C8.Cal P w K mg base 1 "branch_parts" (spOf K S_branch_parts) []) : Body P w K mg base N_text_program "text_program" scope_text_program 9 (defBody (top 44)) t_text_program := fun f cdv A outer s H E' p G hr => by
  have nd := sc_text_program.nd
  exact (sd_cons (sd_if (td_not (td_val (pd_isi .str (pd_var 0) (by rfl) (by exact E.isinstance) (by rfl) (by exact E.str) (by exact bt_str)))) (sd_one (sd_ret pd_non)) sd_nil)
    (sd_cons (sd_set 1 nd (pd_l (pl_split (pd_var 0) pd_str)))
    (sd_cons (sd_set 2 nd (pd_fn call_len lc_len (by rfl) (by exact E.len) bt_len (ad_cons (pd_l (pl_lc (own := [("line", 3)]) (g := (gName 3)) rfl nd (id_lst (pd_var 1)) (blkOk_by (N := N_text_program) (sc := scope_text_program) (by decide +kernel)) (g_name 3) (by decide) (fun _ _ _ _ _ => (pg_name (i := 3) nd rfl (by first | exact Or.inl rfl | exact Or.inr rfl))) (fun _ _ _ _ _ => (tsd_one (td_cmp op_eq lr_eq (pd_sls (pd_var 3) od_none (od_some pd_int)) pd_str))) (fun _ _ _ _ _ => (pd_var 3)))) ad_nil)))
    (sd_cons (sd_if (PW.pt (wd_or (td_cmp op_ne lr_ne (pd_sls (pd_ix (pd_var 1) pd_int) od_none (od_some pd_int)) pd_str) (wd_or1 (td_val (pd_fn (cr_any rfl) lc_any (by rfl) (by exact E.any) bt_any (ad_cons (pd_l (pl_lc (own := [("line", 3)]) (g := (gName 3)) rfl nd (id_lst (pd_l (pl_sl (pd_var 1) (od_some pd_int) (od_some (pd_add (pd_var 2) pd_int))))) (blkOk_by (N := N_text_program) (sc := scope_text_program) (by decide +kernel)) (g_name 3) (by decide) (fun _ _ _ _ _ => (pg_name (i := 3) nd rfl (by first | exact Or.inl rfl | exact Or.inr rfl))) (fun _ _ _ _ _ => tsd_nil) (fun _ _ _ _ _ => (pd_cmp op_ne lr_ne (pd_sls (pd_var 3) od_none (od_some pd_int)) pd_str)))) ad_nil)))))) (sd_one (sd_ret pd_non)) sd_nil)
    (sd_cons (sd_par 4 5 rfl nd (by decide) (ad_cons (pd_ty call_tuple_of lc_tuple (by rfl) (by exact E.tuple) bt_tuple (ad_cons (pd_l (pl_split (pd_sls (pd_ix (pd_var 1) pd_int) (od_some pd_int) od_none) pd_str)) ad_nil)) (ad_cons (pd_call C_branch_parts hr (ad_cons (pd_l (pl_sl (pd_var 1) (od_some (pd_add (pd_var 2) pd_int)) od_none)) ad_nil)) ad_nil)))
    (sd_cons (sd_if (PW.pt (wd_or (td_cmp op_isN lr_is (pd_var 5) pd_non) (wd_or1 (td_cmp op_notN lr_isnot (pd_call C_wrong_name hr (ad_cons (pd_var 4) ad_nil)) pd_non)))) (sd_one (sd_ret pd_non)) sd_nil)
    (sd_cons (sd_set 6 nd (pd_ty call_tuple_of lc_tuple (by rfl) (by exact E.tuple) bt_tuple (ad_cons (pd_l (pl_lc (own := [("line", 3)]) (g := (gName 3)) rfl nd (id_lst (pd_l (pl_sl (pd_var 1) (od_some pd_int) (od_some (pd_add (pd_var 2) pd_int))))) (blkOk_by (N := N_text_program) (sc := scope_text_program) (by decide +kernel)) (g_name 3) (by decide) (fun _ _ _ _ _ => (pg_name (i := 3) nd rfl (by first | exact Or.inl rfl | exact Or.inr rfl))) (fun _ _ _ _ _ => tsd_nil) (fun _ _ _ _ _ => (pd_call C_text_saying hr (ad_cons (pd_var 3) ad_nil))))) ad_nil)))
    (sd_cons (sd_set 7 nd (pd_ty call_tuple_of lc_tuple (by rfl) (by exact E.tuple) bt_tuple (ad_cons (pd_l (pl_lc (own := [("part", 8)]) (g := (gName 8)) rfl nd (id_lst (pd_var 5)) (blkOk_by (N := N_text_program) (sc := scope_text_program) (by decide +kernel)) (g_name 8) (by decide) (fun _ _ _ _ _ => (pg_name (i := 8) nd rfl (by first | exact Or.inl rfl | exact Or.inr rfl))) (fun _ _ _ _ _ => tsd_nil) (fun _ _ _ _ _ => (pd_call C_text_branch hr (ad_cons (pd_var 8) ad_nil))))) ad_nil)))
    (sd_cons (sd_if (PW.pt (wd_or (td_cmp op_notN lr_isnot (pd_call C_wrong_saying hr (ad_cons (pd_var 6) (ad_cons (pd_fn call_len lc_len (by rfl) (by exact E.len) bt_len (ad_cons (pd_var 4) ad_nil)) ad_nil))) pd_non) (wd_or1 (td_cmp op_notN lr_isnot (pd_call C_wrong_branch hr (ad_cons (pd_var 6) (ad_cons (pd_var 7) (ad_cons (pd_fn call_len lc_len (by rfl) (by exact E.len) bt_len (ad_cons (pd_var 4) ad_nil)) ad_nil)))) pd_non)))) (sd_one (sd_ret pd_non)) sd_nil)
    (sd_one (sd_ret (pd_mk C_Program hr (ad_cons (pd_var 4) (ad_cons (pd_var 6) (ad_cons (pd_var 7) ad_nil)))))))))))))))
theorem c_text_program (E : Fx K mg) (C_wrong_name : C8.Cal P w K mg base 2 "wrong_name" (spOf K S_wrong_name) []) (C_wrong_saying : C8.Cal P w K mg base 5 "wrong_saying" (spOf K S_wrong_saying) []) (C_wrong_branch : C8.Cal P w K mg base 5 "wrong_branch" (spOf K S_wrong_branch) []) (C_Program : MkC P w K mg base 8 "Program" (progC K) ["names", "sayings", "branches"] S_Program) (C_text_saying : C8.Cal P w K mg base 3 "text_saying" (spOf K S_text_saying) []) (C_text_branch : C8.Cal P w K mg base 3 "text_branch" (spOf K S_text_branch) []) (C_branch_parts : C8.Cal P w K mg base 1 "branch_parts" (spOf K S_branch_parts) []) : C8.Cal P w K mg base 10 "text_program" (spOf K S_text_program) [] := by
  obtain ⟨f, fd, F, hm⟩ := E.f_text_program
  exact cal_ok F hm sc_text_program (fun _ _ _ _ _ _ us hl => match us, hl with | [_], _ => rfl) (fun xs P h => len_S_text_program h) (by decide) (fun cdv A outer s H E' p G hr => b_text_program E C_wrong_name C_wrong_saying C_wrong_branch C_Program C_text_saying C_text_branch C_branch_parts f cdv A outer s H E' p G hr) d_text_program
abbrev N_value_at : List Str := ["form", "point", "k"]
abbrev scope_value_at : Scope := defScope (top 45)
theorem sc_value_at : FnScope N_value_at ["form", "point"] scope_value_at := ⟨rfl, rfl, rfl, by decide +kernel, rfl, by decide +kernel, by decide +kernel⟩
theorem b_value_at (E : Fx K mg)  : Body P w K mg base N_value_at "value_at" scope_value_at 0 (defBody (top 45)) t_value_at := fun f cdv A outer s H E' p G hr => by
  have nd := sc_value_at.nd
  exact (sd_one (sd_ret (pd_add (pd_fn (cr_sum rfl) lc_sum (by rfl) (by exact E.sum) bt_sum (ad_cons (pd_l (pl_lc (own := [("k", 2)]) (g := (gName 2)) rfl nd (id_rng1 (by rfl) (by exact E.range) (ad_cons (pd_fn call_len lc_len (by rfl) (by exact E.len) bt_len (ad_cons (pd_var 1) ad_nil)) ad_nil)) (blkOk_by (N := N_value_at) (sc := scope_value_at) (by decide +kernel)) (g_name 2) (by decide) (fun _ _ _ _ _ => (pg_name (i := 2) nd rfl (by first | exact Or.inl rfl | exact Or.inr rfl))) (fun _ _ _ _ _ => tsd_nil) (fun _ _ _ _ _ => (pd_mul (pd_ix (pd_var 0) (pd_var 2)) (pd_ix (pd_var 1) (pd_var 2)))))) ad_nil)) (pd_ix (pd_var 0) (pd_fn call_len lc_len (by rfl) (by exact E.len) bt_len (ad_cons (pd_var 1) ad_nil))))))
theorem c_value_at (E : Fx K mg)  : C8.Cal P w K mg base 1 "value_at" (spOf K S_value_at) [] := by
  obtain ⟨f, fd, F, hm⟩ := E.f_value_at
  exact cal_ok F hm sc_value_at (fun _ _ _ _ _ _ us hl => match us, hl with | [_, _], _ => rfl) (fun xs P h => len_S_value_at h) (by decide) (fun cdv A outer s H E' p G hr => b_value_at E  f cdv A outer s H E' p G hr) d_value_at
abbrev N_blocking : List Str := ["branch", "point", "at", "form"]
abbrev scope_blocking : Scope := defScope (top 51)
theorem sc_blocking : FnScope N_blocking ["branch", "point"] scope_blocking := ⟨rfl, rfl, rfl, by decide +kernel, rfl, by decide +kernel, by decide +kernel⟩
theorem b_blocking (E : Fx K mg) (C_value_at : C8.Cal P w K mg base 1 "value_at" (spOf K S_value_at) []) : Body P w K mg base N_blocking "blocking" scope_blocking 1 (defBody (top 51)) t_blocking := fun f cdv A outer s H E' p G hr => by
  have nd := sc_blocking.nd
  exact (sd_cons (sd_for (g := (gTup K 2 (gNames [2, 3]))) PassesOwn.never rfl (id_enT (by rfl) (by exact E.enumerate) (ad_cons (pd_ix (pd_var 0) pd_int) ad_nil)) (pg_tup rfl (pgs_cons (pg_name (i := 2) nd rfl (by first | exact Or.inl rfl | exact Or.inr rfl)) (pgs_cons (pg_name (i := 3) nd rfl (by first | exact Or.inl rfl | exact Or.inr rfl)) pgs_nil))) (g_tup [2, 3] 2 rfl) (fun G => (sd_one (sd_if (td_cmp op_lt lr_lt (pd_call C_value_at hr (ad_cons (pd_var 3) (ad_cons (pd_var 1) ad_nil))) pd_int) (sd_one (sd_ret (pd_var 2))) sd_nil))))
    (sd_one (sd_ret pd_non)))
theorem c_blocking (E : Fx K mg) (C_value_at : C8.Cal P w K mg base 1 "value_at" (spOf K S_value_at) []) : C8.Cal P w K mg base 2 "blocking" (spOf K S_blocking) [] := by
  obtain ⟨f, fd, F, hm⟩ := E.f_blocking
  exact cal_ok F hm sc_blocking (fun _ _ _ _ _ _ us hl => match us, hl with | [_, _], _ => rfl) (fun xs P h => len_S_blocking h) (by decide) (fun cdv A outer s H E' p G hr => b_blocking E C_value_at f cdv A outer s H E' p G hr) d_blocking
abbrev N_moved : List Str := ["branch", "point", "form"]
abbrev scope_moved : Scope := defScope (top 52)
theorem sc_moved : FnScope N_moved ["branch", "point"] scope_moved := ⟨rfl, rfl, rfl, by decide +kernel, rfl, by decide +kernel, by decide +kernel⟩
theorem b_moved (E : Fx K mg) (C_value_at : C8.Cal P w K mg base 1 "value_at" (spOf K S_value_at) []) : Body P w K mg base N_moved "moved" scope_moved 1 (defBody (top 52)) t_moved := fun f cdv A outer s H E' p G hr => by
  have nd := sc_moved.nd
  exact (sd_one (sd_ret (pd_ty call_tuple_of lc_tuple (by rfl) (by exact E.tuple) bt_tuple (ad_cons (pd_l (pl_lc (own := [("form", 2)]) (g := (gName 2)) rfl nd (id_tup (pd_ix (pd_var 0) pd_int)) (blkOk_by (N := N_moved) (sc := scope_moved) (by decide +kernel)) (g_name 2) (by decide) (fun _ _ _ _ _ => (pg_name (i := 2) nd rfl (by first | exact Or.inl rfl | exact Or.inr rfl))) (fun _ _ _ _ _ => tsd_nil) (fun _ _ _ _ _ => (pd_call C_value_at hr (ad_cons (pd_var 2) (ad_cons (pd_var 1) ad_nil)))))) ad_nil))))
theorem c_moved (E : Fx K mg) (C_value_at : C8.Cal P w K mg base 1 "value_at" (spOf K S_value_at) []) : C8.Cal P w K mg base 2 "moved" (spOf K S_moved) [] := by
  obtain ⟨f, fd, F, hm⟩ := E.f_moved
  exact cal_ok F hm sc_moved (fun _ _ _ _ _ _ us hl => match us, hl with | [_, _], _ => rfl) (fun xs P h => len_S_moved h) (by decide) (fun cdv A outer s H E' p G hr => b_moved E C_value_at f cdv A outer s H E' p G hr) d_moved
abbrev N_is_free : List Str := ["branch", "place", "point"]
abbrev scope_is_free : Scope := defScope (top 53)
theorem sc_is_free : FnScope N_is_free ["branch", "place", "point"] scope_is_free := ⟨rfl, rfl, rfl, by decide +kernel, rfl, by decide +kernel, by decide +kernel⟩
theorem b_is_free (E : Fx K mg) (C_blocking : C8.Cal P w K mg base 2 "blocking" (spOf K S_blocking) []) : Body P w K mg base N_is_free "is_free" scope_is_free 2 (defBody (top 53)) t_is_free := fun f cdv A outer s H E' p G hr => by
  have nd := sc_is_free.nd
  exact (sd_one (sd_ret (pd_and (pd_cmp op_eq lr_eq (pd_ix (pd_var 0) pd_int) (pd_var 1)) (pd_one (pd_cmp op_isN lr_is (pd_call C_blocking hr (ad_cons (pd_var 0) (ad_cons (pd_var 2) ad_nil))) pd_non)))))
theorem c_is_free (E : Fx K mg) (C_blocking : C8.Cal P w K mg base 2 "blocking" (spOf K S_blocking) []) : C8.Cal P w K mg base 3 "is_free" (spOf K S_is_free) [] := by
  obtain ⟨f, fd, F, hm⟩ := E.f_is_free
  exact cal_ok F hm sc_is_free (fun _ _ _ _ _ _ us hl => match us, hl with | [_, _, _], _ => rfl) (fun xs P h => len_S_is_free h) (by decide) (fun cdv A outer s H E' p G hr => b_is_free E C_blocking f cdv A outer s H E' p G hr) d_is_free
abbrev N_check_program : List Str := ["value"]
abbrev scope_check_program : Scope := defScope (top 46)
theorem sc_check_program : FnScope N_check_program ["value"] scope_check_program := ⟨rfl, rfl, rfl, by decide +kernel, rfl, by decide +kernel, by decide +kernel⟩
theorem b_check_program (E : Fx K mg)  : Body P w K mg base N_check_program "check_program" scope_check_program 0 (defBody (top 46)) t_check_program := fun f cdv A outer s H E' p G hr => by
  have nd := sc_check_program.nd
  exact (sd_one (sd_if (td_not (td_val (pd_isP (by exact E.pr) (pd_var 0) (by rfl) (by exact E.isinstance) (by rfl) (by exact E.mpr)))) (sd_one sd_never) sd_nil))
theorem c_check_program (E : Fx K mg)  : C8.Cal P w K mg base 1 "check_program" (spOf K S_check_program) [] := by
  obtain ⟨f, fd, F, hm⟩ := E.f_check_program
  exact cal_ok F hm sc_check_program (fun _ _ _ _ _ _ us hl => match us, hl with | [_], _ => rfl) (fun xs P h => len_S_check_program h) (by decide) (fun cdv A outer s H E' p G hr => b_check_program E  f cdv A outer s H E' p G hr) d_check_program
abbrev N_check_index : List Str := ["program", "value"]
abbrev scope_check_index : Scope := defScope (top 47)
theorem sc_check_index : FnScope N_check_index ["program", "value"] scope_check_index := ⟨rfl, rfl, rfl, by decide +kernel, rfl, by decide +kernel, by decide +kernel⟩
theorem b_check_index (E : Fx K mg) (C_is_integer : C8.Cal P w K mg base 1 "is_integer" (spOf K S_is_integer) []) (C_Program____len__ : Spc P w K mg base 1 (progC K) "__len__" (spOf K S_Program____len__)) : Body P w K mg base N_check_index "check_index" scope_check_index 2 (defBody (top 47)) t_check_index := fun f cdv A outer s H E' p G hr => by
  have nd := sc_check_index.nd
  exact (sd_one (sd_if (PW.pt (wd_or (td_not (td_val (pd_call C_is_integer hr (ad_cons (pd_var 1) ad_nil)))) (wd_or1 (td_not (td_chain op_le lr_le op_lt lr_lt pd_int (pd_var 1) (pd_lenP C_Program____len__ hS_Program____len__ hr (pd_var 0) (by rfl) (by exact E.len))))))) (sd_one sd_never) sd_nil))
theorem c_check_index (E : Fx K mg) (C_is_integer : C8.Cal P w K mg base 1 "is_integer" (spOf K S_is_integer) []) (C_Program____len__ : Spc P w K mg base 1 (progC K) "__len__" (spOf K S_Program____len__)) : C8.Cal P w K mg base 3 "check_index" (spOf K S_check_index) [] := by
  obtain ⟨f, fd, F, hm⟩ := E.f_check_index
  exact cal_ok F hm sc_check_index (fun _ _ _ _ _ _ us hl => match us, hl with | [_, _], _ => rfl) (fun xs P h => len_S_check_index h) (by decide) (fun cdv A outer s H E' p G hr => b_check_index E C_is_integer C_Program____len__ f cdv A outer s H E' p G hr) d_check_index
abbrev N_check_place : List Str := ["program", "value"]
abbrev scope_check_place : Scope := defScope (top 48)
theorem sc_check_place : FnScope N_check_place ["program", "value"] scope_check_place := ⟨rfl, rfl, rfl, by decide +kernel, rfl, by decide +kernel, by decide +kernel⟩
theorem b_check_place (E : Fx K mg) (C_Program__places : PrpC P w K mg base 2 "places" S_Program__places) : Body P w K mg base N_check_place "check_place" scope_check_place 3 (defBody (top 48)) t_check_place := fun f cdv A outer s H E' p G hr => by
  have nd := sc_check_place.nd
  exact (sd_one (sd_if (PW.pt (wd_or (td_not (td_val (pd_isi .str (pd_var 1) (by rfl) (by exact E.isinstance) (by rfl) (by exact E.str) (by exact bt_str)))) (wd_or1 (td_cmp op_notIn_seq (lr_in (neg := true)) (pd_var 1) (pd_prop C_Program__places hr (pd_var 0)))))) (sd_one sd_never) sd_nil))
theorem c_check_place (E : Fx K mg) (C_Program__places : PrpC P w K mg base 2 "places" S_Program__places) : C8.Cal P w K mg base 4 "check_place" (spOf K S_check_place) [] := by
  obtain ⟨f, fd, F, hm⟩ := E.f_check_place
  exact cal_ok F hm sc_check_place (fun _ _ _ _ _ _ us hl => match us, hl with | [_, _], _ => rfl) (fun xs P h => len_S_check_place h) (by decide) (fun cdv A outer s H E' p G hr => b_check_place E C_Program__places f cdv A outer s H E' p G hr) d_check_place
abbrev N_check_point : List Str := ["program", "value"]
abbrev scope_check_point : Scope := defScope (top 49)
theorem sc_check_point : FnScope N_check_point ["program", "value"] scope_check_point := ⟨rfl, rfl, rfl, by decide +kernel, rfl, by decide +kernel, by decide +kernel⟩
theorem b_check_point (E : Fx K mg) (C_are_integers : C8.Cal P w K mg base 2 "are_integers" (spOf K S_are_integers) []) : Body P w K mg base N_check_point "check_point" scope_check_point 2 (defBody (top 49)) t_check_point := fun f cdv A outer s H E' p G hr => by
  have nd := sc_check_point.nd
  exact (sd_one (sd_if (td_not (td_val (pd_call C_are_integers hr (ad_cons (pd_var 1) (ad_cons (pd_fn call_len lc_len (by rfl) (by exact E.len) bt_len (ad_cons (pd_pN (by exact E.pr) (pd_var 0)) ad_nil)) ad_nil))))) (sd_one sd_never) sd_nil))
theorem c_check_point (E : Fx K mg) (C_are_integers : C8.Cal P w K mg base 2 "are_integers" (spOf K S_are_integers) []) : C8.Cal P w K mg base 3 "check_point" (spOf K S_check_point) [] := by
  obtain ⟨f, fd, F, hm⟩ := E.f_check_point
  exact cal_ok F hm sc_check_point (fun _ _ _ _ _ _ us hl => match us, hl with | [_, _], _ => rfl) (fun xs P h => len_S_check_point h) (by decide) (fun cdv A outer s H E' p G hr => b_check_point E C_are_integers f cdv A outer s H E' p G hr) d_check_point
abbrev N__law_any_of : List Str := ["_law_pail", "_law_some"]
abbrev scope__law_any_of : Scope := defScope (top 60)
theorem sc__law_any_of : FnScope N__law_any_of ["_law_pail", "_law_some"] scope__law_any_of := ⟨rfl, rfl, rfl, by decide +kernel, rfl, by decide +kernel, by decide +kernel⟩
theorem b__law_any_of (E : Fx K mg) (C__law_cast : C8.Cal P w K mg base 1 "_law_cast" (spOf K S__law_cast) []) : Body P w K mg base N__law_any_of "_law_any_of" scope__law_any_of 1 (defBody (top 60)) t__law_any_of := fun f cdv A outer s H E' p G hr => by
  have nd := sc__law_any_of.nd
  exact (sd_one (sd_ret (pd_ix (pd_var 1) (pd_call C__law_cast hr (ad_cons (pd_var 0) (ad_cons (pd_fn call_len lc_len (by rfl) (by exact E.len) bt_len (ad_cons (pd_var 1) ad_nil)) ad_nil))))))
theorem c__law_any_of (E : Fx K mg) (C__law_cast : C8.Cal P w K mg base 1 "_law_cast" (spOf K S__law_cast) []) : C8.Cal P w K mg base 2 "_law_any_of" (spOf K S__law_any_of) [] := by
  obtain ⟨f, fd, F, hm⟩ := E.f__law_any_of
  exact cal_ok F hm sc__law_any_of (fun _ _ _ _ _ _ us hl => match us, hl with | [_, _], _ => rfl) (fun xs P h => len_S__law_any_of h) (by decide) (fun cdv A outer s H E' p G hr => b__law_any_of E C__law_cast f cdv A outer s H E' p G hr) d__law_any_of
abbrev N__law_tags : List Str := ["_law_pail", "_law_many", "_law_menu", "_law_at"]
abbrev scope__law_tags : Scope := defScope (top 61)
theorem sc__law_tags : FnScope N__law_tags ["_law_pail", "_law_many"] scope__law_tags := ⟨rfl, rfl, rfl, by decide +kernel, rfl, by decide +kernel, by decide +kernel⟩
theorem b__law_tags (E : Fx K mg) (C__law_cast : C8.Cal P w K mg base 1 "_law_cast" (spOf K S__law_cast) []) : Body P w K mg base N__law_tags "_law_tags" scope__law_tags 1 (defBody (top 61)) t__law_tags := fun f cdv A outer s H E' p G hr => by
  have nd := sc__law_tags.nd
  exact (sd_cons (sd_set 2 nd (pd_l (pl_lst (ad_cons pd_str (ad_cons pd_str (ad_cons pd_str (ad_cons pd_str (ad_cons pd_str (ad_cons pd_str (ad_cons pd_str (ad_cons pd_str (ad_cons pd_str (ad_cons pd_str (ad_cons pd_str (ad_cons pd_str (ad_cons pd_str (ad_cons pd_str ad_nil)))))))))))))))))
    (sd_cons (sd_set 3 nd (pd_call C__law_cast hr (ad_cons (pd_var 0) (ad_cons (pd_fn call_len lc_len (by rfl) (by exact E.len) bt_len (ad_cons (pd_var 2) ad_nil)) ad_nil))))
    (sd_one (sd_ret (pd_l (pl_sl (pd_l (pl_cat (pd_l (pl_sl (pd_var 2) (od_some (pd_var 3)) od_none)) (pd_l (pl_sl (pd_var 2) od_none (od_some (pd_var 3)))))) od_none (od_some (pd_var 1))))))))
theorem c__law_tags (E : Fx K mg) (C__law_cast : C8.Cal P w K mg base 1 "_law_cast" (spOf K S__law_cast) []) : C8.Cal P w K mg base 2 "_law_tags" (spOf K S__law_tags) [] := by
  obtain ⟨f, fd, F, hm⟩ := E.f__law_tags
  exact cal_ok F hm sc__law_tags (fun _ _ _ _ _ _ us hl => match us, hl with | [_, _], _ => rfl) (fun xs P h => len_S__law_tags h) (by decide) (fun cdv A outer s H E' p G hr => b__law_tags E C__law_cast f cdv A outer s H E' p G hr) d__law_tags
abbrev N__law_words : List Str := ["_law_some", "_law_each"]
abbrev scope__law_words : Scope := defScope (top 62)
theorem sc__law_words : FnScope N__law_words ["_law_some"] scope__law_words := ⟨rfl, rfl, rfl, by decide +kernel, rfl, by decide +kernel, by decide +kernel⟩
theorem b__law_words (E : Fx K mg)  : Body P w K mg base N__law_words "_law_words" scope__law_words 0 (defBody (top 62)) t__law_words := fun f cdv A outer s H E' p G hr => by
  have nd := sc__law_words.nd
  exact (sd_one (sd_ret (pd_join pd_str (pd_l (pl_lc (own := [("_law_each", 1)]) (g := (gName 1)) rfl nd (id_tup (pd_var 0)) (blkOk_by (N := N__law_words) (sc := scope__law_words) (by decide +kernel)) (g_name 1) (by decide) (fun _ _ _ _ _ => (pg_name (i := 1) nd rfl (by first | exact Or.inl rfl | exact Or.inr rfl))) (fun _ _ _ _ _ => tsd_nil) (fun _ _ _ _ _ => (pd_ty call_str_int lc_strI (by rfl) (by exact E.str) bt_str (ad_cons (pd_var 1) ad_nil))))))))
theorem c__law_words (E : Fx K mg)  : C8.Cal P w K mg base 1 "_law_words" (spOf K S__law_words) [] := by
  obtain ⟨f, fd, F, hm⟩ := E.f__law_words
  exact cal_ok F hm sc__law_words (fun _ _ _ _ _ _ us hl => match us, hl with | [_], _ => rfl) (fun xs P h => len_S__law_words h) (by decide) (fun cdv A outer s H E' p G hr => b__law_words E  f cdv A outer s H E' p G hr) d__law_words
abbrev N__law_arm_lines : List Str := ["_law_arm_here", "_law_near", "_law_far", "_law_asks", "_law_turns", "_law_lines_here", "_law_ask_here", "_law_turn_here"]
abbrev scope__law_arm_lines : Scope := defScope (top 63)
theorem sc__law_arm_lines : FnScope N__law_arm_lines ["_law_arm_here"] scope__law_arm_lines := ⟨rfl, rfl, rfl, by decide +kernel, rfl, by decide +kernel, by decide +kernel⟩
theorem b__law_arm_lines (E : Fx K mg) (C__law_words : C8.Cal P w K mg base 1 "_law_words" (spOf K S__law_words) []) : Body P w K mg base N__law_arm_lines "_law_arm_lines" scope__law_arm_lines 1 (defBody (top 63)) t__law_arm_lines := fun f cdv A outer s H E' p G hr => by
  have nd := sc__law_arm_lines.nd
  exact (sd_cons (sd_asg (g := (gTup K 4 (gNames [1, 2, 3, 4]))) (pd_var 0) (pg_tup rfl (pgs_cons (pg_name (i := 1) nd rfl (by first | exact Or.inl rfl | exact Or.inr rfl)) (pgs_cons (pg_name (i := 2) nd rfl (by first | exact Or.inl rfl | exact Or.inr rfl)) (pgs_cons (pg_name (i := 3) nd rfl (by first | exact Or.inl rfl | exact Or.inr rfl)) (pgs_cons (pg_name (i := 4) nd rfl (by first | exact Or.inl rfl | exact Or.inr rfl)) pgs_nil))))) (g_tup [1, 2, 3, 4] 4 rfl))
    (sd_cons (sd_set 5 nd (pd_l (pl_cat (pd_l (pl_lst (ad_cons (pd_adds (pd_adds (pd_adds pd_str (pd_var 1)) pd_str) (pd_var 2)) ad_nil))) (pd_l (pl_lc (own := [("_law_ask_here", 6)]) (g := (gName 6)) rfl nd (id_tup (pd_var 3)) (blkOk_by (N := N__law_arm_lines) (sc := scope__law_arm_lines) (by decide +kernel)) (g_name 6) (by decide) (fun _ _ _ _ _ => (pg_name (i := 6) nd rfl (by first | exact Or.inl rfl | exact Or.inr rfl))) (fun _ _ _ _ _ => tsd_nil) (fun _ _ _ _ _ => (pd_adds pd_str (pd_call C__law_words hr (ad_cons (pd_var 6) ad_nil)))))))))
    (sd_one (sd_ret (pd_l (pl_cat (pd_var 5) (pd_l (pl_lst (ad_cons (pd_adds pd_str (pd_join pd_str (pd_l (pl_lc (own := [("_law_turn_here", 7)]) (g := (gName 7)) rfl nd (id_tup (pd_var 4)) (blkOk_by (N := N__law_arm_lines) (sc := scope__law_arm_lines) (by decide +kernel)) (g_name 7) (by decide) (fun _ _ _ _ _ => (pg_name (i := 7) nd rfl (by first | exact Or.inl rfl | exact Or.inr rfl))) (fun _ _ _ _ _ => tsd_nil) (fun _ _ _ _ _ => (pd_call C__law_words hr (ad_cons (pd_var 7) ad_nil))))))) ad_nil)))))))))
theorem c__law_arm_lines (E : Fx K mg) (C__law_words : C8.Cal P w K mg base 1 "_law_words" (spOf K S__law_words) []) : C8.Cal P w K mg base 2 "_law_arm_lines" (spOf K S__law_arm_lines) [] := by
  obtain ⟨f, fd, F, hm⟩ := E.f__law_arm_lines
  exact cal_ok F hm sc__law_arm_lines (fun _ _ _ _ _ _ us hl => match us, hl with | [_], _ => rfl) (fun xs P h => len_S__law_arm_lines h) (by decide) (fun cdv A outer s H E' p G hr => b__law_arm_lines E C__law_words f cdv A outer s H E' p G hr) d__law_arm_lines
abbrev N__law_lines : List Str := ["_law_parts", "_law_lines_here", "_law_spot_here", "_law_some", "_law_arm_here"]
abbrev scope__law_lines : Scope := defScope (top 64)
theorem sc__law_lines : FnScope N__law_lines ["_law_parts"] scope__law_lines := ⟨rfl, rfl, rfl, by decide +kernel, rfl, by decide +kernel, by decide +kernel⟩
theorem b__law_lines (E : Fx K mg) (C__law_words : C8.Cal P w K mg base 1 "_law_words" (spOf K S__law_words) []) (C__law_arm_lines : C8.Cal P w K mg base 2 "_law_arm_lines" (spOf K S__law_arm_lines) []) : Body P w K mg base N__law_lines "_law_lines" scope__law_lines 2 (defBody (top 64)) t__law_lines := fun f cdv A outer s H E' p G hr => by
  have nd := sc__law_lines.nd
  exact (sd_cons (sd_setO 1 nd (pl_lst (ad_cons (pd_adds pd_str (pd_join pd_str (pd_ix (pd_var 0) pd_int))) ad_nil)))
    (sd_cons (sd_for (g := (gTup K 2 (gNames [2, 3]))) PassesOwn.never rfl (id_tup (pd_ix (pd_var 0) pd_int)) (pg_tup rfl (pgs_cons (pg_name (i := 2) nd rfl (by first | exact Or.inl rfl | exact Or.inr rfl)) (pgs_cons (pg_name (i := 3) nd rfl (by first | exact Or.inl rfl | exact Or.inr rfl)) pgs_nil))) (g_tup [2, 3] 2 rfl) (fun G => (sd_one (sd_app 1 (pd_adds (pd_adds (pd_adds pd_str (pd_var 2)) pd_str) (pd_call C__law_words hr (ad_cons (pd_var 3) ad_nil)))))))
    (sd_cons (sd_for (g := (gName 4)) PassesOwn.never rfl (id_tup (pd_ix (pd_var 0) pd_int)) (pg_name (i := 4) nd rfl (by first | exact Or.inl rfl | exact Or.inr rfl)) (g_name 4) (fun G => (sd_one (sd_setO 1 nd (pl_bor 1 (pl_cat (pd_var 1) (pd_call C__law_arm_lines hr (ad_cons (pd_var 4) ad_nil))))))))
    (sd_one (sd_fz 1 (sd_ret (pd_var 1)))))))
theorem c__law_lines (E : Fx K mg) (C__law_words : C8.Cal P w K mg base 1 "_law_words" (spOf K S__law_words) []) (C__law_arm_lines : C8.Cal P w K mg base 2 "_law_arm_lines" (spOf K S__law_arm_lines) []) : C8.Cal P w K mg base 3 "_law_lines" (spOf K S__law_lines) [] := by
  obtain ⟨f, fd, F, hm⟩ := E.f__law_lines
  exact cal_ok F hm sc__law_lines (fun _ _ _ _ _ _ us hl => match us, hl with | [_], _ => rfl) (fun xs P h => len_S__law_lines h) (by decide) (fun cdv A outer s H E' p G hr => b__law_lines E C__law_words C__law_arm_lines f cdv A outer s H E' p G hr) d__law_lines
abbrev N__law_sheet : List Str := ["_law_parts"]
abbrev scope__law_sheet : Scope := defScope (top 65)
theorem sc__law_sheet : FnScope N__law_sheet ["_law_parts"] scope__law_sheet := ⟨rfl, rfl, rfl, by decide +kernel, rfl, by decide +kernel, by decide +kernel⟩
theorem b__law_sheet (E : Fx K mg) (C__law_lines : C8.Cal P w K mg base 3 "_law_lines" (spOf K S__law_lines) []) : Body P w K mg base N__law_sheet "_law_sheet" scope__law_sheet 3 (defBody (top 65)) t__law_sheet := fun f cdv A outer s H E' p G hr => by
  have nd := sc__law_sheet.nd
  exact (sd_one (sd_ret (pd_join pd_str (pd_call C__law_lines hr (ad_cons (pd_var 0) ad_nil)))))
theorem c__law_sheet (E : Fx K mg) (C__law_lines : C8.Cal P w K mg base 3 "_law_lines" (spOf K S__law_lines) []) : C8.Cal P w K mg base 4 "_law_sheet" (spOf K S__law_sheet) [] := by
  obtain ⟨f, fd, F, hm⟩ := E.f__law_sheet
  exact cal_ok F hm sc__law_sheet (fun _ _ _ _ _ _ us hl => match us, hl with | [_], _ => rfl) (fun xs P h => len_S__law_sheet h) (by decide) (fun cdv A outer s H E' p G hr => b__law_sheet E C__law_lines f cdv A outer s H E' p G hr) d__law_sheet
abbrev N__law_spots : List Str := ["_law_parts", "_law_found", "_law_spot_here", "_law_some", "_law_arm_here"]
abbrev scope__law_spots : Scope := defScope (top 66)
theorem sc__law_spots : FnScope N__law_spots ["_law_parts"] scope__law_spots := ⟨rfl, rfl, rfl, by decide +kernel, rfl, by decide +kernel, by decide +kernel⟩
theorem b__law_spots (E : Fx K mg)  : Body P w K mg base N__law_spots "_law_spots" scope__law_spots 0 (defBody (top 66)) t__law_spots := fun f cdv A outer s H E' p G hr => by
  have nd := sc__law_spots.nd
  exact (sd_cons (sd_setO 1 nd (pl_lst ad_nil))
    (sd_cons (sd_for (g := (gTup K 2 (gNames [2, 3]))) PassesOwn.never rfl (id_tup (pd_ix (pd_var 0) pd_int)) (pg_tup rfl (pgs_cons (pg_name (i := 2) nd rfl (by first | exact Or.inl rfl | exact Or.inr rfl)) (pgs_cons (pg_name (i := 3) nd rfl (by first | exact Or.inl rfl | exact Or.inr rfl)) pgs_nil))) (g_tup [2, 3] 2 rfl) (fun G => (sd_one (sd_if (td_bor 1 (td_cmp op_notIn_seq (lr_in (neg := true)) (pd_var 2) (pd_var 1))) (sd_one (sd_app 1 (pd_var 2))) sd_nil))))
    (sd_cons (sd_for (g := (gName 4)) PassesOwn.never rfl (id_tup (pd_ix (pd_var 0) pd_int)) (pg_name (i := 4) nd rfl (by first | exact Or.inl rfl | exact Or.inr rfl)) (g_name 4) (fun G => (sd_one (sd_for (g := (gName 2)) PassesOwn.never rfl (id_tup (pd_slt (pd_var 4) od_none (od_some pd_int))) (pg_name (i := 2) nd rfl (by first | exact Or.inl rfl | exact Or.inr rfl)) (g_name 2) (fun G => (sd_one (sd_if (td_bor 1 (td_cmp op_notIn_seq (lr_in (neg := true)) (pd_var 2) (pd_var 1))) (sd_one (sd_app 1 (pd_var 2))) sd_nil)))))))
    (sd_one (sd_fz 1 (sd_ret (pd_ty call_tuple_of lc_tuple (by rfl) (by exact E.tuple) bt_tuple (ad_cons (pd_var 1) ad_nil))))))))
theorem c__law_spots (E : Fx K mg)  : C8.Cal P w K mg base 1 "_law_spots" (spOf K S__law_spots) [] := by
  obtain ⟨f, fd, F, hm⟩ := E.f__law_spots
  exact cal_ok F hm sc__law_spots (fun _ _ _ _ _ _ us hl => match us, hl with | [_], _ => rfl) (fun xs P h => len_S__law_spots h) (by decide) (fun cdv A outer s H E' p G hr => b__law_spots E  f cdv A outer s H E' p G hr) d__law_spots
abbrev N__law_unit : List Str := ["_law_size", "_law_at", "_law_k"]
abbrev scope__law_unit : Scope := defScope (top 69)
theorem sc__law_unit : FnScope N__law_unit ["_law_size", "_law_at"] scope__law_unit := ⟨rfl, rfl, rfl, by decide +kernel, rfl, by decide +kernel, by decide +kernel⟩
theorem b__law_unit (E : Fx K mg)  : Body P w K mg base N__law_unit "_law_unit" scope__law_unit 0 (defBody (top 69)) t__law_unit := fun f cdv A outer s H E' p G hr => by
  have nd := sc__law_unit.nd
  exact (sd_one (sd_ret (pd_ty call_tuple_of lc_tuple (by rfl) (by exact E.tuple) bt_tuple (ad_cons (pd_l (pl_lc (own := [("_law_k", 2)]) (g := (gName 2)) rfl nd (id_rng1 (by rfl) (by exact E.range) (ad_cons (pd_add (pd_var 0) pd_int) ad_nil)) (blkOk_by (N := N__law_unit) (sc := scope__law_unit) (by decide +kernel)) (g_name 2) (by decide) (fun _ _ _ _ _ => (pg_name (i := 2) nd rfl (by first | exact Or.inl rfl | exact Or.inr rfl))) (fun _ _ _ _ _ => tsd_nil) (fun _ _ _ _ _ => (pd_ty call_int1 lc_int (by rfl) (by exact E.int) bt_int (ad_cons (pd_cmp op_eq lr_eq (pd_var 2) (pd_var 1)) ad_nil))))) ad_nil))))
theorem c__law_unit (E : Fx K mg)  : C8.Cal P w K mg base 1 "_law_unit" (spOf K S__law_unit) [] := by
  obtain ⟨f, fd, F, hm⟩ := E.f__law_unit
  exact cal_ok F hm sc__law_unit (fun _ _ _ _ _ _ us hl => match us, hl with | [_, _], _ => rfl) (fun xs P h => len_S__law_unit h) (by decide) (fun cdv A outer s H E' p G hr => b__law_unit E  f cdv A outer s H E' p G hr) d__law_unit
abbrev N__law_shift : List Str := ["_law_some", "_law_by"]
abbrev scope__law_shift : Scope := defScope (top 70)
theorem sc__law_shift : FnScope N__law_shift ["_law_some", "_law_by"] scope__law_shift := ⟨rfl, rfl, rfl, by decide +kernel, rfl, by decide +kernel, by decide +kernel⟩
theorem b__law_shift (E : Fx K mg)  : Body P w K mg base N__law_shift "_law_shift" scope__law_shift 0 (defBody (top 70)) t__law_shift := fun f cdv A outer s H E' p G hr => by
  have nd := sc__law_shift.nd
  exact (sd_one (sd_ret (pd_addt (pd_slt (pd_var 0) od_none (od_some (pd_neg pd_int))) (pd_tup (ad_cons (pd_add (pd_ix (pd_var 0) (pd_neg pd_int)) (pd_var 1)) ad_nil)))))
theorem c__law_shift (E : Fx K mg)  : C8.Cal P w K mg base 1 "_law_shift" (spOf K S__law_shift) [] := by
  obtain ⟨f, fd, F, hm⟩ := E.f__law_shift
  exact cal_ok F hm sc__law_shift (fun _ _ _ _ _ _ us hl => match us, hl with | [_, _], _ => rfl) (fun xs P h => len_S__law_shift h) (by decide) (fun cdv A outer s H E' p G hr => b__law_shift E  f cdv A outer s H E' p G hr) d__law_shift
abbrev N__law_little : List Str := ["_law_pail", "_law_size", "_law_k"]
abbrev scope__law_little : Scope := defScope (top 71)
theorem sc__law_little : FnScope N__law_little ["_law_pail", "_law_size"] scope__law_little := ⟨rfl, rfl, rfl, by decide +kernel, rfl, by decide +kernel, by decide +kernel⟩
theorem b__law_little (E : Fx K mg) (C__law_cast : C8.Cal P w K mg base 1 "_law_cast" (spOf K S__law_cast) []) : Body P w K mg base N__law_little "_law_little" scope__law_little 1 (defBody (top 71)) t__law_little := fun f cdv A outer s H E' p G hr => by
  have nd := sc__law_little.nd
  exact (sd_one (sd_ret (pd_ty call_tuple_of lc_tuple (by rfl) (by exact E.tuple) bt_tuple (ad_cons (pd_l (pl_lc (own := [("_law_k", 2)]) (g := (gName 2)) rfl nd (id_rng1 (by rfl) (by exact E.range) (ad_cons (pd_add (pd_var 1) pd_int) ad_nil)) (blkOk_by (N := N__law_little) (sc := scope__law_little) (by decide +kernel)) (g_name 2) (by decide) (fun _ _ _ _ _ => (pg_name (i := 2) nd rfl (by first | exact Or.inl rfl | exact Or.inr rfl))) (fun _ _ _ _ _ => tsd_nil) (fun _ _ _ _ _ => (pd_sub (pd_call C__law_cast hr (ad_cons (pd_var 0) (ad_cons pd_int ad_nil))) pd_int)))) ad_nil))))
theorem c__law_little (E : Fx K mg) (C__law_cast : C8.Cal P w K mg base 1 "_law_cast" (spOf K S__law_cast) []) : C8.Cal P w K mg base 2 "_law_little" (spOf K S__law_little) [] := by
  obtain ⟨f, fd, F, hm⟩ := E.f__law_little
  exact cal_ok F hm sc__law_little (fun _ _ _ _ _ _ us hl => match us, hl with | [_, _], _ => rfl) (fun xs P h => len_S__law_little h) (by decide) (fun cdv A outer s H E' p G hr => b__law_little E C__law_cast f cdv A outer s H E' p G hr) d__law_little
abbrev N__law_ask : List Str := ["_law_pail", "_law_size", "_law_at", "_law_way", "_law_other", "_law_each", "_law_k"]
abbrev scope__law_ask : Scope := defScope (top 72)
theorem sc__law_ask : FnScope N__law_ask ["_law_pail", "_law_size", "_law_at"] scope__law_ask := ⟨rfl, rfl, rfl, by decide +kernel, rfl, by decide +kernel, by decide +kernel⟩
theorem b__law_ask (E : Fx K mg) (C__law_cast : C8.Cal P w K mg base 1 "_law_cast" (spOf K S__law_cast) []) (C__law_unit : C8.Cal P w K mg base 1 "_law_unit" (spOf K S__law_unit) []) (C__law_shift : C8.Cal P w K mg base 1 "_law_shift" (spOf K S__law_shift) []) (C__law_little : C8.Cal P w K mg base 2 "_law_little" (spOf K S__law_little) []) : Body P w K mg base N__law_ask "_law_ask" scope__law_ask 2 (defBody (top 72)) t__law_ask := fun f cdv A outer s H E' p G hr => by
  have nd := sc__law_ask.nd
  exact (sd_cons (sd_asg (g := (gTup K 2 (gNames [3, 4]))) (pd_tup (ad_cons (pd_call C__law_cast hr (ad_cons (pd_var 0) (ad_cons pd_int ad_nil))) (ad_cons (pd_call C__law_cast hr (ad_cons (pd_var 0) (ad_cons (pd_var 1) ad_nil))) ad_nil))) (pg_tup rfl (pgs_cons (pg_name (i := 3) nd rfl (by first | exact Or.inl rfl | exact Or.inr rfl)) (pgs_cons (pg_name (i := 4) nd rfl (by first | exact Or.inl rfl | exact Or.inr rfl)) pgs_nil))) (g_tup [3, 4] 2 rfl))
    (sd_cons (sd_if (td_cmp op_lt lr_lt (pd_var 3) pd_int) (sd_one (sd_ret (pd_call C__law_shift hr (ad_cons (pd_call C__law_unit hr (ad_cons (pd_var 1) (ad_cons (pd_var 2) ad_nil))) (ad_cons (pd_neg (pd_call C__law_cast hr (ad_cons (pd_var 0) (ad_cons pd_int ad_nil)))) ad_nil))))) sd_nil)
    (sd_cons (sd_if (td_cmp op_eq lr_eq (pd_var 3) pd_int) (sd_one (sd_ret (pd_call C__law_shift hr (ad_cons (pd_ty call_tuple_of lc_tuple (by rfl) (by exact E.tuple) bt_tuple (ad_cons (pd_l (pl_lc (own := [("_law_each", 5)]) (g := (gName 5)) rfl nd (id_tup (pd_call C__law_unit hr (ad_cons (pd_var 1) (ad_cons (pd_var 2) ad_nil)))) (blkOk_by (N := N__law_ask) (sc := scope__law_ask) (by decide +kernel)) (g_name 5) (by decide) (fun _ _ _ _ _ => (pg_name (i := 5) nd rfl (by first | exact Or.inl rfl | exact Or.inr rfl))) (fun _ _ _ _ _ => tsd_nil) (fun _ _ _ _ _ => (pd_neg (pd_var 5))))) ad_nil)) (ad_cons (pd_call C__law_cast hr (ad_cons (pd_var 0) (ad_cons pd_int ad_nil))) ad_nil))))) sd_nil)
    (sd_cons (sd_if (td_cmp op_eq lr_eq (pd_var 3) pd_int) (sd_one (sd_ret (pd_ty call_tuple_of lc_tuple (by rfl) (by exact E.tuple) bt_tuple (ad_cons (pd_l (pl_lc (own := [("_law_k", 6)]) (g := (gName 6)) rfl nd (id_rng1 (by rfl) (by exact E.range) (ad_cons (pd_add (pd_var 1) pd_int) ad_nil)) (blkOk_by (N := N__law_ask) (sc := scope__law_ask) (by decide +kernel)) (g_name 6) (by decide) (fun _ _ _ _ _ => (pg_name (i := 6) nd rfl (by first | exact Or.inl rfl | exact Or.inr rfl))) (fun _ _ _ _ _ => tsd_nil) (fun _ _ _ _ _ => (pd_sub (pd_ix (pd_call C__law_unit hr (ad_cons (pd_var 1) (ad_cons (pd_var 2) ad_nil))) (pd_var 6)) (pd_ix (pd_call C__law_unit hr (ad_cons (pd_var 1) (ad_cons (pd_var 4) ad_nil))) (pd_var 6)))))) ad_nil)))) sd_nil)
    (sd_one (sd_ret (pd_call C__law_little hr (ad_cons (pd_var 0) (ad_cons (pd_var 1) ad_nil)))))))))
theorem c__law_ask (E : Fx K mg) (C__law_cast : C8.Cal P w K mg base 1 "_law_cast" (spOf K S__law_cast) []) (C__law_unit : C8.Cal P w K mg base 1 "_law_unit" (spOf K S__law_unit) []) (C__law_shift : C8.Cal P w K mg base 1 "_law_shift" (spOf K S__law_shift) []) (C__law_little : C8.Cal P w K mg base 2 "_law_little" (spOf K S__law_little) []) : C8.Cal P w K mg base 3 "_law_ask" (spOf K S__law_ask) [] := by
  obtain ⟨f, fd, F, hm⟩ := E.f__law_ask
  exact cal_ok F hm sc__law_ask (fun _ _ _ _ _ _ us hl => match us, hl with | [_, _, _], _ => rfl) (fun xs P h => len_S__law_ask h) (by decide) (fun cdv A outer s H E' p G hr => b__law_ask E C__law_cast C__law_unit C__law_shift C__law_little f cdv A outer s H E' p G hr) d__law_ask
abbrev N__law_turn : List Str := ["_law_pail", "_law_size", "_law_at", "_law_way", "_law_own", "_law_other", "_law_k"]
abbrev scope__law_turn : Scope := defScope (top 73)
theorem sc__law_turn : FnScope N__law_turn ["_law_pail", "_law_size", "_law_at"] scope__law_turn := ⟨rfl, rfl, rfl, by decide +kernel, rfl, by decide +kernel, by decide +kernel⟩
theorem b__law_turn (E : Fx K mg) (C__law_cast : C8.Cal P w K mg base 1 "_law_cast" (spOf K S__law_cast) []) (C__law_unit : C8.Cal P w K mg base 1 "_law_unit" (spOf K S__law_unit) []) (C__law_shift : C8.Cal P w K mg base 1 "_law_shift" (spOf K S__law_shift) []) (C__law_little : C8.Cal P w K mg base 2 "_law_little" (spOf K S__law_little) []) : Body P w K mg base N__law_turn "_law_turn" scope__law_turn 2 (defBody (top 73)) t__law_turn := fun f cdv A outer s H E' p G hr => by
  have nd := sc__law_turn.nd
  exact (sd_cons (sd_asg (g := (gTup K 2 (gNames [3, 4]))) (pd_tup (ad_cons (pd_call C__law_cast hr (ad_cons (pd_var 0) (ad_cons pd_int ad_nil))) (ad_cons (pd_call C__law_unit hr (ad_cons (pd_var 1) (ad_cons (pd_var 2) ad_nil))) ad_nil))) (pg_tup rfl (pgs_cons (pg_name (i := 3) nd rfl (by first | exact Or.inl rfl | exact Or.inr rfl)) (pgs_cons (pg_name (i := 4) nd rfl (by first | exact Or.inl rfl | exact Or.inr rfl)) pgs_nil))) (g_tup [3, 4] 2 rfl))
    (sd_cons (sd_if (td_cmp op_lt lr_lt (pd_var 3) pd_int) (sd_one (sd_ret (pd_call C__law_shift hr (ad_cons (pd_var 4) (ad_cons (pd_sub (pd_neg pd_int) (pd_call C__law_cast hr (ad_cons (pd_var 0) (ad_cons pd_int ad_nil)))) ad_nil))))) sd_nil)
    (sd_cons (sd_if (td_cmp op_eq lr_eq (pd_var 3) pd_int) (sd_one (sd_ret (pd_addt (pd_mult (pd_tup (ad_cons pd_int ad_nil)) (pd_var 1)) (pd_tup (ad_cons (pd_call C__law_cast hr (ad_cons (pd_var 0) (ad_cons pd_int ad_nil))) ad_nil))))) sd_nil)
    (sd_cons (sd_if (td_cmp op_eq lr_eq (pd_var 3) pd_int) (sd_cons (sd_set 5 nd (pd_call C__law_unit hr (ad_cons (pd_var 1) (ad_cons (pd_call C__law_cast hr (ad_cons (pd_var 0) (ad_cons (pd_var 1) ad_nil))) ad_nil))))
    (sd_one (sd_ret (pd_ty call_tuple_of lc_tuple (by rfl) (by exact E.tuple) bt_tuple (ad_cons (pd_l (pl_lc (own := [("_law_k", 6)]) (g := (gName 6)) rfl nd (id_rng1 (by rfl) (by exact E.range) (ad_cons (pd_add (pd_var 1) pd_int) ad_nil)) (blkOk_by (N := N__law_turn) (sc := scope__law_turn) (by decide +kernel)) (g_name 6) (by decide) (fun _ _ _ _ _ => (pg_name (i := 6) nd rfl (by first | exact Or.inl rfl | exact Or.inr rfl))) (fun _ _ _ _ _ => tsd_nil) (fun _ _ _ _ _ => (pd_add (pd_ix (pd_var 4) (pd_var 6)) (pd_ix (pd_var 5) (pd_var 6)))))) ad_nil))))) sd_nil)
    (sd_one (sd_ret (pd_if (td_cmp op_eq lr_eq (pd_var 3) pd_int) (pd_var 4) (pd_call C__law_little hr (ad_cons (pd_var 0) (ad_cons (pd_var 1) ad_nil))))))))))
theorem c__law_turn (E : Fx K mg) (C__law_cast : C8.Cal P w K mg base 1 "_law_cast" (spOf K S__law_cast) []) (C__law_unit : C8.Cal P w K mg base 1 "_law_unit" (spOf K S__law_unit) []) (C__law_shift : C8.Cal P w K mg base 1 "_law_shift" (spOf K S__law_shift) []) (C__law_little : C8.Cal P w K mg base 2 "_law_little" (spOf K S__law_little) []) : C8.Cal P w K mg base 3 "_law_turn" (spOf K S__law_turn) [] := by
  obtain ⟨f, fd, F, hm⟩ := E.f__law_turn
  exact cal_ok F hm sc__law_turn (fun _ _ _ _ _ _ us hl => match us, hl with | [_, _, _], _ => rfl) (fun xs P h => len_S__law_turn h) (by decide) (fun cdv A outer s H E' p G hr => b__law_turn E C__law_cast C__law_unit C__law_shift C__law_little f cdv A outer s H E' p G hr) d__law_turn
abbrev N__law_arm : List Str := ["_law_pail", "_law_size", "_law_spots_here", "_law_at", "_law_turns", "_law_k", "_law_more", "_law_asks"]
abbrev scope__law_arm : Scope := defScope (top 74)
theorem sc__law_arm : FnScope N__law_arm ["_law_pail", "_law_size", "_law_spots_here"] scope__law_arm := ⟨rfl, rfl, rfl, by decide +kernel, rfl, by decide +kernel, by decide +kernel⟩
theorem b__law_arm (E : Fx K mg) (C__law_cast : C8.Cal P w K mg base 1 "_law_cast" (spOf K S__law_cast) []) (C__law_any_of : C8.Cal P w K mg base 2 "_law_any_of" (spOf K S__law_any_of) []) (C__law_unit : C8.Cal P w K mg base 1 "_law_unit" (spOf K S__law_unit) []) (C__law_ask : C8.Cal P w K mg base 3 "_law_ask" (spOf K S__law_ask) []) (C__law_turn : C8.Cal P w K mg base 3 "_law_turn" (spOf K S__law_turn) []) : Body P w K mg base N__law_arm "_law_arm" scope__law_arm 3 (defBody (top 74)) t__law_arm := fun f cdv A outer s H E' p G hr => by
  have nd := sc__law_arm.nd
  exact (sd_cons (sd_set 3 nd (pd_call C__law_cast hr (ad_cons (pd_var 0) (ad_cons (pd_var 1) ad_nil))))
    (sd_cons (sd_setLc 4 (own := [("_law_k", 5)]) (g := (gName 5)) rfl nd rfl rfl (sw_true rfl rfl rfl (by decide +kernel)) (id_rng1 (by rfl) (by exact E.range) (ad_cons (pd_var 1) ad_nil)) (blkOk_by (N := N__law_arm) (sc := scope__law_arm) (by decide +kernel)) (g_name 5) (by decide) (fun _ _ _ _ _ => (pg_name (i := 5) nd rfl (by first | exact Or.inl rfl | exact Or.inr rfl))) (fun _ _ _ _ _ => tsd_nil) (fun _ _ _ _ _ => (pd_call C__law_unit hr (ad_cons (pd_var 1) (ad_cons (pd_var 5) ad_nil)))))
    (sd_cons (sd_setI 4 (pd_call C__law_turn hr (ad_cons (pd_var 0) (ad_cons (pd_var 1) (ad_cons (pd_var 3) ad_nil)))) (pd_var 3))
    (sd_cons (sd_if (td_cmp op_eq lr_eq (pd_call C__law_cast hr (ad_cons (pd_var 0) (ad_cons pd_int ad_nil))) pd_int) (sd_cons (sd_set 6 nd (pd_call C__law_cast hr (ad_cons (pd_var 0) (ad_cons (pd_var 1) ad_nil))))
    (sd_one (sd_setI 4 (pd_call C__law_turn hr (ad_cons (pd_var 0) (ad_cons (pd_var 1) (ad_cons (pd_var 6) ad_nil)))) (pd_var 6)))) sd_nil)
    (sd_cons (sd_setO 7 nd (pl_lst ad_nil))
    (sd_cons (sd_for (g := (gName 5)) PassesOwn.never rfl (id_rng1 (by rfl) (by exact E.range) (ad_cons (pd_call C__law_cast hr (ad_cons (pd_var 0) (ad_cons pd_int ad_nil))) ad_nil)) (pg_name (i := 5) nd rfl (by first | exact Or.inl rfl | exact Or.inr rfl)) (g_name 5) (fun G => (sd_one (sd_app 7 (pd_call C__law_ask hr (ad_cons (pd_var 0) (ad_cons (pd_var 1) (ad_cons (pd_call C__law_any_of hr (ad_cons (pd_var 0) (ad_cons (pd_l (pl_lst (ad_cons (pd_var 3) (ad_cons (pd_var 3) (ad_cons (pd_call C__law_cast hr (ad_cons (pd_var 0) (ad_cons (pd_var 1) ad_nil))) ad_nil))))) ad_nil))) ad_nil))))))))
    (sd_one (sd_fz 4 (sd_fz 7 (sd_ret (pd_tup (ad_cons (pd_call C__law_any_of hr (ad_cons (pd_var 0) (ad_cons (pd_var 2) ad_nil))) (ad_cons (pd_call C__law_any_of hr (ad_cons (pd_var 0) (ad_cons (pd_var 2) ad_nil))) (ad_cons (pd_ty call_tuple_of lc_tuple (by rfl) (by exact E.tuple) bt_tuple (ad_cons (pd_var 7) ad_nil)) (ad_cons (pd_ty call_tuple_of lc_tuple (by rfl) (by exact E.tuple) bt_tuple (ad_cons (pd_var 4) ad_nil)) ad_nil)))))))))))))))
theorem c__law_arm (E : Fx K mg) (C__law_cast : C8.Cal P w K mg base 1 "_law_cast" (spOf K S__law_cast) []) (C__law_any_of : C8.Cal P w K mg base 2 "_law_any_of" (spOf K S__law_any_of) []) (C__law_unit : C8.Cal P w K mg base 1 "_law_unit" (spOf K S__law_unit) []) (C__law_ask : C8.Cal P w K mg base 3 "_law_ask" (spOf K S__law_ask) []) (C__law_turn : C8.Cal P w K mg base 3 "_law_turn" (spOf K S__law_turn) []) : C8.Cal P w K mg base 4 "_law_arm" (spOf K S__law_arm) [] := by
  obtain ⟨f, fd, F, hm⟩ := E.f__law_arm
  exact cal_ok F hm sc__law_arm (fun _ _ _ _ _ _ us hl => match us, hl with | [_, _, _], _ => rfl) (fun xs P h => len_S__law_arm h) (by decide) (fun cdv A outer s H E' p G hr => b__law_arm E C__law_cast C__law_any_of C__law_unit C__law_ask C__law_turn f cdv A outer s H E' p G hr) d__law_arm
abbrev N__law_small : List Str := ["_law_pail", "_law_most", "_law_size", "_law_tags_here", "_law_spots_here", "_law_says", "_law_k", "_law_some", "_law_arms"]
abbrev scope__law_small : Scope := defScope (top 75)
theorem sc__law_small : FnScope N__law_small ["_law_pail", "_law_most"] scope__law_small := ⟨rfl, rfl, rfl, by decide +kernel, rfl, by decide +kernel, by decide +kernel⟩
theorem b__law_small (E : Fx K mg) (C__law_cast : C8.Cal P w K mg base 1 "_law_cast" (spOf K S__law_cast) []) (C__law_any_of : C8.Cal P w K mg base 2 "_law_any_of" (spOf K S__law_any_of) []) (C__law_tags : C8.Cal P w K mg base 2 "_law_tags" (spOf K S__law_tags) []) (C__law_unit : C8.Cal P w K mg base 1 "_law_unit" (spOf K S__law_unit) []) (C__law_shift : C8.Cal P w K mg base 1 "_law_shift" (spOf K S__law_shift) []) (C__law_arm : C8.Cal P w K mg base 4 "_law_arm" (spOf K S__law_arm) []) : Body P w K mg base N__law_small "_law_small" scope__law_small 4 (defBody (top 75)) t__law_small := fun f cdv A outer s H E' p G hr => by
  have nd := sc__law_small.nd
  exact (sd_cons (sd_asg (g := (gTup K 2 (gNames [2, 3]))) (pd_tup (ad_cons (pd_add pd_int (pd_call C__law_cast hr (ad_cons (pd_var 0) (ad_cons pd_int ad_nil)))) (ad_cons (pd_call C__law_tags hr (ad_cons (pd_var 0) (ad_cons pd_int ad_nil))) ad_nil))) (pg_tup rfl (pgs_cons (pg_name (i := 2) nd rfl (by first | exact Or.inl rfl | exact Or.inr rfl)) (pgs_cons (pg_name (i := 3) nd rfl (by first | exact Or.inl rfl | exact Or.inr rfl)) pgs_nil))) (g_tup [2, 3] 2 rfl))
    (sd_cons (sd_set 4 nd (pd_l (pl_sl (pd_var 3) (od_some pd_int) (od_some (pd_add pd_int (pd_call C__law_any_of hr (ad_cons (pd_var 0) (ad_cons (pd_l (pl_lst (ad_cons pd_int (ad_cons pd_int (ad_cons pd_int (ad_cons pd_int ad_nil)))))) ad_nil))))))))
    (sd_cons (sd_setO 5 nd (pl_lst ad_nil))
    (sd_cons (sd_for (g := (gName 6)) PassesOwn.never rfl (id_rng1 (by rfl) (by exact E.range) (ad_cons (pd_call C__law_any_of hr (ad_cons (pd_var 0) (ad_cons (pd_l (pl_lst (ad_cons pd_int (ad_cons pd_int (ad_cons pd_int (ad_cons pd_int ad_nil)))))) ad_nil))) ad_nil)) (pg_name (i := 6) nd rfl (by first | exact Or.inl rfl | exact Or.inr rfl)) (g_name 6) (fun G => (sd_cons (sd_set 7 nd (pd_call C__law_unit hr (ad_cons (pd_var 2) (ad_cons (pd_call C__law_cast hr (ad_cons (pd_var 0) (ad_cons (pd_var 2) ad_nil))) ad_nil))))
    (sd_one (sd_app 5 (pd_tup (ad_cons (pd_call C__law_any_of hr (ad_cons (pd_var 0) (ad_cons (pd_var 4) ad_nil))) (ad_cons (pd_call C__law_shift hr (ad_cons (pd_var 7) (ad_cons (pd_sub (pd_call C__law_cast hr (ad_cons (pd_var 0) (ad_cons pd_int ad_nil))) pd_int) ad_nil))) ad_nil))))))))
    (sd_cons (sd_setLc 8 (own := [("_law_k", 6)]) (g := (gName 6)) rfl nd rfl rfl (sw_true rfl rfl rfl (by decide +kernel)) (id_rng1 (by rfl) (by exact E.range) (ad_cons (pd_add pd_int (pd_call C__law_cast hr (ad_cons (pd_var 0) (ad_cons (pd_var 1) ad_nil)))) ad_nil)) (blkOk_by (N := N__law_small) (sc := scope__law_small) (by decide +kernel)) (g_name 6) (by decide) (fun _ _ _ _ _ => (pg_name (i := 6) nd rfl (by first | exact Or.inl rfl | exact Or.inr rfl))) (fun _ _ _ _ _ => tsd_nil) (fun _ _ _ _ _ => (pd_call C__law_arm hr (ad_cons (pd_var 0) (ad_cons (pd_var 2) (ad_cons (pd_var 4) ad_nil))))))
    (sd_one (sd_fz 5 (sd_fz 8 (sd_ret (pd_l (pl_lst (ad_cons (pd_ty call_tuple_of lc_tuple (by rfl) (by exact E.tuple) bt_tuple (ad_cons (pd_l (pl_sl (pd_var 3) od_none (od_some (pd_var 2)))) ad_nil)) (ad_cons (pd_ty call_tuple_of lc_tuple (by rfl) (by exact E.tuple) bt_tuple (ad_cons (pd_var 5) ad_nil)) (ad_cons (pd_ty call_tuple_of lc_tuple (by rfl) (by exact E.tuple) bt_tuple (ad_cons (pd_var 8) ad_nil)) ad_nil))))))))))))))
theorem c__law_small (E : Fx K mg) (C__law_cast : C8.Cal P w K mg base 1 "_law_cast" (spOf K S__law_cast) []) (C__law_any_of : C8.Cal P w K mg base 2 "_law_any_of" (spOf K S__law_any_of) []) (C__law_tags : C8.Cal P w K mg base 2 "_law_tags" (spOf K S__law_tags) []) (C__law_unit : C8.Cal P w K mg base 1 "_law_unit" (spOf K S__law_unit) []) (C__law_shift : C8.Cal P w K mg base 1 "_law_shift" (spOf K S__law_shift) []) (C__law_arm : C8.Cal P w K mg base 4 "_law_arm" (spOf K S__law_arm) []) : C8.Cal P w K mg base 5 "_law_small" (spOf K S__law_small) [] := by
  obtain ⟨f, fd, F, hm⟩ := E.f__law_small
  exact cal_ok F hm sc__law_small (fun _ _ _ _ _ _ us hl => match us, hl with | [_, _], _ => rfl) (fun xs P h => len_S__law_small h) (by decide) (fun cdv A outer s H E' p G hr => b__law_small E C__law_cast C__law_any_of C__law_tags C__law_unit C__law_shift C__law_arm f cdv A outer s H E' p G hr) d__law_small
abbrev N__law_value : List Str := ["_law_some", "_law_spot_here", "_law_k"]
abbrev scope__law_value : Scope := defScope (top 76)
theorem sc__law_value : FnScope N__law_value ["_law_some", "_law_spot_here"] scope__law_value := ⟨rfl, rfl, rfl, by decide +kernel, rfl, by decide +kernel, by decide +kernel⟩
theorem b__law_value (E : Fx K mg)  : Body P w K mg base N__law_value "_law_value" scope__law_value 0 (defBody (top 76)) t__law_value := fun f cdv A outer s H E' p G hr => by
  have nd := sc__law_value.nd
  exact (sd_one (sd_ret (pd_add (pd_fn (cr_sum rfl) lc_sum (by rfl) (by exact E.sum) bt_sum (ad_cons (pd_l (pl_lc (own := [("_law_k", 2)]) (g := (gName 2)) rfl nd (id_rng1 (by rfl) (by exact E.range) (ad_cons (pd_fn call_len lc_len (by rfl) (by exact E.len) bt_len (ad_cons (pd_var 1) ad_nil)) ad_nil)) (blkOk_by (N := N__law_value) (sc := scope__law_value) (by decide +kernel)) (g_name 2) (by decide) (fun _ _ _ _ _ => (pg_name (i := 2) nd rfl (by first | exact Or.inl rfl | exact Or.inr rfl))) (fun _ _ _ _ _ => tsd_nil) (fun _ _ _ _ _ => (pd_mul (pd_ix (pd_var 0) (pd_var 2)) (pd_ix (pd_var 1) (pd_var 2)))))) ad_nil)) (pd_ix (pd_var 0) (pd_neg pd_int)))))
theorem c__law_value (E : Fx K mg)  : C8.Cal P w K mg base 1 "_law_value" (spOf K S__law_value) [] := by
  obtain ⟨f, fd, F, hm⟩ := E.f__law_value
  exact cal_ok F hm sc__law_value (fun _ _ _ _ _ _ us hl => match us, hl with | [_, _], _ => rfl) (fun xs P h => len_S__law_value h) (by decide) (fun cdv A outer s H E' p G hr => b__law_value E  f cdv A outer s H E' p G hr) d__law_value
abbrev N__law_lets : List Str := ["_law_arm_here", "_law_here", "_law_low", "_law_ask_here"]
abbrev scope__law_lets : Scope := defScope (top 77)
theorem sc__law_lets : FnScope N__law_lets ["_law_arm_here", "_law_here"] scope__law_lets := ⟨rfl, rfl, rfl, by decide +kernel, rfl, by decide +kernel, by decide +kernel⟩
theorem b__law_lets (E : Fx K mg) (C__law_value : C8.Cal P w K mg base 1 "_law_value" (spOf K S__law_value) []) : Body P w K mg base N__law_lets "_law_lets" scope__law_lets 1 (defBody (top 77)) t__law_lets := fun f cdv A outer s H E' p G hr => by
  have nd := sc__law_lets.nd
  exact (sd_cons (sd_setLc 2 (own := [("_law_ask_here", 3)]) (g := (gName 3)) rfl nd rfl rfl (sw_true rfl rfl rfl (by decide +kernel)) (id_tup (pd_ix (pd_var 0) pd_int)) (blkOk_by (N := N__law_lets) (sc := scope__law_lets) (by decide +kernel)) (g_name 3) (by decide) (fun _ _ _ _ _ => (pg_name (i := 3) nd rfl (by first | exact Or.inl rfl | exact Or.inr rfl))) (fun _ _ _ _ _ => (tsd_one (td_cmp op_lt lr_lt (pd_call C__law_value hr (ad_cons (pd_var 3) (ad_cons (pd_ix (pd_var 1) pd_int) ad_nil))) pd_int))) (fun _ _ _ _ _ => (pd_var 3)))
    (sd_one (sd_fz 2 (sd_ret (pd_and (pd_cmp (op_eqD hr.units) lr_eqD (pd_var 2) (pd_l (pl_lst ad_nil))) (pd_one (pd_cmp op_eq lr_eq (pd_ix (pd_var 0) pd_int) (pd_ix (pd_var 1) pd_int))))))))
theorem c__law_lets (E : Fx K mg) (C__law_value : C8.Cal P w K mg base 1 "_law_value" (spOf K S__law_value) []) : C8.Cal P w K mg base 2 "_law_lets" (spOf K S__law_lets) [] := by
  obtain ⟨f, fd, F, hm⟩ := E.f__law_lets
  exact cal_ok F hm sc__law_lets (fun _ _ _ _ _ _ us hl => match us, hl with | [_, _], _ => rfl) (fun xs P h => len_S__law_lets h) (by decide) (fun cdv A outer s H E' p G hr => b__law_lets E C__law_value f cdv A outer s H E' p G hr) d__law_lets
abbrev N__law_behind : List Str := ["_law_arm_here", "_law_here", "_law_turn_here"]
abbrev scope__law_behind : Scope := defScope (top 78)
theorem sc__law_behind : FnScope N__law_behind ["_law_arm_here", "_law_here"] scope__law_behind := ⟨rfl, rfl, rfl, by decide +kernel, rfl, by decide +kernel, by decide +kernel⟩
theorem b__law_behind (E : Fx K mg) (C__law_value : C8.Cal P w K mg base 1 "_law_value" (spOf K S__law_value) []) : Body P w K mg base N__law_behind "_law_behind" scope__law_behind 1 (defBody (top 78)) t__law_behind := fun f cdv A outer s H E' p G hr => by
  have nd := sc__law_behind.nd
  exact (sd_one (sd_ret (pd_tup (ad_cons (pd_ix (pd_var 0) pd_int) (ad_cons (pd_ty call_tuple_of lc_tuple (by rfl) (by exact E.tuple) bt_tuple (ad_cons (pd_l (pl_lc (own := [("_law_turn_here", 2)]) (g := (gName 2)) rfl nd (id_tup (pd_ix (pd_var 0) pd_int)) (blkOk_by (N := N__law_behind) (sc := scope__law_behind) (by decide +kernel)) (g_name 2) (by decide) (fun _ _ _ _ _ => (pg_name (i := 2) nd rfl (by first | exact Or.inl rfl | exact Or.inr rfl))) (fun _ _ _ _ _ => tsd_nil) (fun _ _ _ _ _ => (pd_call C__law_value hr (ad_cons (pd_var 2) (ad_cons (pd_ix (pd_var 1) pd_int) ad_nil)))))) ad_nil)) ad_nil)))))
theorem c__law_behind (E : Fx K mg) (C__law_value : C8.Cal P w K mg base 1 "_law_value" (spOf K S__law_value) []) : C8.Cal P w K mg base 2 "_law_behind" (spOf K S__law_behind) [] := by
  obtain ⟨f, fd, F, hm⟩ := E.f__law_behind
  exact cal_ok F hm sc__law_behind (fun _ _ _ _ _ _ us hl => match us, hl with | [_, _], _ => rfl) (fun xs P h => len_S__law_behind h) (by decide) (fun cdv A outer s H E' p G hr => b__law_behind E C__law_value f cdv A outer s H E' p G hr) d__law_behind
abbrev N__law_spot : List Str := ["_law_pail", "_law_size", "_law_menu", "_law_k"]
abbrev scope__law_spot : Scope := defScope (top 79)
theorem sc__law_spot : FnScope N__law_spot ["_law_pail", "_law_size"] scope__law_spot := ⟨rfl, rfl, rfl, by decide +kernel, rfl, by decide +kernel, by decide +kernel⟩
theorem b__law_spot (E : Fx K mg) (C__law_cast : C8.Cal P w K mg base 1 "_law_cast" (spOf K S__law_cast) []) (C__law_any_of : C8.Cal P w K mg base 2 "_law_any_of" (spOf K S__law_any_of) []) : Body P w K mg base N__law_spot "_law_spot" scope__law_spot 2 (defBody (top 79)) t__law_spot := fun f cdv A outer s H E' p G hr => by
  have nd := sc__law_spot.nd
  exact (sd_cons (sd_set 2 nd (pd_l (pl_lst (ad_cons (pd_call C__law_cast hr (ad_cons (pd_var 0) (ad_cons pd_int ad_nil))) (ad_cons (pd_sub (pd_call C__law_cast hr (ad_cons (pd_var 0) (ad_cons pd_int ad_nil))) pd_int) (ad_cons (pd_sub (pd_call C__law_cast hr (ad_cons (pd_var 0) (ad_cons pd_int ad_nil))) pd_int) ad_nil))))))
    (sd_one (sd_ret (pd_ty call_tuple_of lc_tuple (by rfl) (by exact E.tuple) bt_tuple (ad_cons (pd_l (pl_lc (own := [("_law_k", 3)]) (g := (gName 3)) rfl nd (id_rng1 (by rfl) (by exact E.range) (ad_cons (pd_var 1) ad_nil)) (blkOk_by (N := N__law_spot) (sc := scope__law_spot) (by decide +kernel)) (g_name 3) (by decide) (fun _ _ _ _ _ => (pg_name (i := 3) nd rfl (by first | exact Or.inl rfl | exact Or.inr rfl))) (fun _ _ _ _ _ => tsd_nil) (fun _ _ _ _ _ => (pd_call C__law_any_of hr (ad_cons (pd_var 0) (ad_cons (pd_l (pl_cat (pd_var 2) (pd_l (pl_lst (ad_cons (pd_call C__law_cast hr (ad_cons (pd_var 0) (ad_cons pd_int ad_nil))) (ad_cons (pd_call C__law_cast hr (ad_cons (pd_var 0) (ad_cons pd_int ad_nil))) ad_nil)))))) ad_nil)))))) ad_nil)))))
theorem c__law_spot (E : Fx K mg) (C__law_cast : C8.Cal P w K mg base 1 "_law_cast" (spOf K S__law_cast) []) (C__law_any_of : C8.Cal P w K mg base 2 "_law_any_of" (spOf K S__law_any_of) []) : C8.Cal P w K mg base 3 "_law_spot" (spOf K S__law_spot) [] := by
  obtain ⟨f, fd, F, hm⟩ := E.f__law_spot
  exact cal_ok F hm sc__law_spot (fun _ _ _ _ _ _ us hl => match us, hl with | [_, _], _ => rfl) (fun xs P h => len_S__law_spot h) (by decide) (fun cdv A outer s H E' p G hr => b__law_spot E C__law_cast C__law_any_of f cdv A outer s H E' p G hr) d__law_spot
abbrev N__law_again : List Str := ["_law_states", "_law_k"]
abbrev scope__law_again : Scope := defScope (top 80)
theorem sc__law_again : FnScope N__law_again ["_law_states"] scope__law_again := ⟨rfl, rfl, rfl, by decide +kernel, rfl, by decide +kernel, by decide +kernel⟩
theorem b__law_again (E : Fx K mg)  : Body P w K mg base N__law_again "_law_again" scope__law_again 0 (defBody (top 80)) t__law_again := fun f cdv A outer s H E' p G hr => by
  have nd := sc__law_again.nd
  exact (sd_cons (sd_for (g := (gName 1)) PassesOwn.never rfl (id_rng2 (by rfl) (by exact E.range) (ad_cons pd_int (ad_cons (pd_fn call_len lc_len (by rfl) (by exact E.len) bt_len (ad_cons (pd_var 0) ad_nil)) ad_nil))) (pg_name (i := 1) nd rfl (by first | exact Or.inl rfl | exact Or.inr rfl)) (g_name 1) (fun G => (sd_one (sd_if (td_cmp (op_eqD hr.units) lr_eqD (pd_ix (pd_var 0) (pd_sub (pd_sub (pd_fn call_len lc_len (by rfl) (by exact E.len) bt_len (ad_cons (pd_var 0) ad_nil)) pd_int) (pd_var 1))) (pd_ix (pd_var 0) (pd_neg pd_int))) (sd_one (sd_ret (pd_var 1))) sd_nil))))
    (sd_one (sd_ret pd_non)))
theorem c__law_again (E : Fx K mg)  : C8.Cal P w K mg base 1 "_law_again" (spOf K S__law_again) [] := by
  obtain ⟨f, fd, F, hm⟩ := E.f__law_again
  exact cal_ok F hm sc__law_again (fun _ _ _ _ _ _ us hl => match us, hl with | [_], _ => rfl) (fun xs P h => len_S__law_again h) (by decide) (fun cdv A outer s H E' p G hr => b__law_again E  f cdv A outer s H E' p G hr) d__law_again
abbrev N__law_next : List Str := ["_law_pail", "_law_parts", "_law_state", "_law_free", "_law_k"]
abbrev scope__law_next : Scope := defScope (top 82)
theorem sc__law_next : FnScope N__law_next ["_law_pail", "_law_parts", "_law_state"] scope__law_next := ⟨rfl, rfl, rfl, by decide +kernel, rfl, by decide +kernel, by decide +kernel⟩
theorem b__law_next (E : Fx K mg) (C__law_cast : C8.Cal P w K mg base 1 "_law_cast" (spOf K S__law_cast) []) (C__law_any_of : C8.Cal P w K mg base 2 "_law_any_of" (spOf K S__law_any_of) []) (C__law_lets : C8.Cal P w K mg base 2 "_law_lets" (spOf K S__law_lets) []) : Body P w K mg base N__law_next "_law_next" scope__law_next 2 (defBody (top 82)) t__law_next := fun f cdv A outer s H E' p G hr => by
  have nd := sc__law_next.nd
  exact (sd_cons (sd_setLc 3 (own := [("_law_k", 4)]) (g := (gName 4)) rfl nd rfl rfl (sw_true rfl rfl rfl (by decide +kernel)) (id_rng1 (by rfl) (by exact E.range) (ad_cons (pd_fn call_len lc_len (by rfl) (by exact E.len) bt_len (ad_cons (pd_ix (pd_var 1) pd_int) ad_nil)) ad_nil)) (blkOk_by (N := N__law_next) (sc := scope__law_next) (by decide +kernel)) (g_name 4) (by decide) (fun _ _ _ _ _ => (pg_name (i := 4) nd rfl (by first | exact Or.inl rfl | exact Or.inr rfl))) (fun _ _ _ _ _ => (tsd_one (td_val (pd_call C__law_lets hr (ad_cons (pd_ix (pd_ix (pd_var 1) pd_int) (pd_var 4)) (ad_cons (pd_var 2) ad_nil)))))) (fun _ _ _ _ _ => (pd_var 4)))
    (sd_one (sd_fz 3 (sd_ret (pd_call C__law_any_of hr (ad_cons (pd_var 0) (ad_cons (pd_l (pl_cat (pd_l (pl_cat (pd_l (pl_cat (pd_var 3) (pd_var 3))) (pd_var 3))) (pd_l (pl_lst (ad_cons (pd_call C__law_cast hr (ad_cons (pd_var 0) (ad_cons (pd_fn call_len lc_len (by rfl) (by exact E.len) bt_len (ad_cons (pd_ix (pd_var 1) pd_int) ad_nil)) ad_nil))) ad_nil))))) ad_nil)))))))
theorem c__law_next (E : Fx K mg) (C__law_cast : C8.Cal P w K mg base 1 "_law_cast" (spOf K S__law_cast) []) (C__law_any_of : C8.Cal P w K mg base 2 "_law_any_of" (spOf K S__law_any_of) []) (C__law_lets : C8.Cal P w K mg base 2 "_law_lets" (spOf K S__law_lets) []) : C8.Cal P w K mg base 3 "_law_next" (spOf K S__law_next) [] := by
  obtain ⟨f, fd, F, hm⟩ := E.f__law_next
  exact cal_ok F hm sc__law_next (fun _ _ _ _ _ _ us hl => match us, hl with | [_, _, _], _ => rfl) (fun xs P h => len_S__law_next h) (by decide) (fun cdv A outer s H E' p G hr => b__law_next E C__law_cast C__law_any_of C__law_lets f cdv A outer s H E' p G hr) d__law_next
abbrev N_Lead__place : List Str := ["self"]
abbrev scope_Lead__place : Scope := defScope (meth 56 2)
theorem sc_Lead__place : FnScope N_Lead__place ["self"] scope_Lead__place := ⟨rfl, rfl, rfl, by decide +kernel, rfl, by decide +kernel, by decide +kernel⟩
theorem b_Lead__place (E : Fx K mg)  : Body P w K mg base N_Lead__place "Lead.place" scope_Lead__place 0 (defBody (meth 56 2)) t_Lead__place := fun f cdv A outer s H E' p G hr => by
  have nd := sc_Lead__place.nd
  exact (sd_one (sd_ret (pd_ix (pd_fld (fr_state (c := ⟨K, p⟩) (by exact E.ld)) (pd_fld (fr_stage (c := ⟨K, p⟩) (by exact E.ld)) (pd_var 0))) pd_int)))
theorem k_Lead__place (E : Fx K mg)  {f : Addr} {fd : FuncData} (F : FunD K "place" "Lead.place" (defArgs (meth 56 2)) (defBody (meth 56 2)) (defScope (meth 56 2)) [] [] f fd) : FnOk P w K mg base C8.CX0 1 f fd ["self"] (spOf K S_Lead__place) ∧ L2.Binds K fd ["self"] [] :=
  ⟨fn_ok F sc_Lead__place (fun xs P h => len_S_Lead__place h) (by decide) (fun cdv A outer s H E' p G hr => b_Lead__place E  f cdv A outer s H E' p G hr) d_Lead__place, F.bindsN (fun _ _ _ _ _ _ us hl => match us, hl with | [_], _ => rfl)⟩
theorem c_Lead__place (E : Fx K mg)  : PrpL P w K mg base 1 "place" S_Lead__place := by
  obtain ⟨p, g, fd, hp, F⟩ := E.p_Lead__place
  obtain ⟨h1, h2⟩ := k_Lead__place (P := P) (w := w) (base := base) E  F
  exact ⟨p, g, fd, _, E.ld.lc, hp, h1, h2⟩
abbrev N_Lead__point : List Str := ["self"]
abbrev scope_Lead__point : Scope := defScope (meth 56 3)
theorem sc_Lead__point : FnScope N_Lead__point ["self"] scope_Lead__point := ⟨rfl, rfl, rfl, by decide +kernel, rfl, by decide +kernel, by decide +kernel⟩
theorem b_Lead__point (E : Fx K mg)  : Body P w K mg base N_Lead__point "Lead.point" scope_Lead__point 0 (defBody (meth 56 3)) t_Lead__point := fun f cdv A outer s H E' p G hr => by
  have nd := sc_Lead__point.nd
  exact (sd_one (sd_ret (pd_ix (pd_fld (fr_state (c := ⟨K, p⟩) (by exact E.ld)) (pd_fld (fr_stage (c := ⟨K, p⟩) (by exact E.ld)) (pd_var 0))) pd_int)))
theorem k_Lead__point (E : Fx K mg)  {f : Addr} {fd : FuncData} (F : FunD K "point" "Lead.point" (defArgs (meth 56 3)) (defBody (meth 56 3)) (defScope (meth 56 3)) [] [] f fd) : FnOk P w K mg base C8.CX0 1 f fd ["self"] (spOf K S_Lead__point) ∧ L2.Binds K fd ["self"] [] :=
  ⟨fn_ok F sc_Lead__point (fun xs P h => len_S_Lead__point h) (by decide) (fun cdv A outer s H E' p G hr => b_Lead__point E  f cdv A outer s H E' p G hr) d_Lead__point, F.bindsN (fun _ _ _ _ _ _ us hl => match us, hl with | [_], _ => rfl)⟩
theorem c_Lead__point (E : Fx K mg)  : PrpL P w K mg base 1 "point" S_Lead__point := by
  obtain ⟨p, g, fd, hp, F⟩ := E.p_Lead__point
  obtain ⟨h1, h2⟩ := k_Lead__point (P := P) (w := w) (base := base) E  F
  exact ⟨p, g, fd, _, E.ld.lc, hp, h1, h2⟩
abbrev N_Lead__taken : List Str := ["self"]
abbrev scope_Lead__taken : Scope := defScope (meth 56 4)
theorem sc_Lead__taken : FnScope N_Lead__taken ["self"] scope_Lead__taken := ⟨rfl, rfl, rfl, by decide +kernel, rfl, by decide +kernel, by decide +kernel⟩
theorem b_Lead__taken (E : Fx K mg)  : Body P w K mg base N_Lead__taken "Lead.taken" scope_Lead__taken 0 (defBody (meth 56 4)) t_Lead__taken := fun f cdv A outer s H E' p G hr => by
  have nd := sc_Lead__taken.nd
  exact (sd_one (sd_ret (pd_fld (fr_road (c := ⟨K, p⟩) (by exact E.ld)) (pd_fld (fr_stage (c := ⟨K, p⟩) (by exact E.ld)) (pd_var 0)))))
theorem k_Lead__taken (E : Fx K mg)  {f : Addr} {fd : FuncData} (F : FunD K "taken" "Lead.taken" (defArgs (meth 56 4)) (defBody (meth 56 4)) (defScope (meth 56 4)) [] [] f fd) : FnOk P w K mg base C8.CX0 1 f fd ["self"] (spOf K S_Lead__taken) ∧ L2.Binds K fd ["self"] [] :=
  ⟨fn_ok F sc_Lead__taken (fun xs P h => len_S_Lead__taken h) (by decide) (fun cdv A outer s H E' p G hr => b_Lead__taken E  f cdv A outer s H E' p G hr) d_Lead__taken, F.bindsN (fun _ _ _ _ _ _ us hl => match us, hl with | [_], _ => rfl)⟩
theorem c_Lead__taken (E : Fx K mg)  : PrpL P w K mg base 1 "taken" S_Lead__taken := by
  obtain ⟨p, g, fd, hp, F⟩ := E.p_Lead__taken
  obtain ⟨h1, h2⟩ := k_Lead__taken (P := P) (w := w) (base := base) E  F
  exact ⟨p, g, fd, _, E.ld.lc, hp, h1, h2⟩
abbrev N_Lead__ready : List Str := ["self", "place", "point", "at", "branch"]
abbrev scope_Lead__ready : Scope := defScope (meth 56 5)
theorem sc_Lead__ready : FnScope N_Lead__ready ["self"] scope_Lead__ready := ⟨rfl, rfl, rfl, by decide +kernel, rfl, by decide +kernel, by decide +kernel⟩
theorem b_Lead__ready (E : Fx K mg) (C_is_free : C8.Cal P w K mg base 3 "is_free" (spOf K S_is_free) []) : Body P w K mg base N_Lead__ready "Lead.ready" scope_Lead__ready 3 (defBody (meth 56 5)) t_Lead__ready := fun f cdv A outer s H E' p G hr => by
  have nd := sc_Lead__ready.nd
  exact (sd_cons (sd_asg (g := (gTup K 2 (gNames [1, 2]))) (pd_fld (fr_state (c := ⟨K, p⟩) (by exact E.ld)) (pd_fld (fr_stage (c := ⟨K, p⟩) (by exact E.ld)) (pd_var 0))) (pg_tup rfl (pgs_cons (pg_name (i := 1) nd rfl (by first | exact Or.inl rfl | exact Or.inr rfl)) (pgs_cons (pg_name (i := 2) nd rfl (by first | exact Or.inl rfl | exact Or.inr rfl)) pgs_nil))) (g_tup [1, 2] 2 rfl))
    (sd_one (sd_ret (pd_ty call_tuple_of lc_tuple (by rfl) (by exact E.tuple) bt_tuple (ad_cons (pd_l (pl_lc (own := [("at", 3), ("branch", 4)]) (g := (gTup K 2 (gNames [3, 4]))) rfl nd (id_enT (by rfl) (by exact E.enumerate) (ad_cons (pd_pB (by exact E.pr) (pd_fld (fr_led (c := ⟨K, p⟩) (by exact E.ld)) (pd_var 0))) ad_nil)) (blkOk_by (N := N_Lead__ready) (sc := scope_Lead__ready) (by decide +kernel)) (g_tup [3, 4] 2 rfl) (by decide) (fun _ _ _ _ _ => (pg_tup rfl (pgs_cons (pg_name (i := 3) nd rfl (by first | exact Or.inl rfl | exact Or.inr rfl)) (pgs_cons (pg_name (i := 4) nd rfl (by first | exact Or.inl rfl | exact Or.inr rfl)) pgs_nil)))) (fun _ _ _ _ _ => (tsd_one (td_val (pd_call C_is_free hr (ad_cons (pd_var 4) (ad_cons (pd_var 1) (ad_cons (pd_var 2) ad_nil))))))) (fun _ _ _ _ _ => (pd_var 3)))) ad_nil)))))
theorem k_Lead__ready (E : Fx K mg) (C_is_free : C8.Cal P w K mg base 3 "is_free" (spOf K S_is_free) []) {f : Addr} {fd : FuncData} (F : FunD K "ready" "Lead.ready" (defArgs (meth 56 5)) (defBody (meth 56 5)) (defScope (meth 56 5)) [] [] f fd) : FnOk P w K mg base C8.CX0 4 f fd ["self"] (spOf K S_Lead__ready) ∧ L2.Binds K fd ["self"] [] :=
  ⟨fn_ok F sc_Lead__ready (fun xs P h => len_S_Lead__ready h) (by decide) (fun cdv A outer s H E' p G hr => b_Lead__ready E C_is_free f cdv A outer s H E' p G hr) d_Lead__ready, F.bindsN (fun _ _ _ _ _ _ us hl => match us, hl with | [_], _ => rfl)⟩
theorem c_Lead__ready (E : Fx K mg) (C_is_free : C8.Cal P w K mg base 3 "is_free" (spOf K S_is_free) []) : PrpL P w K mg base 4 "ready" S_Lead__ready := by
  obtain ⟨p, g, fd, hp, F⟩ := E.p_Lead__ready
  obtain ⟨h1, h2⟩ := k_Lead__ready (P := P) (w := w) (base := base) E C_is_free F
  exact ⟨p, g, fd, _, E.ld.lc, hp, h1, h2⟩
abbrev N_Lead__again : List Str := ["self", "earlier", "many"]
abbrev scope_Lead__again : Scope := defScope (meth 56 6)
theorem sc_Lead__again : FnScope N_Lead__again ["self"] scope_Lead__again := ⟨rfl, rfl, rfl, by decide +kernel, rfl, by decide +kernel, by decide +kernel⟩
theorem b_Lead__again (E : Fx K mg)  : Body P w K mg base N_Lead__again "Lead.again" scope_Lead__again 0 (defBody (meth 56 6)) t_Lead__again := fun f cdv A outer s H E' p G hr => by
  have nd := sc_Lead__again.nd
  exact (sd_cons (sd_par 1 2 rfl nd (by decide) (ad_cons (pd_fld (fr_ahead (c := ⟨K, p⟩) (by exact E.ld)) (pd_fld (fr_stage (c := ⟨K, p⟩) (by exact E.ld)) (pd_var 0))) (ad_cons pd_int ad_nil)))
    (sd_cons (sd_while PassesOwn.never (fun G => (td_cmp op_notN lr_isnot (pd_var 1) pd_non)) (fun G => (sd_cons (sd_if (td_cmp (op_eqD hr.units) lr_eqD (pd_fld (fr_state (c := ⟨K, p⟩) (by exact E.ld)) (pd_var 1)) (pd_fld (fr_state (c := ⟨K, p⟩) (by exact E.ld)) (pd_fld (fr_stage (c := ⟨K, p⟩) (by exact E.ld)) (pd_var 0)))) (sd_one (sd_ret (pd_var 2))) sd_nil)
    (sd_one (sd_par 1 2 rfl nd (by decide) (ad_cons (pd_fld (fr_ahead (c := ⟨K, p⟩) (by exact E.ld)) (pd_var 1)) (ad_cons (pd_add (pd_var 2) pd_int) ad_nil)))))))
    (sd_one (sd_ret pd_non))))
theorem k_Lead__again (E : Fx K mg)  {f : Addr} {fd : FuncData} (F : FunD K "again" "Lead.again" (defArgs (meth 56 6)) (defBody (meth 56 6)) (defScope (meth 56 6)) [] [] f fd) : FnOk P w K mg base C8.CX0 1 f fd ["self"] (spOf K S_Lead__again) ∧ L2.Binds K fd ["self"] [] :=
  ⟨fn_ok F sc_Lead__again (fun xs P h => len_S_Lead__again h) (by decide) (fun cdv A outer s H E' p G hr => b_Lead__again E  f cdv A outer s H E' p G hr) d_Lead__again, F.bindsN (fun _ _ _ _ _ _ us hl => match us, hl with | [_], _ => rfl)⟩
theorem c_Lead__again (E : Fx K mg)  : PrpL P w K mg base 1 "again" S_Lead__again := by
  obtain ⟨p, g, fd, hp, F⟩ := E.p_Lead__again
  obtain ⟨h1, h2⟩ := k_Lead__again (P := P) (w := w) (base := base) E  F
  exact ⟨p, g, fd, _, E.ld.lc, hp, h1, h2⟩
abbrev N_Lead__program : List Str := ["self"]
abbrev scope_Lead__program : Scope := defScope (meth 56 1)
theorem sc_Lead__program : FnScope N_Lead__program ["self"] scope_Lead__program := ⟨rfl, rfl, rfl, by decide +kernel, rfl, by decide +kernel, by decide +kernel⟩
theorem b_Lead__program (E : Fx K mg)  : Body P w K mg base N_Lead__program "Lead.program" scope_Lead__program 0 (defBody (meth 56 1)) t_Lead__program := fun f cdv A outer s H E' p G hr => by
  have nd := sc_Lead__program.nd
  exact (sd_one (sd_ret (pd_fld (fr_led (c := ⟨K, p⟩) (by exact E.ld)) (pd_var 0))))
theorem k_Lead__program (E : Fx K mg)  {f : Addr} {fd : FuncData} (F : FunD K "program" "Lead.program" (defArgs (meth 56 1)) (defBody (meth 56 1)) (defScope (meth 56 1)) [] [] f fd) : FnOk P w K mg base C8.CX0 1 f fd ["self"] (spOf K S_Lead__program) ∧ L2.Binds K fd ["self"] [] :=
  ⟨fn_ok F sc_Lead__program (fun xs P h => len_S_Lead__program h) (by decide) (fun cdv A outer s H E' p G hr => b_Lead__program E  f cdv A outer s H E' p G hr) d_Lead__program, F.bindsN (fun _ _ _ _ _ _ us hl => match us, hl with | [_], _ => rfl)⟩
theorem c_Lead__program (E : Fx K mg)  : PrpL P w K mg base 1 "program" S_Lead__program := by
  obtain ⟨p, g, fd, hp, F⟩ := E.p_Lead__program
  obtain ⟨h1, h2⟩ := k_Lead__program (P := P) (w := w) (base := base) E  F
  exact ⟨p, g, fd, _, E.ld.lc, hp, h1, h2⟩
abbrev N_Lead____len__ : List Str := ["self"]
abbrev scope_Lead____len__ : Scope := defScope (meth 56 11)
theorem sc_Lead____len__ : FnScope N_Lead____len__ ["self"] scope_Lead____len__ := ⟨rfl, rfl, rfl, by decide +kernel, rfl, by decide +kernel, by decide +kernel⟩
theorem b_Lead____len__ (E : Fx K mg)  : Body P w K mg base N_Lead____len__ "Lead.__len__" scope_Lead____len__ 0 (defBody (meth 56 11)) t_Lead____len__ := fun f cdv A outer s H E' p G hr => by
  have nd := sc_Lead____len__.nd
  exact (sd_one (sd_ret (pd_fn call_len lc_len (by rfl) (by exact E.len) bt_len (ad_cons (pd_fld (fr_road (c := ⟨K, p⟩) (by exact E.ld)) (pd_fld (fr_stage (c := ⟨K, p⟩) (by exact E.ld)) (pd_var 0))) ad_nil))))
theorem k_Lead____len__ (E : Fx K mg)  {f : Addr} {fd : FuncData} (F : FunD K "__len__" "Lead.__len__" (defArgs (meth 56 11)) (defBody (meth 56 11)) (defScope (meth 56 11)) [] [] f fd) : FnOk P w K mg base C8.CX0 1 f fd ["self"] (spOf K S_Lead____len__) ∧ L2.Binds K fd ["self"] [] :=
  ⟨fn_ok F sc_Lead____len__ (fun xs P h => len_S_Lead____len__ h) (by decide) (fun cdv A outer s H E' p G hr => b_Lead____len__ E  f cdv A outer s H E' p G hr) d_Lead____len__, F.bindsN (fun _ _ _ _ _ _ us hl => match us, hl with | [_], _ => rfl)⟩
theorem c_Lead____len__ (E : Fx K mg)  : Spc P w K mg base 1 (ldC K) "__len__" (spOf K S_Lead____len__) := by
  obtain ⟨f, fd, F, hf, hi⟩ := E.m_Lead____len__
  obtain ⟨h1, h2⟩ := k_Lead____len__ (P := P) (w := w) (base := base) E  F
  exact ⟨f, hf, hi, raw_ok h1 h2⟩
abbrev N_Lead____bool__ : List Str := ["self"]
abbrev scope_Lead____bool__ : Scope := defScope (meth 56 12)
theorem sc_Lead____bool__ : FnScope N_Lead____bool__ ["self"] scope_Lead____bool__ := ⟨rfl, rfl, rfl, by decide +kernel, rfl, by decide +kernel, by decide +kernel⟩
theorem b_Lead____bool__ (E : Fx K mg)  : Body P w K mg base N_Lead____bool__ "Lead.__bool__" scope_Lead____bool__ 0 (defBody (meth 56 12)) t_Lead____bool__ := fun f cdv A outer s H E' p G hr => by
  have nd := sc_Lead____bool__.nd
  exact (sd_one (sd_ret pd_bl))
theorem k_Lead____bool__ (E : Fx K mg)  {f : Addr} {fd : FuncData} (F : FunD K "__bool__" "Lead.__bool__" (defArgs (meth 56 12)) (defBody (meth 56 12)) (defScope (meth 56 12)) [] [] f fd) : FnOk P w K mg base C8.CX0 1 f fd ["self"] (spOf K S_Lead____bool__) ∧ L2.Binds K fd ["self"] [] :=
  ⟨fn_ok F sc_Lead____bool__ (fun xs P h => len_S_Lead____bool__ h) (by decide) (fun cdv A outer s H E' p G hr => b_Lead____bool__ E  f cdv A outer s H E' p G hr) d_Lead____bool__, F.bindsN (fun _ _ _ _ _ _ us hl => match us, hl with | [_], _ => rfl)⟩
theorem c_Lead____bool__ (E : Fx K mg)  : Spc P w K mg base 1 (ldC K) "__bool__" (spOf K S_Lead____bool__) := by
  obtain ⟨f, fd, F, hf, hi⟩ := E.m_Lead____bool__
  obtain ⟨h1, h2⟩ := k_Lead____bool__ (P := P) (w := w) (base := base) E  F
  exact ⟨f, hf, hi, raw_ok h1 h2⟩
abbrev N__law_shows : List Str := ["_law_hand", "_law_mine", "_law_parts", "_law_states", "_law_road", "_law_place_here", "_law_spot_here", "_law_free", "_law_k", "_law_got"]
abbrev scope__law_shows : Scope := defScope (top 81)
theorem sc__law_shows : FnScope N__law_shows ["_law_hand", "_law_mine", "_law_parts", "_law_states", "_law_road"] scope__law_shows := ⟨rfl, rfl, rfl, by decide +kernel, rfl, by decide +kernel, by decide +kernel⟩
theorem b__law_shows (E : Fx K mg) (C_Program____eq__ : EqC P w K mg base 4 S_Program____eq__) (C__law_lets : C8.Cal P w K mg base 2 "_law_lets" (spOf K S__law_lets) []) (C__law_again : C8.Cal P w K mg base 1 "_law_again" (spOf K S__law_again) []) (C_Lead__place : PrpL P w K mg base 1 "place" S_Lead__place) (C_Lead__point : PrpL P w K mg base 1 "point" S_Lead__point) (C_Lead__taken : PrpL P w K mg base 1 "taken" S_Lead__taken) (C_Lead__ready : PrpL P w K mg base 4 "ready" S_Lead__ready) (C_Lead__again : PrpL P w K mg base 1 "again" S_Lead__again) (C_Lead__program : PrpL P w K mg base 1 "program" S_Lead__program) (C_Lead____len__ : Spc P w K mg base 1 (ldC K) "__len__" (spOf K S_Lead____len__)) (C_Lead____bool__ : Spc P w K mg base 1 (ldC K) "__bool__" (spOf K S_Lead____bool__)) : BodyG P w K mg base N__law_shows "_law_shows" scope__law_shows 5 (defBody (top 81)) t__law_shows := fun f cdv A outer s H E' p G hgd hr => by
  have nd := sc__law_shows.nd
  exact (sd_cons (sd_asg (g := (gTup K 2 (gNames [5, 6]))) (pd_ix (pd_var 3) (pd_neg pd_int)) (pg_tup rfl (pgs_cons (pg_name (i := 5) nd rfl (by first | exact Or.inl rfl | exact Or.inr rfl)) (pgs_cons (pg_name (i := 6) nd rfl (by first | exact Or.inl rfl | exact Or.inr rfl)) pgs_nil))) (g_tup [5, 6] 2 rfl))
    (sd_cons (sd_set 7 nd (pd_ty call_tuple_of lc_tuple (by rfl) (by exact E.tuple) bt_tuple (ad_cons (pd_l (pl_lc (own := [("_law_k", 8)]) (g := (gName 8)) rfl nd (id_rng1 (by rfl) (by exact E.range) (ad_cons (pd_fn call_len lc_len (by rfl) (by exact E.len) bt_len (ad_cons (pd_ix (pd_var 2) pd_int) ad_nil)) ad_nil)) (blkOk_by (N := N__law_shows) (sc := scope__law_shows) (by decide +kernel)) (g_name 8) (by decide) (fun _ _ _ _ _ => (pg_name (i := 8) nd rfl (by first | exact Or.inl rfl | exact Or.inr rfl))) (fun _ _ _ _ _ => (tsd_one (td_val (pd_call C__law_lets hr (ad_cons (pd_ix (pd_ix (pd_var 2) pd_int) (pd_var 8)) (ad_cons (pd_ix (pd_var 3) (pd_neg pd_int)) ad_nil)))))) (fun _ _ _ _ _ => (pd_var 8)))) ad_nil)))
    (sd_cons (sd_set 9 nd (pd_l (pl_lst (ad_cons (pd_propL C_Lead__place hr (pd_var 0)) (ad_cons (pd_propL C_Lead__point hr (pd_var 0)) (ad_cons (pd_propL C_Lead__taken hr (pd_var 0)) (ad_cons (pd_propL C_Lead__ready hr (pd_var 0)) (ad_cons (pd_propL C_Lead__again hr (pd_var 0)) (ad_cons (pd_lenLd C_Lead____len__ hS_Lead____len__ hr (pd_var 0) (by rfl) (by exact E.len)) (ad_cons (pd_boolLd C_Lead____bool__ hS_Lead____bool__ hr (pd_var 0) (by rfl) (by exact E.bool)) (ad_cons (pd_eqP C_Program____eq__ hr (by rfl) (pd_propL C_Lead__program hr (pd_var 0)) (pd_var 1)) ad_nil)))))))))))
    (sd_one (sd_ret (pd_cmp op_eq lr_eq (pd_repr hr hgd (pd_var 9) (by rfl) (by exact E.repr)) (pd_repr hr hgd (pd_l (pl_lst (ad_cons (pd_var 5) (ad_cons (pd_var 6) (ad_cons (pd_ty call_tuple_of lc_tuple (by rfl) (by exact E.tuple) bt_tuple (ad_cons (pd_var 4) ad_nil)) (ad_cons (pd_var 7) (ad_cons (pd_call C__law_again hr (ad_cons (pd_var 3) ad_nil)) (ad_cons (pd_fn call_len lc_len (by rfl) (by exact E.len) bt_len (ad_cons (pd_var 4) ad_nil)) (ad_cons pd_bl (ad_cons pd_bl ad_nil)))))))))) (by rfl) (by exact E.repr))))))))
end KK
set_option maxRecDepth 100000
set_option maxHeartbeats 2000000
/-! Printed by prefix.py: the beginnings of the defs that do more. -/
namespace KK
open PySem PySem.Spec PyProof.Rows L2 DL
variable {P : Program} {w : World} {K : PySem.W.Frag} {mg : Str → Option Value} {base : Heap}
abbrev N_Program____init__ : List Str := ["self", "names", "sayings", "branches", "at"]
abbrev scope_Program____init__ : Scope := defScope (meth 38 1)
theorem sc_Program____init__ : FnScope N_Program____init__ ["self", "names", "sayings", "branches"] scope_Program____init__ := ⟨rfl, rfl, rfl, by decide +kernel, rfl, by decide +kernel, by decide +kernel⟩
def t_Program____init__ : DS := (dSeq (dSet 4 (dCall S_wrong_name (dCons (dVar 1) dNil)))
    (dSeq (dIfS (dTest (dOp fIsNot (dVar 4) (dC .non))) dNever dNext)
    (dSeq (dSet 4 (dCall S_wrong_saying (dCons (dVar 2) (dCons (dFn (f1 fLen) (dCons (dVar 1) dNil)) dNil))))
    (dSeq (dIfS (dTest (dOp fIsNot (dVar 4) (dC .non))) dNever dNext)
    (dSeq (dSet 4 (dCall S_wrong_branch (dCons (dVar 2) (dCons (dVar 3) (dCons (dFn (f1 fLen) (dCons (dVar 1) dNil)) dNil)))))
    (dSeq (dIfS (dTest (dOp fIsNot (dVar 4) (dC .non))) dNever dNext)
    dNext))))))
theorem b_Program____init__ (E : Fx K mg) (C_wrong_branch : C8.Cal P w K mg base 5 "wrong_branch" (spOf K S_wrong_branch) []) (C_wrong_name : C8.Cal P w K mg base 2 "wrong_name" (spOf K S_wrong_name) []) (C_wrong_saying : C8.Cal P w K mg base 5 "wrong_saying" (spOf K S_wrong_saying) []) (f : Addr) (cdv : Value) (A : Around) (outer : List Env) (s : Shared) (H : Hp) (E' : XK) (p : Option Addr) (G : Gm) (hr : Room 5 (A.deeper (envOfC "Program.__init__" scope_Program____init__ s.heap.objs.size f cdv))) {T : TS} (hT : PSs (cxOf C8.CX0 P w K mg base N_Program____init__ "Program.__init__" scope_Program____init__ f cdv A outer s H E').nox ((defBody (meth 38 1)).drop 6) T) :
    PSs (cxOf C8.CX0 P w K mg base N_Program____init__ "Program.__init__" scope_Program____init__ f cdv A outer s H E').nox (defBody (meth 38 1)) (upP ⟨K, p⟩ G t_Program____init__ T) := by
  have nd := sc_Program____init__.nd
  exact (pre_cons (sd_set 4 nd (pd_call C_wrong_name hr (ad_cons (pd_var 1) ad_nil)))
    (pre_cons (sd_if (td_cmp op_notN lr_isnot (pd_var 4) pd_non) (sd_one sd_never) sd_nil)
    (pre_cons (sd_set 4 nd (pd_call C_wrong_saying hr (ad_cons (pd_var 2) (ad_cons (pd_fn call_len lc_len (by rfl) (by exact E.len) bt_len (ad_cons (pd_var 1) ad_nil)) ad_nil))))
    (pre_cons (sd_if (td_cmp op_notN lr_isnot (pd_var 4) pd_non) (sd_one sd_never) sd_nil)
    (pre_cons (sd_set 4 nd (pd_call C_wrong_branch hr (ad_cons (pd_var 2) (ad_cons (pd_var 3) (ad_cons (pd_fn call_len lc_len (by rfl) (by exact E.len) bt_len (ad_cons (pd_var 1) ad_nil)) ad_nil)))))
    (pre_cons (sd_if (td_cmp op_notN lr_isnot (pd_var 4) pd_non) (sd_one sd_never) sd_nil)
    (pre_nil hT)))))))
abbrev N_Lead____init__ : List Str := ["self", "program", "place", "point"]
abbrev scope_Lead____init__ : Scope := defScope (meth 56 0)
theorem sc_Lead____init__ : FnScope N_Lead____init__ ["self", "program", "place", "point"] scope_Lead____init__ := ⟨rfl, rfl, rfl, by decide +kernel, rfl, by decide +kernel, by decide +kernel⟩
def t_Lead____init__ : DS := (dSeq (dExpr (dCall S_check_program (dCons (dVar 1) dNil)))
    (dSeq (dExpr (dCall S_check_place (dCons (dVar 1) (dCons (dVar 2) dNil))))
    (dSeq (dExpr (dCall S_check_point (dCons (dVar 1) (dCons (dVar 3) dNil))))
    dNext)))
theorem b_Lead____init__ (E : Fx K mg) (C_check_place : C8.Cal P w K mg base 4 "check_place" (spOf K S_check_place) []) (C_check_point : C8.Cal P w K mg base 3 "check_point" (spOf K S_check_point) []) (C_check_program : C8.Cal P w K mg base 1 "check_program" (spOf K S_check_program) []) (f : Addr) (cdv : Value) (A : Around) (outer : List Env) (s : Shared) (H : Hp) (E' : XK) (p : Option Addr) (G : Gm) (hr : Room 4 (A.deeper (envOfC "Lead.__init__" scope_Lead____init__ s.heap.objs.size f cdv))) {T : TS} (hT : PSs (cxOf C8.CX0 P w K mg base N_Lead____init__ "Lead.__init__" scope_Lead____init__ f cdv A outer s H E').nox ((defBody (meth 56 0)).drop 3) T) :
    PSs (cxOf C8.CX0 P w K mg base N_Lead____init__ "Lead.__init__" scope_Lead____init__ f cdv A outer s H E').nox (defBody (meth 56 0)) (upP ⟨K, p⟩ G t_Lead____init__ T) := by
  have nd := sc_Lead____init__.nd
  exact (pre_cons (sd_expr (pd_call C_check_program hr (ad_cons (pd_var 1) ad_nil)))
    (pre_cons (sd_expr (pd_call C_check_place hr (ad_cons (pd_var 1) (ad_cons (pd_var 2) ad_nil))))
    (pre_cons (sd_expr (pd_call C_check_point hr (ad_cons (pd_var 1) (ad_cons (pd_var 3) ad_nil))))
    (pre_nil hT))))
abbrev N_Lead__take : List Str := ["self", "index", "stage", "branch", "later"]
abbrev scope_Lead__take : Scope := defScope (meth 56 7)
theorem sc_Lead__take : FnScope N_Lead__take ["self", "index"] scope_Lead__take := ⟨rfl, rfl, rfl, by decide +kernel, rfl, by decide +kernel, by decide +kernel⟩
def t_Lead__take : DS := (dSeq (dExpr (dCall S_check_index (dCons (dUn fLp (dVar 0)) (dCons (dVar 1) dNil))))
    (dSeq (dPar 2 3 (dCons (dUn fLs (dVar 0)) (dCons (dOp fIx (dUn fPB (dUn fLp (dVar 0))) (dVar 1)) dNil)))
    dNext))
theorem b_Lead__take (E : Fx K mg) (C_check_index : C8.Cal P w K mg base 3 "check_index" (spOf K S_check_index) []) (f : Addr) (cdv : Value) (A : Around) (outer : List Env) (s : Shared) (H : Hp) (E' : XK) (p : Option Addr) (G : Gm) (hr : Room 3 (A.deeper (envOfC "Lead.take" scope_Lead__take s.heap.objs.size f cdv))) {T : TS} (hT : PSs (cxOf C8.CX0 P w K mg base N_Lead__take "Lead.take" scope_Lead__take f cdv A outer s H E').nox ((defBody (meth 56 7)).drop 2) T) :
    PSs (cxOf C8.CX0 P w K mg base N_Lead__take "Lead.take" scope_Lead__take f cdv A outer s H E').nox (defBody (meth 56 7)) (upP ⟨K, p⟩ G t_Lead__take T) := by
  have nd := sc_Lead__take.nd
  exact (pre_cons (sd_expr (pd_call C_check_index hr (ad_cons (pd_fld (fr_led (c := ⟨K, p⟩) (by exact E.ld)) (pd_var 0)) (ad_cons (pd_var 1) ad_nil))))
    (pre_cons (sd_par 2 3 rfl nd (by decide) (ad_cons (pd_fld (fr_stage (c := ⟨K, p⟩) (by exact E.ld)) (pd_var 0)) (ad_cons (pd_ix (pd_pB (by exact E.pr) (pd_fld (fr_led (c := ⟨K, p⟩) (by exact E.ld)) (pd_var 0))) (pd_var 1)) ad_nil)))
    (pre_nil hT)))
abbrev N__law_begun : List Str := ["_law_script", "_law_turn_here", "_law_own", "_law_state", "_law_cell"]
abbrev scope__law_begun : Scope := defScope (top 58)
theorem sc__law_begun : FnScope N__law_begun ["_law_script", "_law_turn_here"] scope__law_begun := ⟨rfl, rfl, rfl, by decide +kernel, rfl, by decide +kernel, by decide +kernel⟩
def t__law_begun : DS := (dSeq (dSet 2 (dIf (dTest (dOp fLt (dVar 1) (dFn (f1 fLen) (dCons (dVar 0) dNil)))) (dOp fIx (dVar 0) (dVar 1)) (dC (.int 0))))
    (dSeq (dSet 3 (dOp fAdd (dC (.int 60013)) (dOp fMul (dC (.int 7727)) (dVar 1))))
    (dSeq (dFor (dItL (dL (dSlC (dVar 0) dOn (dOs (dC (.int 6)))))) (dgName 4) (dSet 3 (dOp fMod (dFn (f1 fInt) (dCons (dOp fAdd (dOp fAdd (dOp fMul (dVar 3) (dC (.int 30269))) (dOp fMul (dVar 4) (dC (.int 7)))) (dC (.int 13))) dNil)) (dC (.int 2147483629)))))
    dNext)))
theorem b__law_begun (E : Fx K mg)  (f : Addr) (cdv : Value) (A : Around) (outer : List Env) (s : Shared) (H : Hp) (E' : XK) (p : Option Addr) (G : Gm) (hr : Room 0 (A.deeper (envOfC "_law_begun" scope__law_begun s.heap.objs.size f cdv))) {T : TS} (hT : PSs (cxOf C8.CX0 P w K mg base N__law_begun "_law_begun" scope__law_begun f cdv A outer s H E').nox ((defBody (top 58)).drop 3) T) :
    PSs (cxOf C8.CX0 P w K mg base N__law_begun "_law_begun" scope__law_begun f cdv A outer s H E').nox (defBody (top 58)) (upP ⟨K, p⟩ G t__law_begun T) := by
  have nd := sc__law_begun.nd
  exact (pre_cons (sd_set 2 nd (pd_if (td_cmp op_lt lr_lt (pd_var 1) (pd_fn call_len lc_len (by rfl) (by exact E.len) bt_len (ad_cons (pd_var 0) ad_nil))) (pd_ix (pd_var 0) (pd_var 1)) pd_int))
    (pre_cons (sd_set 3 nd (pd_add pd_int (pd_mul pd_int (pd_var 1))))
    (pre_cons (sd_for (g := (gName 4)) PassesOwn.never rfl (id_lst (pd_l (pl_slC (pd_var 0) od_none (od_some pd_int)))) (pg_name (i := 4) nd rfl (by first | exact Or.inl rfl | exact Or.inr rfl)) (g_name 4) (fun G => (sd_one (sd_set 3 nd (pd_mod (pd_ty call_int1 lc_int (by rfl) (by exact E.int) bt_int (ad_cons (pd_add (pd_add (pd_mul (pd_var 3) pd_int) (pd_mul (pd_var 4) pd_int)) pd_int) ad_nil)) pd_int)))))
    (pre_nil hT))))
end KK
set_option maxRecDepth 100000
set_option maxHeartbeats 2000000
namespace KK
open PySem PySem.Spec PyProof.Rows L2 DL
variable {P : Program} {w : World} {K : PySem.W.Frag} {mg : Str → Option Value} {base : Heap}
/-! ### data without leads -/
theorem nlDs_all : ∀ {ds : List D}, (∀ d ∈ ds, nlD d = true) → nlDs ds = true
  | [], _ => by unfold nlDs; rfl
  | d :: ds, h => by
    unfold nlDs
    rw [h d (by simp), nlDs_all fun x hx => h x (by simp [hx])]; rfl
theorem nl_F (f : List Int) : nlD (dF f) = true := by
  unfold dF nlD
  exact nlDs_all fun d hd => by obtain ⟨i, _, rfl⟩ := List.mem_map.mp hd; unfold nlD; rfl
theorem nl_Fs (fs : List (List Int)) : nlD (dFs fs) = true := by
  unfold dFs nlD
  exact nlDs_all fun d hd => by obtain ⟨i, _, rfl⟩ := List.mem_map.mp hd; exact nl_F i
theorem nl_str (z : Str) : nlD (.str z) = true := by unfold nlD; rfl
theorem nl_int (z : Int) : nlD (.int z) = true := by unfold nlD; rfl
theorem nl_non : nlD .non = true := by unfold nlD; rfl
theorem nl_bl (b : Bool) : nlD (.bl b) = true := by unfold nlD; rfl
theorem nl_tup {ds : List D} (h : ∀ d ∈ ds, nlD d = true) : nlD (.tup ds) = true := by unfold nlD; exact nlDs_all h
theorem nl_lst {ds : List D} (h : ∀ d ∈ ds, nlD d = true) : nlD (.lst ds) = true := by unfold nlD; exact nlDs_all h
theorem nl_Br (b : Br) : nlD (dBr b) = true := nl_tup fun d hd => by
  simp at hd
  rcases hd with e | e | e | e <;> rw [e] <;> first | exact nl_str _ | exact nl_Fs _
theorem nl_Sy (s : Sy) : nlD (dSy s) = true := nl_tup fun d hd => by
  simp at hd
  rcases hd with e | e <;> rw [e] <;> first | exact nl_str _ | exact nl_F _
theorem nl_Nm (ns : List Str) : nlD (dNm ns) = true := nl_tup fun d hd => by obtain ⟨i, _, rfl⟩ := List.mem_map.mp hd; exact nl_str i
theorem nl_Ss (ns : List Sy) : nlD (dSs ns) = true := nl_tup fun d hd => by obtain ⟨i, _, rfl⟩ := List.mem_map.mp hd; exact nl_Sy i
theorem nl_Bs (ns : List Br) : nlD (dBs ns) = true := nl_tup fun d hd => by obtain ⟨i, _, rfl⟩ := List.mem_map.mp hd; exact nl_Br i
theorem nl_Pg (p : Pt) : nlD (dPg p) = true := by
  unfold dPg nlD
  rw [nl_Nm, nl_Ss, nl_Bs]; rfl
theorem nl_Pt (p : Pt) : nlD (dPt p) = true := nl_lst fun d hd => by
  simp at hd
  rcases hd with e | e | e <;> rw [e] <;> first | exact nl_Nm _ | exact nl_Ss _ | exact nl_Bs _
theorem nl_St (s : Sta) : nlD (dSt s) = true := nl_tup fun d hd => by
  simp at hd
  rcases hd with e | e <;> rw [e] <;> first | exact nl_str _ | exact nl_F _
theorem nl_Hist : ∀ h : List (Sta × List Int), nlD (dHist h) = true
  | [] => nl_non
  | (s, r) :: t => by
    unfold dHist nlD
    rw [nl_St, nl_F, nl_Hist t]; rfl
/-! ### the pail is none of the objects -/
theorem pail_ne {c : Cf} {H : Hp} {q : Addr} {n : Nat} (hp : PlN c n H) (e : c.pl = some q) {o : HO} (ho : H q = some o) (hl : ∀ xs, o ≠ .lst xs) : False := by
  obtain ⟨z, ⟨_, x, y, w, h, _⟩, _⟩ := hp q e
  rw [ho] at h
  exact hl _ (Option.some.inj h)
theorem rps3 {c : Cf} {H : Hp} {a b d : D} {us : List V} (r : Rps c H [a, b, d] us) : ∃ u v x, us = [u, v, x] ∧ Rp c H a u ∧ Rp c H b v ∧ Rp c H d x := by
  unfold Rps at r
  obtain ⟨u, us', rfl, r1, r⟩ := r
  obtain ⟨v, x, rfl, r2, r3⟩ := rps2 r
  exact ⟨u, v, x, rfl, r1, r2, r3⟩
theorem k_Program (E : Fx K mg) (C1 : C8.Cal P w K mg base 5 "wrong_branch" (spOf K S_wrong_branch) []) (C2 : C8.Cal P w K mg base 2 "wrong_name" (spOf K S_wrong_name) []) (C3 : C8.Cal P w K mg base 5 "wrong_saying" (spOf K S_wrong_saying) []) {f : Addr} {fd : FuncData}
    (F : FunD K "__init__" "Program.__init__" (defArgs (meth 38 1)) (defBody (meth 38 1)) (defScope (meth 38 1)) [] [] f fd) : FnOk P w K mg base C8.CX0 8 f fd ["self", "names", "sayings", "branches"] (spInit K (progC K) S_Program) := by
  refine F.ok sc_Program____init__ (fun vs H Q E ⟨p, x, dx, xs, us, P0, e, _, _, _, _, r, ⟨pt, ex, _, _⟩, _⟩ => by rw [e, List.length_cons, r.length, ex]; rfl) fun cdv A outer s H vs Q E' hr ⟨p, x, dx, xs, us, P0, e, hx, hdx, hne, hp, r, ⟨pt, ex, hP, hQ⟩, kk⟩ => ?_
  subst e ex
  obtain ⟨un, us', ub, rfl, r1, r2, r3⟩ := rps3 r
  obtain ⟨zt, R, hz⟩ := reps_startA (N := N_Program____init__) (as := [.raw (.ref x), .val (dNm pt.names), .val (dSs pt.says), .val (dBs pt.arms)]) hp (.raw (.val r1 (.val r2 (.val r3 .nil))))
  refine ⟨_, PSs.nox (b_Program____init__ (p := p) (G := Gm.at p H zt) E C1 C2 C3 f cdv A outer s H E' (hr.mono (by decide)) (pss_cons (SlX.ps_sl (pe_var (i := 0) rfl (Or.inl rfl)) (pe_var (i := 1) rfl (Or.inl rfl))) (pss_cons (SlX.ps_sl (pe_var (i := 0) rfl (Or.inl rfl)) (pe_var (i := 2) rfl (Or.inl rfl))) (pss_one (SlX.ps_sl (pe_var (i := 0) rfl (Or.inl rfl)) (pe_var (i := 3) rfl (Or.inl rfl))))))), ?_⟩
  refine upT_run R (fun ss => ∃ u, ss = [.raw (.ref x), .val (dNm pt.names), .val (dSs pt.says), .val (dBs pt.arms), u]) ?_ fun σ' H' ss' ow' R' ⟨u, hss⟩ => ?_
  · simp [t_Program____init__, startA, dNm]
    refine ⟨pt.names, rfl, hP.n0, hP.n3, hP.nd, hP.nn, ?_⟩
    simp
    refine ⟨pt.says, pt.names.length, rfl, hP.n3, hP.s3, hP.ss, ?_⟩
    simp
    refine ⟨pt.says, pt.arms, pt.names.length, rfl, hP.n3, hP.s3, hP.a0, hP.a5, hP.aa, hP.pl, ?_⟩
    simp
  · subst hss
    have h0 := R'.raw 0 _ rfl
    obtain ⟨v1, e1, q1⟩ := R'.val 1 _ rfl
    obtain ⟨v2, e2, q2⟩ := R'.val 2 _ rfl
    obtain ⟨v3, e3, q3⟩ := R'.val 3 _ rfl
    have hx' : H' x = some (.ins (progC K) dx []) := R'.keep x _ hx fun z => pail_ne hp z hx (fun _ z => nomatch z)
    have hdx' : H' dx = some (.own x) := R'.keep dx _ hdx fun z => pail_ne hp z hdx (fun _ z => nomatch z)
    have lm := lem_slH (vs := [some v3, some v1, some v2]) hx' hdx'
    obtain ⟨pn, hn⟩ := E.pr.n
    obtain ⟨ps, hs⟩ := E.pr.s
    obtain ⟨pb, hb⟩ := E.pr.b
    refine ⟨v1, e1, _, h0, x, progC K, dx, pn, [], 1, rfl, .inl ⟨hx', rfl⟩, E.pr.cls, hn, ?_⟩
    refine ⟨v2, e2, _, h0, x, progC K, dx, ps, _, 2, rfl, SlX.slH_slt hne, E.pr.cls, hs, ?_⟩
    refine ⟨v3, e3, _, h0, x, progC K, dx, pb, _, 0, rfl, by rw [SlX.slH_twice hne]; exact SlX.slH_slt hne, E.pr.cls, hb, ?_⟩
    rw [SlX.slH_twice hne, SlX.slH_twice hne]
    show Q .non (SlX.slH H' x (progC K) dx [some v3, some v1, some v2])
    refine kk (dPg pt) _ ⟨fun b o e n1 n2 n3 => slH_kept b o (R'.keep b o e n3) n1 n2, fun q z e hq => ?_⟩ ?_ hQ
    · obtain ⟨⟨z', hz', _, _⟩, _⟩ := R'.pl q e
      obtain ⟨z0, a1, a2, a3, a4, a5⟩ := hz'
      obtain ⟨y0, _⟩ := hq
      have nx : q ≠ x := fun z => by subst z; exact pail_ne hp e hx (fun _ z => nomatch z)
      have nd : q ≠ dx := fun z => by subst z; exact pail_ne hp e hdx (fun _ z => nomatch z)
      exact ⟨y0, a1, a2, a3, slH_kept _ _ a4 nx nd, a5⟩
    · unfold dPg Rp
      exact ⟨x, dx, v1, v2, v3, rfl, SlX.slH_slt hne, q1.mut lm _ _ (nl_Nm _), q2.mut lm _ _ (nl_Ss _), q3.mut lm _ _ (nl_Bs _)⟩
def g_pg {α : Type} : List α → List α
  | [b, n, s] => [n, s, b]
  | l => l
theorem vals_pg {zs : List V} {ws : List Value} (r : Vals zs ws) : Vals (g_pg zs) (g_pg ws) := by
  cases r with
  | nil => exact .nil
  | cons a r =>
    cases r with
    | nil => exact .cons a .nil
    | cons b r =>
      cases r with
      | nil => exact .cons a (.cons b .nil)
      | cons d r =>
        cases r with
        | nil => exact .cons b (.cons d (.cons a .nil))
        | cons e r => exact .cons a (.cons b (.cons d (.cons e r)))
theorem rps_pg {c : Cf} {H : Hp} {xs : List D} {vs : List V} (r : Rps c H xs vs) (hl : xs.length = 3) : Rps c H (g_pg xs) (g_pg vs) := by
  match xs, hl with
  | [a, b, d], _ =>
    obtain ⟨u, v, x, rfl, r1, r2, r3⟩ := rps3 r
    exact .cons r2 (.cons r3 (.one r1))
theorem c_Program (E : Fx K mg) (C1 : C8.Cal P w K mg base 5 "wrong_branch" (spOf K S_wrong_branch) []) (C2 : C8.Cal P w K mg base 2 "wrong_name" (spOf K S_wrong_name) []) (C3 : C8.Cal P w K mg base 5 "wrong_saying" (spOf K S_wrong_saying) []) :
    MkC P w K mg base 8 "Program" (progC K) ["names", "sayings", "branches"] S_Program ∧ MkK P w K mg base 8 "Program" (progC K) ["names", "sayings", "branches"] ["branches", "names", "sayings"] g_pg S_Program := by
  obtain ⟨f, fd, F, M⟩ := E.i_Program
  have h := k_Program (P := P) (w := w) (base := base) E C1 C2 C3 F
  refine ⟨⟨f, fd, M, h, E.mpr, F.bindsN fun _ _ _ _ _ _ us hl => match us, hl with | [_, _, _, _], _ => rfl⟩, ⟨f, fd, M, h, E.mpr, ?_⟩⟩
  obtain ⟨oc, od, dV, kV, doc, pm, an, cdv, ct, osl, rfl, lk, hcd, hD, hK⟩ := F.ex
  rcases hD with ⟨_, rfl⟩ | ⟨e, _⟩
  · refine ⟨fun s us ws _ l1 l2 => ?_, fun r1 r2 => r1.append (vals_pg r2)⟩
    match us, ws, l1, l2 with
    | [u], [b, n, z], _, _ => exact .of_eq rfl
  · exact absurd rfl e
end KK
set_option maxRecDepth 100000
set_option maxHeartbeats 2000000
namespace KK
open PySem PySem.Spec PyProof.Rows L2 DL
variable {P : Program} {w : World} {K : PySem.W.Frag} {mg : Str → Option Value} {base : Heap}
theorem put1 (y : V) : putF "state" y [] = ([("state", y)] : List (Str × V)) := rfl
theorem put2 (x y : V) : putF "road" y ([("state", x)] : List (Str × V)) = ([("state", x), ("road", y)] : List (Str × V)) := by
  unfold putF; rw [if_neg (by decide)]; rfl
theorem put3 (x y z : V) : putF "ahead" z ([("state", x), ("road", y)] : List (Str × V)) = ([("state", x), ("road", y), ("ahead", z)] : List (Str × V)) := by
  unfold putF; rw [if_neg (by decide)]; unfold putF; rw [if_neg (by decide)]; rfl
theorem put4 (y : V) : putF "led" y [] = ([("led", y)] : List (Str × V)) := rfl
theorem put5 (x y : V) : putF "stage" y ([("led", x)] : List (Str × V)) = ([("led", x), ("stage", y)] : List (Str × V)) := by
  unfold putF; rw [if_neg (by decide)]; rfl
theorem put6 (x y z : V) : putF "stage" z ([("led", x), ("stage", y)] : List (Str × V)) = ([("led", x), ("stage", z)] : List (Str × V)) := by
  unfold putF; rw [if_neg (by decide)]; unfold putF; rw [if_pos (by decide)]
theorem upd_twice {H : Hp} {a : Addr} {u v : HO} : upd (upd H a u) a v = upd H a v := by
  funext b
  by_cases h : b = a
  · rw [h, upd_same, upd_same]
  · rw [upd_ne h, upd_ne h, upd_ne h]
theorem stepB_upd {c : Cf} {H H' : Hp} {x dx : Addr} {o : HO} {n : Nat} (hp : PlN c n H) {o0 : HO} (h0 : H x = some o0) (hl : ∀ xs, o0 ≠ .lst xs) (s : ∀ b o, H b = some o → b ≠ x → c.pl ≠ some b → H' b = some o) (sp : ∀ p z, c.pl = some p → Pail H p z → Pail H' p z) : StepB c x dx H (upd H' x o) :=
  ⟨fun b u e n1 n2 n3 => by rw [upd_ne n1]; exact s b u e n1 n3, fun q z e hq => by
    obtain ⟨z0, a1, a2, a3, a4, a5⟩ := sp q z e hq
    have nx : q ≠ x := fun z => by subst z; exact pail_ne hp e h0 hl
    exact ⟨z0, a1, a2, a3, by rw [upd_ne nx]; exact a4, a5⟩⟩
theorem sc_stage : FnScope ["self", "state", "road", "ahead"] ["self", "state", "road", "ahead"] (defScope (meth 55 0)) := ⟨rfl, rfl, rfl, by decide +kernel, rfl, by decide +kernel, by decide +kernel⟩
theorem k_Stage (E : Fx K mg) {f : Addr} {fd : FuncData} (F : FunD K "__init__" "Stage.__init__" (defArgs (meth 55 0)) (defBody (meth 55 0)) (defScope (meth 55 0)) [] [] f fd) : FnOk P w K mg base C8.CX0 1 f fd ["self", "state", "road", "ahead"] (spInit K (stgC K) S_Stage) := by
  refine F.ok sc_stage (fun vs H Q E ⟨p, x, dx, xs, us, P0, e, _, _, _, _, r, ⟨s, t, a, ex, _⟩, _⟩ => by rw [e, List.length_cons, r.length, ex]; rfl) fun cdv A outer s H vs Q E' hr ⟨p, x, dx, xs, us, P0, e, hx, hdx, hne, hp, r, ⟨ds, dr, da, ex, n1, n2, n3, hQ⟩, kk⟩ => ?_
  subst e ex
  obtain ⟨u1, u2, u3, rfl, r1, r2, r3⟩ := rps3 r
  refine ⟨_, PSs.nox (pss_cons (ps_fld (pe_var (i := 0) rfl (Or.inl rfl)) (pe_var (i := 1) rfl (Or.inl rfl)) rfl) (pss_cons (ps_fld (pe_var (i := 0) rfl (Or.inl rfl)) (pe_var (i := 2) rfl (Or.inl rfl)) rfl) (pss_one (ps_fld (pe_var (i := 0) rfl (Or.inl rfl)) (pe_var (i := 3) rfl (Or.inl rfl)) rfl)))), ?_⟩
  refine ⟨u1, rfl, _, rfl, x, _, dx, [], rfl, hx, E.ld.sc, E.ld.ss, by decide, ?_⟩
  refine ⟨u2, rfl, _, rfl, x, _, dx, _, rfl, upd_same, E.ld.sc, E.ld.sr, by rw [put1]; exact (show 1 < 1000 by decide), ?_⟩
  refine ⟨u3, rfl, _, rfl, x, _, dx, _, rfl, upd_same, E.ld.sc, E.ld.sa, by rw [put1, put2]; exact (show 2 < 1000 by decide), ?_⟩
  rw [upd_twice, upd_twice, put1, put2, put3]
  have lm : LeM H (upd H x (.ins (stgC K) dx [("state", u1), ("road", u2), ("ahead", u3)])) := lem_ins hx (by decide)
  refine kk (.stg ds dr da) _ (stepB_upd hp hx (fun _ z => nomatch z) (fun _ _ e _ _ => e) (fun _ _ _ h => h)) ?_ hQ
  unfold Rp
  exact ⟨x, dx, u1, u2, u3, rfl, upd_same, r1.mut lm _ _ n1, r2.mut lm _ _ n2, r3.mut lm _ _ n3⟩
theorem c_Stage (E : Fx K mg) : MkC P w K mg base 1 "Stage" (stgC K) ["state", "road", "ahead"] S_Stage := by
  obtain ⟨f, fd, F, M⟩ := E.i_Stage
  exact ⟨f, fd, M, k_Stage E F, E.g_Stage, F.bindsN fun _ _ _ _ _ _ us hl => match us, hl with | [_, _, _, _], _ => rfl⟩
theorem dSt_eq (s : Sta) : dSt s = .tup [.str s.pl, dF s.pt] := rfl
theorem k_Lead (E : Fx K mg) (C1 : C8.Cal P w K mg base 4 "check_place" (spOf K S_check_place) []) (C2 : C8.Cal P w K mg base 3 "check_point" (spOf K S_check_point) []) (C3 : C8.Cal P w K mg base 1 "check_program" (spOf K S_check_program) []) (C4 : MkC P w K mg base 1 "Stage" (stgC K) ["state", "road", "ahead"] S_Stage) {f : Addr} {fd : FuncData}
    (F : FunD K "__init__" "Lead.__init__" (defArgs (meth 56 0)) (defBody (meth 56 0)) (defScope (meth 56 0)) [] [] f fd) : FnOk P w K mg base C8.CX0 5 f fd ["self", "program", "place", "point"] (spInit K (ldC K) S_Lead) := by
  refine F.ok sc_Lead____init__ (fun vs H Q E ⟨p, x, dx, xs, us, P0, e, _, _, _, _, r, ⟨pt, st, ex, _⟩, _⟩ => by rw [e, List.length_cons, r.length, ex]; rfl) fun cdv A outer s H vs Q E' hr ⟨p, x, dx, xs, us, P0, e, hx, hdx, hne, hp, r, ⟨pt, st, ex, g1, g2, g3, g4, g5, hQ⟩, kk⟩ => ?_
  subst e ex
  obtain ⟨u1, u2, u3, rfl, r1, r2, r3⟩ := rps3 r
  obtain ⟨zt, R, hz⟩ := reps_startA (N := N_Lead____init__) (as := [.raw (.ref x), .val (dPg pt), .val (.str st.pl), .val (dF st.pt)]) hp (.raw (.val r1 (.val r2 (.val r3 .nil))))
  refine ⟨_, PSs.nox (b_Lead____init__ (p := p) (G := Gm.at p H zt) E C1 C2 C3 f cdv A outer s H E' hr (pss_cons (ps_fld (pe_var (i := 0) rfl (Or.inl rfl)) (pe_var (i := 1) rfl (Or.inl rfl)) rfl) (pss_one (ps_fld (pe_var (i := 0) rfl (Or.inl rfl)) (pe_X (p := p) fun G => pd_mk C4 hr (ad_cons (pd_tup (ad_cons (pd_var 2) (ad_cons (pd_var 3) ad_nil))) (ad_cons (pd_tup ad_nil) (ad_cons pd_non ad_nil)))) rfl)))), ?_⟩
  refine upT_run R (fun ss => ss = [.raw (.ref x), .val (dPg pt), .val (.str st.pl), .val (dF st.pt)]) ?_ fun σ' H' ss' ow' R' hss => ?_
  · simp [t_Lead____init__, startA, S_check_program, dPg]
    refine ⟨dNm pt.names, pt.says, pt.arms, st.pl, rfl, g1, g2, g3, ?_⟩
    exact ⟨pt.names.map .str, dSs pt.says, dBs pt.arms, st.pt, rfl, by simpa using g4, g5, trivial⟩
  · subst hss
    have h0 := R'.raw 0 _ rfl
    obtain ⟨v1, e1, q1⟩ := R'.val 1 _ rfl
    have hx' : H' x = some (.ins (ldC K) dx []) := R'.keep x _ hx fun z => pail_ne hp z hx (fun _ z => nomatch z)
    have lm : LeM H' (upd H' x (.ins (ldC K) dx [("led", v1)])) := lem_ins hx' (by decide)
    refine ⟨v1, e1, _, h0, x, _, dx, [], rfl, hx', E.ld.lc, E.ld.ll, by decide, ?_⟩
    rw [put4]
    have RX : RepX ⟨K, p⟩ H' σ' [.raw (.ref x), .val (dPg pt), .val (.str st.pl), .val (dF st.pt)] := ⟨_, _, R'⟩
    have RX1 := RX.mut lm (by simp [nlSl, nl_Pg, nl_str, nl_F])
    refine ⟨_, (fun d => d = D.stg (dSt st) (dF []) .non), RX1, ?_, fun d v2 H2 s2 rd hd => ?_⟩
    · simp [S_Stage]
      refine ⟨small_le (by decide), small_le (by decide), dSt st, dF [], .non, ⟨rfl, rfl, rfl⟩, nl_St _, nl_F _, nl_non, ⟨rfl, rfl, rfl⟩⟩
    · subst hd
      have hpl : (⟨K, p⟩ : Cf).pl ≠ some x := fun z => pail_ne hp z hx (fun _ z => nomatch z)
      have hx2 : H2 x = some (.ins (ldC K) dx [("led", v1)]) := s2.1 x _ upd_same hpl
      refine ⟨_, h0, x, _, dx, _, rfl, hx2, E.ld.lc, E.ld.ls, (show 1 < 1000 by decide), ?_⟩
      rw [put5]
      have lm2 : LeM H2 (upd H2 x (.ins (ldC K) dx [("led", v1), ("stage", v2)])) := lem_ins hx2 (show 1 ≠ 3 by decide)
      refine kk (dLd x pt [(st, [])]) _ (stepB_upd hp hx (fun _ z => nomatch z) (fun b o e n1 n2 => s2.1 b o (by rw [upd_ne n1]; exact R'.keep b o e n2) n2) (fun q z e hq => s2.pail0 q z e ?_)) ?_ (hQ x)
      · obtain ⟨⟨z', hz', _, _⟩, _⟩ := R'.pl q e
        obtain ⟨z0, a1, a2, a3, a4, a5⟩ := hz'
        have nx : q ≠ x := fun z => hpl (by rw [← z]; exact e)
        exact ⟨hq.1, a1, a2, a3, by rw [upd_ne nx]; exact a4, a5⟩
      · unfold dLd Rp
        exact ⟨x, dx, v1, v2, rfl, rfl, upd_same, ((q1.mut lm _ _ (nl_Pg _)).le (s2.le RX1.pail) _ _).mut lm2 _ _ (nl_Pg _), rd.mut lm2 _ _ (nl_Hist [(st, [])])⟩
end KK
set_option maxRecDepth 100000
set_option maxHeartbeats 2000000
namespace KK
open PySem PySem.Spec PyProof.Rows L2 DL
variable {P : Program} {w : World} {K : PySem.W.Frag} {mg : Str → Option Value} {base : Heap}
abbrev stkC (K : PySem.W.Frag) : Addr := clsA K "Stuck"
abbrev aeT : List Value := [.type "ArithmeticError", .type "Exception", .type "BaseException", .type "object"]
/-! ### Stuck -/
def spStk (K : PySem.W.Frag) : Sp := fun vs H Q _ => ∃ (a : Addr) (k : Int), vs = [.ref a, .int k] ∧ H a = some (exo a (stkC K) none) ∧ ∀ dx, H dx = none → dx ≠ a → Q .non (upd (upd H dx (exd dx [("index", .int k)])) a (exo a (stkC K) (some dx)))
theorem sc_stk : FnScope ["self", "index"] ["self", "index"] (defScope (meth 13 0)) := ⟨rfl, rfl, rfl, by decide +kernel, rfl, by decide +kernel, by decide +kernel⟩
theorem k_Stuck (E : Fx K mg) {f : Addr} {fd : FuncData} (F : FunD K "__init__" "Stuck.__init__" (defArgs (meth 13 0)) (defBody (meth 13 0)) (defScope (meth 13 0)) [] [] f fd) : FnOk P w K mg base C8.CX0 1 f fd ["self", "index"] (spStk K) := by
  refine F.ok sc_stk (fun vs H Q E ⟨a, k, e, _⟩ => by rw [e]; rfl) fun cdv A outer s H vs Q E' hr ⟨a, k, e, ha, kk⟩ => ?_
  subst e
  refine ⟨_, PSs.nox (pss_one (ps_exS base_AE (pe_var (i := 0) rfl (Or.inl rfl)) (pe_var (i := 1) rfl (Or.inl rfl)))), ?_⟩
  exact ⟨_, rfl, _, rfl, a, stkC K, rfl, E.exS, E.exn, ha, kk⟩
/-! ### take -/
def spTake (K : PySem.W.Frag) : Sp := fun vs H Q E => ∃ (p : Option Addr) (x dx : Addr) (vp vst : V) (pt : Pt) (s : Sta) (r : List Int) (t : List (Sta × List Int)) (k : Nat) (b : Br), vs = [.ref x, .int k] ∧ H x = some (.ins (ldC K) dx [("led", vp), ("stage", vst)]) ∧ Rp ⟨K, p⟩ H (dPg pt) vp ∧
  Rp ⟨K, p⟩ H (dHist ((s, r) :: t)) vst ∧ PlN ⟨K, p⟩ 0 H ∧ PtF pt s ∧ pt.arms[k]? = some b ∧ r.length ≤ 1000 ∧
  (free b s = true → ∀ H1 v v2, Step ⟨K, p⟩ 0 H H1 → Rp ⟨K, p⟩ H1 (dHist ((⟨b.tgt, mvd b s.pt⟩, r ++ [(k : Int)]) :: (s, r) :: t)) v2 → Rp ⟨K, p⟩ H1 (dF (mvd b s.pt)) v → Q v (upd H1 x (.ins (ldC K) dx [("led", vp), ("stage", v2)]))) ∧
  (free b s = false → ∀ dd H1, Step ⟨K, p⟩ 0 H H1 → H1 dd = some (.xd [("index", .int k)]) → H dd = none → E (.ref (stkC K)) (some dd) H1)
abbrev N_take : List Str := ["self", "index", "stage", "branch", "later"]
theorem sc_take : FnScope N_take ["self", "index"] (defScope (meth 56 7)) := ⟨rfl, rfl, rfl, by decide +kernel, rfl, by decide +kernel, by decide +kernel⟩
theorem k_take (E : Fx K mg) (C_is_free : C8.Cal P w K mg base 3 "is_free" (spOf K S_is_free) []) (C_check_index : C8.Cal P w K mg base 3 "check_index" (spOf K S_check_index) []) (C_moved : C8.Cal P w K mg base 2 "moved" (spOf K S_moved) []) (C_Stage : MkC P w K mg base 1 "Stage" (stgC K) ["state", "road", "ahead"] S_Stage) {f : Addr} {fd : FuncData}
    (F : FunD K "take" "Lead.take" (defArgs (meth 56 7)) (defBody (meth 56 7)) (defScope (meth 56 7)) [] [] f fd) : FnOk P w K mg base (L2.CX P w) 5 f fd ["self", "index"] (spTake K) := by
  obtain ⟨fi, fdi, Fi, hi, hti⟩ := E.exi
  have FI := k_Stuck (P := P) (w := w) (mg := mg) (base := base) E Fi
  refine F.ok sc_take (fun vs H Q E ⟨p, x, dx, vp, vst, pt, s, r, t, k, b, e, _⟩ => by rw [e]; rfl) fun cdv A outer s H vs Q E' hr ⟨p, x, dx, vp, vst, pt, st, r, t, k, b, e, hx, r1, r2, hp, hF, hb, hrl, kyes, kno⟩ => ?_
  subst e
  have nd := sc_take.nd
  have rl : Rp ⟨K, p⟩ H (dLd x pt ((st, r) :: t)) (.ref x) := by
    unfold dLd Rp
    exact ⟨x, dx, vp, vst, rfl, rfl, hx, r1, r2⟩
  have hpl : (⟨K, p⟩ : Cf).pl ≠ some x := fun z => pail_ne hp z hx (fun _ z => nomatch z)
  obtain ⟨zt, R, hz⟩ := reps_startA (N := N_take) (as := [.val (dLd x pt ((st, r) :: t)), .val (.int k)]) hp (.val rl (.val rfl .nil))
  refine ⟨_, pss_cons (sd_expr (p := p) (G := Gm.at p H zt) (pd_call C_check_index hr (ad_cons (pd_fld (fr_led (c := ⟨K, p⟩) (by exact E.ld)) (pd_var 0)) (ad_cons (pd_var 1) ad_nil))))
    (pss_cons (sd_par (p := p) (G := Gm.at p H zt) 2 3 rfl nd (by decide) (ad_cons (pd_fld (fr_stage (c := ⟨K, p⟩) (by exact E.ld)) (pd_var 0)) (ad_cons (pd_ix (pd_pB (by exact E.pr) (pd_fld (fr_led (c := ⟨K, p⟩) (by exact E.ld)) (pd_var 0))) (pd_var 1)) ad_nil)))
    (pss_cons (ps_if (td_not (p := p) (G := Gm.at p H zt) (td_val (pd_call C_is_free hr (ad_cons (pd_var 3) (ad_cons (pd_ix (pd_fld (fr_state (c := ⟨K, p⟩) (by exact E.ld)) (pd_var 2)) pd_int) (ad_cons (pd_ix (pd_fld (fr_state (c := ⟨K, p⟩) (by exact E.ld)) (pd_var 2)) pd_int) ad_nil))))))
      (pss_one (ps_raise rfl (takes_of rfl rfl rfl rfl) (pmk_ex base_AE E.exS hi hti FI (hr.mono (by decide)) (Fi.bindsN fun _ _ _ _ _ _ us hl => match us, hl with | [_, _], _ => rfl) rfl E.gS (pa_cons (pe_var (i := 1) rfl (Or.inl rfl)) pa_nil)))) pss_nil)
    (pss_cons (sd_set (p := p) (G := Gm.at p H zt) 4 nd (pd_call C_moved hr (ad_cons (pd_var 3) (ad_cons (pd_ix (pd_fld (fr_state (c := ⟨K, p⟩) (by exact E.ld)) (pd_var 2)) pd_int) ad_nil))))
    (pss_cons (ps_fld (pe_var (i := 0) rfl (Or.inl rfl)) (pd_mk (p := p) (G := Gm.at p H zt) C_Stage hr (ad_cons (pd_tup (ad_cons (pd_ix (pd_var 3) pd_int) (ad_cons (pd_var 4) ad_nil))) (ad_cons (pd_tup (ad_star (pd_fld (fr_road (c := ⟨K, p⟩) (by exact E.ld)) (pd_var 2)) (ad_cons (pd_var 1) ad_nil))) (ad_cons (pd_var 2) ad_nil)))) rfl)
    (pss_one (ps_ret (pe_var (i := 4) rfl (Or.inl rfl)))))))), ?_⟩
  obtain ⟨hF1, hF2, hF3⟩ := hF
  obtain ⟨hk, hbk⟩ := List.getElem?_eq_some_iff.mp hb
  have hat : atI (pt.arms.map dBr) (k : Int) = some (dBr b) := by rw [atI_arms hk, hbk]
  have hbo : BrOk st.pt.length b := hF3 b (by rw [← hbk]; simp)
  let ss2 : Sls := [.val (dLd x pt ((st, r) :: t)), .val (.int k), .val (dHist ((st, r) :: t)), .val (dBr b), .no]
  refine upT_run R (fun ss => ss = [.val (dLd x pt ((st, r) :: t)), .val (.int k), .no, .no, .no]) ?_ fun σ1 H1 ss1 ow1 R1 e1 => ?_
  · simp [startA, dLd, dPg]
    exact ⟨_, _, _, k, rfl, by simp; omega, by simpa using hk, trivial⟩
  subst e1
  refine upT_run R1 (fun ss => ss = ss2) ?_ fun σ2 H2 ss3 ow2 R2 e2 => ?_
  · simp [dLd, dPg, dBs, ss2, hat]
  subst e2
  refine ⟨_, ow2, fun v => v = !free b st, R2, ?_, fun v H3 s3 hv => ?_⟩
  · simp [ss2, dHist, dSt]
    exact ⟨b, st, rfl, hF2, hbo, rfl⟩
  subst hv
  have R3 := R2.step0 s3
  have st3 := reps_end R3 hz
  have hx3 : H3 x = some (.ins (ldC K) dx [("led", vp), ("stage", vst)]) := st3.1 x _ hx hpl
  cases hfr : free b st with
  | false =>
    have hk1 := R3.val 1 (.int k) rfl
    obtain ⟨v1, e1, q1⟩ := hk1
    cases (show v1 = _ from q1)
    refine ⟨_, e1, (show 1 ≤ 1000 by decide), fun a ha => ⟨a, k, rfl, upd_same, fun d hd hda => ⟨rfl, d, [("index", .int k)], upd_same, by rw [upd_ne hda, upd_same], ?_, ?_⟩⟩⟩
    · rw [upd_ne hda] at hd; exact hd
    · have hd3 : H3 d = none := by rw [upd_ne hda] at hd; exact hd
      refine kno hfr d _ (st3.then0 ⟨fun c o e n => ?_, fun q z e hq => ⟨z, Nat.le_refl _, ?_⟩⟩) upd_same (st3.free R.pail hd3)
      · have n1 : c ≠ a := ne_of_none e ha
        have n2 : c ≠ d := ne_of_none e hd3
        rw [upd_ne n2, del_ne n1, upd_ne n1, upd_ne n2, upd_ne n1]; exact e
      · obtain ⟨z0, a1, a2, a3, e, hr⟩ := hq
        have n1 : q ≠ a := ne_of_none e ha
        have n2 : q ≠ d := ne_of_none e hd3
        exact ⟨z0, a1, a2, a3, by rw [upd_ne n2, del_ne n1, upd_ne n1, upd_ne n2, upd_ne n1]; exact e, hr⟩
  | true =>
    refine upT_run R3 (fun ss => ss = [.val (dLd x pt ((st, r) :: t)), .val (.int k), .val (dHist ((st, r) :: t)), .val (dBr b), .val (dF (mvd b st.pt))]) ?_ fun σ4 H4 ss4 ow4 R4 e4 => ?_
    · simp [ss2, dHist, dSt]
      exact ⟨b, st.pt, rfl, hF2, hbo, rfl⟩
    subst e4
    have st4 := reps_end R4 hz
    refine ⟨_, ow4, fun d => d = dHist ((⟨b.tgt, mvd b st.pt⟩, r ++ [(k : Int)]) :: (st, r) :: t), R4, ?_, fun d v2 H5 s5 r5 hd5 => ?_⟩
    · simp [dBr, dHist, dSt, show dF r = .tup (r.map .int) from rfl]
      refine ⟨small_le (by decide), small_le (by omega), _, _, _, rfl, nl_St ⟨b.tgt, mvd b st.pt⟩, ?_, nl_Hist ((st, r) :: t), ?_⟩
      · have := nl_F (r ++ [(k : Int)])
        simpa [dF] using this
      · simp [dF]
    subst hd5
    have R5 := R4.step0 s5
    have st5 := reps_end R5 hz
    obtain ⟨v0, e0, q0⟩ := R5.val 0 _ rfl
    unfold dLd Rp at q0
    obtain ⟨x', dx', vp', vst', rfl, rfl, hx', qp, qs⟩ := q0
    have hx5 := st5.1 _ _ hx hpl
    rw [hx5] at hx'
    cases hx'
    obtain ⟨v4, e4, q4⟩ := R5.val 4 _ rfl
    refine ⟨_, e0, _, _, dx, _, rfl, hx5, E.ld.lc, E.ld.ls, (show 2 < 1000 by decide), ?_⟩
    rw [put6]
    exact ⟨v4, e4, kyes hfr H5 v4 v2 st5 r5 q4⟩
end KK
set_option maxRecDepth 100000
set_option maxHeartbeats 2000000
namespace KK
open PySem PySem.Spec PyProof.Rows L2 DL
variable {P : Program} {w : World} {K : PySem.W.Frag} {mg : Str → Option Value} {base : Heap}
/-! ### the error's name and what it holds -/
def spSort (K : PySem.W.Frag) (a : Addr) (oe : Obj) (H : Hp) (Q : VK) : Prop := ∃ (p : Option Addr) (dd : Addr) (k : Int), Zc (.ref (stkC K)) (some dd) oe ∧ (∃ vs, oe.data = .fields vs) ∧ H dd = some (.xd [("index", .int k)]) ∧ k.natAbs.log2 < 1920 ∧ PlN ⟨K, p⟩ 0 H ∧
  ∀ v H', Step ⟨K, p⟩ 0 H H' → Rp ⟨K, p⟩ H' (.lst [.str "Stuck", .str (toString k)]) v → Q v H'
abbrev N_sort : List Str := ["_law_e", "_law_bases", "_law_plain", "_law_found"]
theorem sc_sort : FnScope N_sort ["_law_e"] (defScope (top 83)) := ⟨rfl, rfl, rfl, by decide +kernel, rfl, by decide +kernel, by decide +kernel⟩
theorem bt_VE : bootBuiltins "ValueError" = some (.type "ValueError") := by decide +kernel
theorem bt_LE : bootBuiltins "LookupError" = some (.type "LookupError") := by decide +kernel
theorem bt_AE : bootBuiltins "ArithmeticError" = some (.type "ArithmeticError") := by decide +kernel
abbrev cxSort (P : Program) (w : World) (K : PySem.W.Frag) (mg : Str → Option Value) (base : Heap) (f : Addr) (cdv : Value) (A0 : Around) (outer : List Env) (s : Shared) (H : Hp) : Cx := cxOf C8.CX0 P w K mg base N_sort "_law_sort" (defScope (top 83)) f cdv A0 outer s H C8.E0
section
variable {f : Addr} {cdv : Value} {A0 : Around} {outer : List Env} {s : Shared} {H : Hp} {a dd : Addr} {oe : Obj} {p : Option Addr} {zt : Nat} {fs : List (Str × V)} {y : Str} {b : Bool} {q q1 q2 pos : Pos}
theorem is_ref (E : Fx K mg) {C2 : Addr} (hz : Zc (.ref (stkC K)) (some dd) oe) (hf : ∃ vs, oe.data = .fields vs) (hG : (Gm.at p H zt).H0 dd = some (.xd fs)) (hio : ¬ (Gm.at p H zt).io dd) (hmy : mg y = some (.ref C2)) (hk2 : PySem.W.kitOne K (.ref (stkC K)) (.ref C2) = some b)
    (hg : Gl (cxSort P w K mg base f cdv A0 outer s H) y) (hdy : (y == ("__debug__" : Str)) = false) (he2 : starEach [.Name y q2] (cxSort P w K mg base f cdv A0 outer s H).env = (false, eval (.Name y q2) (cxSort P w K mg base f cdv A0 outer s H).env) :: starEach [] (cxSort P w K mg base f cdv A0 outer s H).env)
    (he : starEach [.Name "_law_e" q1, .Name y q2] (cxSort P w K mg base f cdv A0 outer s H).env = (false, eval (.Name "_law_e" q1) (cxSort P w K mg base f cdv A0 outer s H).env) :: starEach [.Name y q2] (cxSort P w K mg base f cdv A0 outer s H).env)
    (hpl : (backTo pos (starEach [.Name y q2] (cxSort P w K mg base f cdv A0 outer s H).env)).any (·.1) = false) :
    PE ((cxSort P w K mg base f cdv A0 outer s H).suite a [(a, oe)]) (.Call (.Name "isinstance" q) [.Name "_law_e" q1, .Name y q2] [] pos) (up ⟨K, p⟩ (Gm.at p H zt) (dRawF 0 (.ref a) (.bl b))) :=
  pd_isX (i := 0) (x := "_law_e") (p := p) E.exQ hz hf hG hio hk2 (pv := .ref C2) rfl (fun _ r => r) rfl (Or.inl rfl) (pe_glob (v := .ref C2) hg hmy rfl hdy) (by rfl) (by exact E.isinstance) (by decide) (by decide) he he2 hpl
theorem is_ty (E : Fx K mg) {T : String} (hz : Zc (.ref (stkC K)) (some dd) oe) (hf : ∃ vs, oe.data = .fields vs) (hG : (Gm.at p H zt).H0 dd = some (.xd fs)) (hio : ¬ (Gm.at p H zt).io dd) (hmy : mg y = none) (hbt : bootBuiltins y = some (.type T)) (hk2 : PySem.W.kitOne K (.ref (stkC K)) (.type T) = some b) (hn : y ≠ "__name__")
    (hg : Gl (cxSort P w K mg base f cdv A0 outer s H) y) (hdy : (y == ("__debug__" : Str)) = false) (he2 : starEach [.Name y q2] (cxSort P w K mg base f cdv A0 outer s H).env = (false, eval (.Name y q2) (cxSort P w K mg base f cdv A0 outer s H).env) :: starEach [] (cxSort P w K mg base f cdv A0 outer s H).env)
    (he : starEach [.Name "_law_e" q1, .Name y q2] (cxSort P w K mg base f cdv A0 outer s H).env = (false, eval (.Name "_law_e" q1) (cxSort P w K mg base f cdv A0 outer s H).env) :: starEach [.Name y q2] (cxSort P w K mg base f cdv A0 outer s H).env)
    (hpl : (backTo pos (starEach [.Name y q2] (cxSort P w K mg base f cdv A0 outer s H).env)).any (·.1) = false) :
    PE ((cxSort P w K mg base f cdv A0 outer s H).suite a [(a, oe)]) (.Call (.Name "isinstance" q) [.Name "_law_e" q1, .Name y q2] [] pos) (up ⟨K, p⟩ (Gm.at p H zt) (dRawF 0 (.ref a) (.bl b))) :=
  pd_isX (i := 0) (x := "_law_e") (p := p) E.exQ hz hf hG hio hk2 (pv := .ty T) rfl (fun _ r => r) rfl (Or.inl rfl) (pe_bltn (v := .ty T) hg hmy hbt rfl hn hdy) (by rfl) (by exact E.isinstance) (by decide) (by decide) he he2 hpl
end
theorem c_sort (E : Fx K mg) : PinK P w K mg base 2 "_law_sort" (spSort K) := by
  obtain ⟨f, fd, F, hm⟩ := E.d_sort
  refine ⟨f, hm, F.kp, fun A0 outer s H a oe Q hr hpin e0 ⟨p, dd, k, hz, hf, hd, hk, hp, kk⟩ => ?_⟩
  have hbind := F.bindsA (ps := ["_law_e"]) (fun _ _ _ _ _ _ us hl => match us, hl with | [_], _ => rfl) s [.ref a] rfl
  obtain ⟨oc, od, dV, kV, doc, pm, an, cdv, ct, osl, rfl, lk, hcd, hD, hK⟩ := F.ex
  refine run_pin (N := N_sort) (ps := ["_law_e"]) (vs := [.ref a]) lk hcd sc_sort hr hpin e0 hbind (.cons rfl .nil) rfl fun hr' => ?_
  have nd := sc_sort.nd
  obtain ⟨zt, R, hzt⟩ := reps_startA (N := N_sort) (as := [.raw (.ref a)]) hp (.raw .nil)
  have hG : (Gm.at p H zt).H0 dd = some (.xd [("index", .int k)]) := hd
  have hio : ¬ (Gm.at p H zt).io dd := fun z => pail_ne hp z hd (fun _ z => nomatch z)
  have hu : ((cxSort P w K mg base f cdv A0 outer s H).suite a [(a, oe)]).A.units + 64 < cLine := by
    have h1 : A0.units + 3 + 16 * 1 + 200 < cLine := hr'.un
    show A0.units + 3 + 64 < cLine
    omega
  refine ⟨_, PSs.nox (show PSs ((cxSort P w K mg base f cdv A0 outer s H).suite a [(a, oe)]) (defBody (top 83)) _ from
    sd_cons (p := p) (G := Gm.at p H zt) (sd_set 1 nd (pd_l (pl_lst (ad_cons (is_ref E hz hf hG hio E.gWV E.k1 rfl (by decide) rfl rfl rfl) (ad_cons (is_ref E hz hf hG hio E.gWN E.k2 rfl (by decide) rfl rfl rfl) (ad_cons (is_ref E hz hf hG hio E.gNP E.k3 rfl (by decide) rfl rfl rfl) ad_nil))))))
    (sd_cons (sd_set 2 nd (pd_l (pl_lst (ad_cons (is_ty E hz hf hG hio E.fVE bt_VE E.k4 (by decide) rfl (by decide) rfl rfl rfl) (ad_cons (is_ty E hz hf hG hio E.fLE bt_LE E.k5 (by decide) rfl (by decide) rfl rfl rfl) (ad_cons (is_ty E hz hf hG hio E.fAE bt_AE E.k6 (by decide) rfl (by decide) rfl rfl rfl) ad_nil))))))
    (sd_cons (sd_setO 3 nd (pl_lst ad_nil))
    (sd_cons (sd_if (td_val (is_ref E hz hf hG hio E.gII E.k7 rfl (by decide) rfl rfl rfl)) ssd_never sd_nil)
    (sd_cons (sd_if (td_val (is_ref E hz hf hG hio E.gS E.k8 rfl (by decide) rfl rfl rfl)) (sd_one (sd_app 3 (pd_l (pl_lst (ad_cons pd_str (ad_cons (pd_reprI (pd_xf (i := 0) (d := .int k) (v := .int k) E.exQ hz hf hG hio rfl (fun _ => rfl) E.exn rfl (Or.inl rfl)) (by rfl) (by exact E.repr)) ad_nil)))))) sd_nil)
    (sd_cons (sd_if (td_val (is_ref E hz hf hG hio E.gNU E.k9 rfl (by decide) rfl rfl rfl)) ssd_never sd_nil)
    (sd_one (sd_fz 3 (sd_ret (pd_if (PW.pt (wd_and (td_cmp op_eq lr_eq (pd_fn call_len lc_len (by rfl) (by exact E.len) bt_len (ad_cons (pd_var 3) ad_nil)) pd_int) (wd_and (td_cmp (op_eqD hu) lr_eqD (pd_var 1) (pd_var 2)) (wd_and1 (td_cmp op_eq lr_eq (pd_count (pd_var 1) pd_bl) pd_int)))))
      (pd_ix (pd_var 3) pd_int) (pd_l (pl_lst (ad_cons pd_str (ad_cons pd_str ad_nil)))))))))))))), ?_⟩
  refine ⟨startA N_sort [.raw (.ref a)], fun _ => 0, ⟨fun _ => False, fun d _ => d = D.lst [.str "Stuck", .str (toString k)], fun _ => False, fun _ => False⟩, 0, R, ?_, ⟨fun _ _ _ _ _ z => z.elim, fun σ' H' ss ow d v R' r' e => ?_, fun _ _ _ _ _ z => z.elim, fun _ _ _ _ _ z => z.elim⟩⟩
  · simp [startA]
    refine ⟨small_le (by decide), small_le (by decide), hk, small_le (by decide), small_le (by decide), okE_of (pyOk_lst (k := 0) fun d hd => ?_), okE_of (pyOk_lst (k := 0) fun d hd => ?_), ?_⟩
    · simp at hd
      rcases hd with e | e <;> rw [e] <;> exact ⟨by unfold D.dat; rfl, by unfold D.py; rfl, by unfold D.py; exact Nat.zero_le _⟩
    · simp at hd
      rcases hd with e | e <;> rw [e] <;> exact ⟨by unfold D.dat; rfl, by unfold D.py; rfl, by unfold D.py; exact Nat.zero_le _⟩
    · have e : PyData.eqv (D.lst [D.bl false, D.bl false, D.bl true]).py (D.lst [D.bl false, D.bl false, D.bl true]).py = true := by rfl
      rw [e]
      refine ⟨rfl, ⟨rfl, rfl⟩, ⟨rfl, rfl⟩, fun z => absurd (by decide) z⟩
  · subst e
    exact kk v H' (reps_end R' hzt) r'
end KK
set_option maxRecDepth 100000
set_option maxHeartbeats 2000000
namespace DL
open PySem PySem.Spec PyProof.Rows L2
/-- a list stays as it is from now on, ahead of the statements -/
def tFzA (t : TS) : TS := fun D' σ H => ∃ q xs, H q = some (.lst xs) ∧ ∀ o, t D' σ (upd H q (.frz o (.lst xs)))
/-- so do several -/
def tFzs (t : TS) : TS := fun D' σ H => ∃ qs : List Addr, qs.Nodup ∧ (∀ q ∈ qs, ∃ xs, H q = some (.lst xs)) ∧ ∀ H', (∀ b, b ∉ qs → H' b = H b) → (∀ q ∈ qs, ∀ xs, H q = some (.lst xs) → ∃ o, H' q = some (.frz o (.lst xs))) → t D' σ H'
section
variable {X : Cx} {sts : List Stmt} {t : TS}
theorem pss_fzs (h : PSs X sts t) : PSs X sts (tFzs t) := ⟨fun pins s σ H D' I ⟨qs, nd, hq, k⟩ => by
  suffices g : ∀ (qs : List Addr) (H1 : Hp), qs.Nodup → Inv X pins σ H1 s → (∀ q ∈ qs, ∃ xs, H1 q = some (.lst xs)) → ∃ H2, Inv X pins σ H2 s ∧ (∀ b, b ∉ qs → H2 b = H1 b) ∧ ∀ q ∈ qs, ∀ xs, H1 q = some (.lst xs) → ∃ o, H2 q = some (.frz o (.lst xs)) by
    obtain ⟨H2, I2, k1, k2⟩ := g qs H nd I hq
    exact h.run pins s σ H2 D' I2 (k H2 k1 k2)
  intro qs
  induction qs with
  | nil => exact fun H1 _ I _ => ⟨H1, I, fun _ _ => rfl, fun q hq => nomatch hq⟩
  | cons q qs ih =>
    intro H1 nd I hq
    obtain ⟨xs, hx⟩ := hq q (by simp)
    obtain ⟨n1, n2⟩ := List.nodup_cons.mp nd
    obtain ⟨o, I2⟩ := I.lock hx True.intro
    obtain ⟨H2, I3, k1, k2⟩ := ih _ n2 I2 fun a ha => by
      obtain ⟨ys, hy⟩ := hq a (by simp [ha])
      exact ⟨ys, by rw [upd_ne fun z => n1 (by rw [← z]; exact ha)]; exact hy⟩
    refine ⟨H2, I3, fun b hb => ?_, fun a ha ys hy => ?_⟩
    · rw [List.mem_cons, not_or] at hb
      rw [k1 b hb.2, upd_ne hb.1]
    · rcases List.mem_cons.mp ha with e | e
      · subst e
        rw [hx] at hy
        cases hy
        exact ⟨o, by rw [k1 a n1, upd_same]⟩
      · exact k2 a e ys (by rw [upd_ne fun z => n1 (by rw [← z]; exact e)]; exact hy)⟩
theorem pss_fzA (h : PSs X sts t) : PSs X sts (tFzA t) := ⟨fun pins s σ H D' I ⟨q, xs, hq, k⟩ => by
  obtain ⟨o, I2⟩ := I.lock hq True.intro
  exact h.run pins s σ _ D' I2 (k o)⟩
end
variable {c : Cf} {H : Hp} {σ : L2.St} {ss : Sls} {G : Gm} {n : Nat} {ow : Nat → Addr}
/-- a list that is none of the slots' changes -/
theorem RepX.put (R : RepX c H σ ss) {a : Addr} {xs ys : List V} (ha : H a = some (.lst xs)) (hp : c.pl ≠ some a) (ho : ∀ (i : Nat) ds, ss[i]? ≠ some (Sl.own ds)) : RepX c (upd H a (.lst ys)) σ ss := by
  obtain ⟨ow, R⟩ := R.reps
  have le : Le H (upd H a (.lst ys)) := Le.put ha
  refine ⟨gAll (upd H a (.lst ys)), ow, R.len, fun i d q => ?_, fun i ds q => absurd q (ho i ds), R.inj, fun i ds q => absurd q (ho i ds), fun _ _ e _ => e, Le.refl _, fun _ e => e, fun p q => ?_, R.raw⟩
  · obtain ⟨v, e1, e2⟩ := R.val i d q
    exact ⟨v, e1, e2.le le _ _⟩
  · obtain ⟨⟨z, ⟨z0, x, y, w, h, q2⟩, _, _⟩, _⟩ := R.pl p q
    have h' : upd H a (.lst ys) p = some (.lst [.int x, .int y, .int w]) := by rw [upd_ne fun z => hp (by rw [← z]; exact q)]; exact h
    exact ⟨⟨z, ⟨z0, x, y, w, h', q2⟩, by show z + 0 ≤ ZL; rw [z0]; exact Nat.zero_le _, Nat.le_refl _⟩, _, h'⟩
/-- .. is frozen -/
theorem RepX.frzR (R : RepX c H σ ss) {a : Addr} {xs : List V} {o : Obj} (ha : H a = some (.lst xs)) (hp : c.pl ≠ some a) (ho : ∀ (i : Nat) ds, ss[i]? ≠ some (Sl.own ds)) : RepX c (upd H a (.frz o (.lst xs))) σ ss := by
  obtain ⟨ow, R⟩ := R.reps
  have le : Le H (upd H a (.frz o (.lst xs))) := Le.put ha
  refine ⟨gAll (upd H a (.frz o (.lst xs))), ow, R.len, fun i d q => ?_, fun i ds q => absurd q (ho i ds), R.inj, fun i ds q => absurd q (ho i ds), fun _ _ e _ => e, Le.refl _, fun _ e => e, fun p q => ?_, R.raw⟩
  · obtain ⟨v, e1, e2⟩ := R.val i d q
    exact ⟨v, e1, e2.le le _ _⟩
  · obtain ⟨⟨z, ⟨z0, x, y, w, h, q2⟩, _, _⟩, _⟩ := R.pl p q
    have h' : upd H a (.frz o (.lst xs)) p = some (.lst [.int x, .int y, .int w]) := by rw [upd_ne fun z => hp (by rw [← z]; exact q)]; exact h
    exact ⟨⟨z, ⟨z0, x, y, w, h', q2⟩, by show z + 0 ≤ ZL; rw [z0]; exact Nat.zero_le _, Nat.le_refl _⟩, _, h'⟩
/-- the promise of a classmethod -/
def spCls (K : PySem.W.Frag) (S : FS) : Sp := fun vs H Q E => ∃ u us, vs = u :: us ∧ spOf K S us H Q E
section
variable {X : Cx} {p : Option Addr} {G : Gm} {pos apos q : Pos} {e o : Expr} {es : List Expr} {dt : DA} {S : FS} {k j : Nat} {x m : Str} {C pa g : Addr} {mc : Value}
/-- C.m(..), m a classmethod -/
theorem pd_cls {pl : Sem Bool} (r : ClX.CRead X.K C mc) (c : ClX.CMet X.K C mc m pa g) (F : FnR X.prog X.w X.K X.mg X.base C8.CX0 k g (spCls X.K S)) (hm : X.mg x = some (.ref C)) (hr : Room j X.A) (ha : PA X (e :: es) (upA ⟨X.K, p⟩ G dt)) (hk : k ≤ j := by decide) (hg : Gl X x := by rfl) (hdb : (x == ("__debug__" : Str)) = false := by decide)
    (hst : starEach (e :: es) X.env = (false, eval e X.env) :: starEach es X.env := by rfl) (hpl : (backTo pos (starEach es X.env)).any (·.1) = false := by rfl)
    (ht : eval (.Call (.Attribute (.Name x q) m apos) (e :: es) [] pos) X.env = (do
      let ov ← eval (.Name x q) X.env
      standAt apos.atName
      let (f, first) ← holding [ov] (getMethod ov m pl)
      callWith pos f first (backTo pos (starEach (e :: es) X.env)) (backToKw pos (keywordEach [] X.env))) := by rfl) :
    PE X (.Call (.Attribute (.Name x q) m apos) (e :: es) [] pos) (up ⟨X.K, p⟩ G (dCall S dt)) :=
  peOf (ClX.pe_cmeth (pe_glob (v := .ref C) hg hm rfl hdb) r c F (hr.mono hk) C8.pass0 ha hst hpl ht (E := C8.E0)) fun σ H Q ⟨ss, ow, P, R, h, kk⟩ => ⟨rfl, ss, ow, _, R.l, h, fun xs vs H1 s1 r1 p1 => ⟨_, _, rfl, p, xs, P, (R.step s1).pln, r1, p1, fun d v H' s2 r2 p2 => kk d v H' (s1.trans s2) r2 p2⟩⟩
end
end DL
set_option maxRecDepth 100000
set_option maxHeartbeats 2000000
namespace DL
open PySem PySem.Spec PyProof.Rows L2
/-! ### two instances without a comparison of their own: they are not the same -/
structure CmpK (K : PySem.W.Frag) (C : Addr) : Prop where
  mro : PySem.W.mroIn K C (.type "object") = some true
  eq : PySem.W.findIn K (.ref C) "__eq__" = some (some (.builtin "object.__eq__"))
  ne : PySem.W.findIn K (.ref C) "__ne__" = some (some (.builtin "object.__ne__"))
section
variable {M : Model} {prog : Program} {w : World} {A : Around} {E : Value → Shared → Prop} {s : Shared} {K : PySem.W.Frag} {x y C : Addr} {ox oy : Obj} {od od' : Option Obj}
theorem sp_call {nm : Str} {id : String} {args : List Value} {Q : Option Value → Shared → Prop} (S : Slot "object" nm id) (kin : K.In s.heap) (J : PySem.W.InstAt s.heap x ox C od) (hs : PySem.W.findIn K (.ref C) nm = some (some (.builtin id)))
    (h : wpAny M A (call (.builtin id) (.ref x :: args)) (fun v => Q (some v)) E s) : wpAny M A (callSpecialIfBound? (.ref x) nm args) Q E s := by
  have last : wpAny M A (call (.builtin id) ([.ref x] ++ args) >>= fun v => pure (some v)) Q E s := wpAny_bind (wpAny_mono h (fun _ _ z => wpAny_pure z) fun _ _ z => z)
  simp only [callSpecialIfBound?, bindSpecialIfBound?]
  refine wpAny_holding (wpAny_bind (wpAny_bind (wpAny_bind (J.type.here ((PySem.W.looks_findIn kin hs).here (wpAny_bind (wpAny_askSetting (wpAny_ite ?_))))))))
  split
  · exact wpAny_bind (wpAny_of_eq (S.bind _) (wpAny_pure (by exact last)))
  · exact wpAny_tryCatch (wpAny_bind (wpAny_of_eq (S.bind _) (wpAny_pure (by exact last))))
theorem no_tup (J : PySem.W.InstAt s.heap x ox C od) : ox.cls ≠ .type "tuple" := fun z => by
  rw [J.cls] at z; cases z
theorem eq_body {Q : Fin → Shared → Prop} (hxy : x ≠ y) (J : PySem.W.InstAt s.heap x ox C od) (J2 : PySem.W.InstAt s.heap y oy C od') (hq : Q (.done (.ret .notImplemented)) s) : wpAny M A (Builtin.«object.__eq__» ⟨[.ref x, .ref y], []⟩) Q E s := by
  unfold Builtin.«object.__eq__»
  repeat (first | with_reducible refine wpAny_isSame_ref_other hxy J.at_ J2.at_ (no_tup J) ?_ | wp_step)
  exact hq
theorem eq_call {Q : Option Value → Shared → Prop} (c : CmpK K C) (kin : K.In s.heap) (hxy : x ≠ y) (J : PySem.W.InstAt s.heap x ox C od) (J2 : PySem.W.InstAt s.heap y oy C od') (hq : Q (some .notImplemented) s) :
    wpAny (model prog w) A (callSpecialIfBound? (.ref x) "__eq__" [.ref y]) Q E s :=
  sp_call PySem.F.cmp_object.eq kin J c.eq (wpAny_call (codeAny_call_builtin PySem.F.cmp_object.eq.plain PySem.F.cmpEntry_eq (PySem.W.check_slot PySem.F.cmpKind_eq PySem.F.cmpSplit_eq (J.type.andThen (PySem.W.looks_mroIn kin c.mro)) (PySem.F.cmpArgs_eq _ _) (eq_body hxy J J2 hq))))
theorem ne_body {Q : Fin → Shared → Prop} (c : CmpK K C) (kin : K.In s.heap) (hu : A.units < cLine) (hxy : x ≠ y) (J : PySem.W.InstAt s.heap x ox C od) (J2 : PySem.W.InstAt s.heap y oy C od') (hq : Q (.done (.ret .notImplemented)) s) : wpAny (model prog w) A (Builtin.«object.__ne__» ⟨[.ref x, .ref y], []⟩) Q E s := by
  unfold Builtin.«object.__ne__»
  repeat (first | with_reducible refine wpAny_cRoomFor hu ?_ | with_reducible refine eq_call c kin hxy J J2 ?_ | wp_step)
  exact hq
theorem ne_call {Q : Option Value → Shared → Prop} (c : CmpK K C) (kin : K.In s.heap) (hu : A.units + 1 < cLine) (hxy : x ≠ y) (J : PySem.W.InstAt s.heap x ox C od) (J2 : PySem.W.InstAt s.heap y oy C od') (hq : Q (some .notImplemented) s) :
    wpAny (model prog w) A (callSpecialIfBound? (.ref x) "__ne__" [.ref y]) Q E s :=
  sp_call PySem.F.cmp_object.ne kin J c.ne (wpAny_call (codeAny_call_builtin PySem.F.cmp_object.ne.plain PySem.F.cmpEntry_ne (PySem.W.check_slot PySem.F.cmpKind_ne PySem.F.cmpSplit_ne (J.type.andThen (PySem.W.looks_mroIn kin c.mro)) (PySem.F.cmpArgs_ne _ _) (ne_body (A := A.in1) c kin hu hxy J J2 hq))))
theorem tryC {nm : Str} {Q : Option Value → Shared → Prop} (h : ∀ Q : Option Value → Shared → Prop, Q (some .notImplemented) s → wpAny (model prog w) A (callSpecialIfBound? (.ref x) nm [.ref y]) Q E s) (hq : Q none s) : wpAny (model prog w) A (tryCompare (.ref x) nm (.ref y)) Q E s := by
  unfold tryCompare
  exact wpAny_bind (h _ (wpAny_pure hq))
theorem cmp_eq {Q : Value → Shared → Prop} (c : CmpK K C) (kin : K.In s.heap) (hu : A.units < cLine) (hxy : x ≠ y) (J : PySem.W.InstAt s.heap x ox C od) (J2 : PySem.W.InstAt s.heap y oy C od') (hq : Q (.bool false) s) :
    wpAny (model prog w) A (richCompare .Eq (.ref x) (.ref y)) Q E s := by
  simp only [richCompare, cmpInfo_Eq, oneThing_ref]
  refine wpAny_holding (wpAny_bind (wpAny_cRoomFor hu (wpAny_bind (J.type.here (wpAny_bind (J2.type.here ?_))))))
  have e : (Value.ref C != Value.ref C) = false := by simp
  simp only [e, Bool.false_eq_true, if_false]
  refine wpAny_bind (wpAny_pure ?_)
  simp only [Bool.false_eq_true, if_false, Bool.not_false, if_true]
  refine wpAny_bind (m := tryCompare (.ref x) _ (.ref y)) (tryC (fun Q q => eq_call c kin hxy J J2 q) ?_)
  refine wpAny_bind (m := tryCompare (.ref y) _ (.ref x)) (tryC (fun Q q => eq_call c kin hxy.symm J2 J q) ?_)
  exact wpAny_bind (wpAny_rule (wpAny_bind (wpAny_isSame_ref_other hxy J.at_ J2.at_ (no_tup J) (wpAny_pure hq))))
theorem cmp_ne {Q : Value → Shared → Prop} (c : CmpK K C) (kin : K.In s.heap) (hu : A.units + 1 < cLine) (hxy : x ≠ y) (J : PySem.W.InstAt s.heap x ox C od) (J2 : PySem.W.InstAt s.heap y oy C od') (hq : Q (.bool true) s) :
    wpAny (model prog w) A (richCompare .NotEq (.ref x) (.ref y)) Q E s := by
  simp only [richCompare, cmpInfo_NotEq, oneThing_ref]
  refine wpAny_holding (wpAny_bind (wpAny_cRoomFor (Nat.lt_of_succ_lt hu) (wpAny_bind (J.type.here (wpAny_bind (J2.type.here ?_))))))
  have e : (Value.ref C != Value.ref C) = false := by simp
  simp only [e, Bool.false_eq_true, if_false]
  refine wpAny_bind (wpAny_pure ?_)
  simp only [Bool.false_eq_true, if_false, Bool.not_false, if_true]
  refine wpAny_bind (m := tryCompare (.ref x) _ (.ref y)) (tryC (fun Q q => ne_call c kin hu hxy J J2 q) ?_)
  refine wpAny_bind (m := tryCompare (.ref y) _ (.ref x)) (tryC (fun Q q => ne_call c kin hu hxy.symm J2 J q) ?_)
  exact wpAny_bind (wpAny_rule (wpAny_bind (wpAny_isSame_ref_other hxy J.at_ J2.at_ (no_tup J) (wpAny_pure hq))))
end
section
variable {X : Cx} {p : Option Addr} {G : Gm} {pos : Pos} {a b : Expr} {da db : DE}
def rOther (C : Addr) (v : Bool) : R2 := fun x y H Q => ∃ l m dx dy fs gs, x = .ref l ∧ y = .ref m ∧ l ≠ m ∧ H l = some (.ins C dx fs) ∧ H m = some (.ins C dy gs) ∧ Q (.bl v) H
theorem op_otherE {C : Addr} (c : CmpK X.K C) (hu : X.A.units + 1 < cLine) : OpR X (compareOp .Eq) (rOther C false) := by
  intro pins s σ H x y v u Q I rx ry ⟨l, m, dx, dy, fs, gs, ex, ey, ne, h1, h2, q⟩
  subst ex ey
  cases (show v = Value.ref l from rx)
  cases (show u = Value.ref m from ry)
  obtain ⟨_, O1, _⟩ := ins_get I.hok h1
  obtain ⟨_, O2, _⟩ := ins_get I.hok h2
  obtain ⟨_, J1, _⟩ := O1.look
  obtain ⟨_, J2, _⟩ := O2.look
  exact cmp_eq c I.kIn (Nat.lt_of_succ_lt hu) ne J1 J2 ⟨.bl false, _, I, rfl, q⟩
theorem op_otherN {C : Addr} (c : CmpK X.K C) (hu : X.A.units + 1 < cLine) : OpR X (compareOp .NotEq) (rOther C true) := by
  intro pins s σ H x y v u Q I rx ry ⟨l, m, dx, dy, fs, gs, ex, ey, ne, h1, h2, q⟩
  subst ex ey
  cases (show v = Value.ref l from rx)
  cases (show u = Value.ref m from ry)
  obtain ⟨_, O1, _⟩ := ins_get I.hok h1
  obtain ⟨_, O2, _⟩ := ins_get I.hok h2
  obtain ⟨_, J1, _⟩ := O1.look
  obtain ⟨_, J2, _⟩ := O2.look
  exact cmp_ne c I.kIn hu ne J1 J2 ⟨.bl true, _, I, rfl, q⟩
/-- hand == mate, hand != mate: two leads -/
def fOth (v : Bool) : F2 := fun x y Q => match x, y with
  | .ld l _ _, .ld m _ _ => l ≠ m ∧ Q (.bl v)
  | _, _ => False
@[simp] theorem x_oth {v : Bool} {l m : Addr} {d1 d2 d3 d4 : D} {Q : D → Prop} : fOth v (.ld l d1 d2) (.ld m d3 d4) Q = (l ≠ m ∧ Q (.bl v)) := rfl
theorem lr_oth {c : Cf} {v : Bool} : LR c (rOther (ldC c.K) v) (fOth v) := fun H x y u w P Q hp r1 r2 q k => by
  cases x with
  | ld l d1 d2 =>
    cases y with
    | ld m d3 d4 =>
      unfold Rp at r1 r2
      obtain ⟨x, dx, _, _, rfl, rfl, h1, _⟩ := r1
      obtain ⟨y, dy, _, _, rfl, rfl, h2, _⟩ := r2
      exact ⟨x, y, dx, dy, _, _, rfl, rfl, q.1, h1, h2, k _ _ H (Step.refl _ _ _) r_bl q.2⟩
    | _ => exact q.elim
  | _ => exact q.elim
end
end DL
set_option maxRecDepth 100000
set_option maxHeartbeats 2000000
namespace DL
open PySem PySem.Spec PyProof.Rows L2
/-! ### promises where no repr is under way -/
structure FnG (P : Program) (w : World) (K : PySem.W.Frag) (mg : Str → Option Value) (base : Heap) (k : Nat) (f : Addr) (fd : FuncData) (ps : List Str) (sp : Sp) : Prop where
  len : ∀ vs H Q E, sp vs H Q E → vs.length = ps.length
  run : ∀ (A : Around) (outer : List Env) (s : Shared) (H : Hp) (args : Args) (us : List Value) (vs : List V) (Q : VK) (E : XK), A.guards = some [] → Room k A → Env0 P w K mg base A outer s H → BindsTo s fd args (ps.zip us) → Vals vs us → sp vs H Q E →
    codeAny (model P w) A (.call (.ref f) args) (CR C8.CX0 outer P w H s Q E) s
structure CalG (P : Program) (w : World) (K : PySem.W.Frag) (mg : Str → Option Value) (base : Heap) (k : Nat) (x : Str) (sp : Sp) : Prop where
  ex : ∃ f fd ps, FnG P w K mg base k f fd ps sp ∧ mg x = some (.ref f) ∧ PySem.W.keepIn K (.ref f) = true ∧ L2.Binds K fd ps []
section
variable {P : Program} {w : World} {K : PySem.W.Frag} {mg : Str → Option Value} {base : Heap} {x qual : Str} {params : Arguments} {body : List Stmt} {scope : Scope} {kws : List (Str × V)} {f : Addr} {fd : FuncData} {N ps : List Str} {k : Nat} {sp : Sp}
theorem fn_gen (F : FunD K x qual params body scope [] kws f fd) (sc : FnScope N ps scope) (hl : ∀ vs H Q E, sp vs H Q E → vs.length = ps.length)
    (hb : ∀ (cdv : Value) (A : Around) (outer : List Env) (s : Shared) (H : Hp) (vs : List V) (Q : VK) (E : XK), A.guards = some [] → Room k (A.deeper (envOfC qual scope s.heap.objs.size f cdv)) → (∃ (oc : Value) (od : Option Addr) (osl : Array (Option Value)) (gd : FuncData), K.lookup f = some ⟨oc, od, .func gd, osl⟩ ∧ gd.code = cdv) → sp vs H Q E →
      ∃ t, PSs (cxOf C8.CX0 P w K mg base N qual scope f cdv A outer s H E) body t ∧ t { nx := fun _ H' => Q .non H', rt := Q } (L2.start N vs) H) : FnG P w K mg base (k + 1) f fd ps sp := by
  refine ⟨hl, fun A outer s H args us vs Q E hg hr e0 hbd r h => ?_⟩
  obtain ⟨oc, od, dV, kV, doc, pm, an, cdv, ct, osl, rfl, lk, hcd, _, _⟩ := F.ex
  exact LamX.run_ofS lk hcd sc hr e0 hbd r (hl _ _ _ _ h) fun hr' => hb cdv A outer s H vs Q E hg hr' ⟨_, _, _, _, lk, rfl⟩ h
theorem cal_okG {S : FS} {t : DS} (F : FunD K x qual params body scope [] kws f fd) (hm : mg x = some (.ref f)) (sc : FnScope N ps scope)
    (hbind : ∀ (kV doc pm : Value) (an : Option Addr) (cdv ct : Value) (us : List Value), us.length = ps.length → bindArgs (PySem.W.fnOf x qual params body scope .none kV doc pm an cdv ct) ⟨us, []⟩ = pure (ps.zip us))
    (hl : ∀ xs P, S.f xs P → xs.length = ps.length) (hn : t.n ≤ S.n)
    (hb : BodyG P w K mg base N qual scope k body t) (hd : ∀ xs P, S.f xs P → t.f ⟨fun _ => P .non, fun d _ => P d, fun _ => False, fun _ => False⟩ (startS N xs)) : CalG P w K mg base (k + 1) x (spOf K S) := by
  refine ⟨f, fd, ps, fn_gen F sc (fun vs H Q E ⟨p, xs, P0, _, r, h, _⟩ => by rw [r.length]; exact hl xs P0 h) fun cdv A outer s H vs Q E hg hr _ ⟨p, xs, P0, hp, r, h, kk⟩ => ?_, hm, F.kp, F.bindsN hbind⟩
  obtain ⟨zt, R, hz⟩ := reps_start (N := N) hp r
  refine ⟨_, PSs.nox (hb f cdv A outer s H E p (Gm.at p H zt) hg hr), startS N xs, fun _ => 0, _, 0, R.wk (by omega), hd xs P0 h, ?_⟩
  exact ⟨fun σ' H' ss ow R' p' => kk .non .non H' (reps_end R' hz) rfl p', fun σ' H' ss ow d v R' r' p' => kk d v H' (reps_end R' hz) r' p', fun _ _ _ _ _ z => z.elim, fun _ _ _ _ _ z => z.elim⟩
end
section
variable {X : Cx} {p : Option Addr} {G : Gm} {pos q : Pos} {e : Expr} {es : List Expr} {dt : DA} {S : FS} {k j : Nat} {x : Str} {sp : Sp} {t : TA}
/-- f(e, ..) -/
theorem pe_callG (c : CalG X.prog X.w X.K X.mg X.base k x sp) (hgd : X.A.guards = some []) (hr : Room k X.A) (ha : PA X (e :: es) t) (hg : Gl X x := by rfl) (hdb : (x == ("__debug__" : Str)) = false := by decide)
    (he : starEach (e :: es) X.env = (false, eval e X.env) :: starEach es X.env := by rfl) (hpl : (backTo pos (starEach es X.env)).any (·.1) = false := by rfl) :
    PE X (.Call (.Name x q) (e :: es) [] pos) (fun σ H Q => t σ H fun vs H' => sp vs H' Q C8.E0) := by
  obtain ⟨f, fd, ps, F, hm, hk, hb⟩ := c.ex
  refine ⟨fun pins s σ H Q I h => wpAny_Call_Name_kw (ld_glob I hg hm ?_ hdb)⟩
  refine PySem.W.callWith_K (h₀ := X.base) I.ok.mod.kin hk (thn (ha.run pos pins s σ H _ I h) fun us s1 ⟨vs, H1, I1, r, q1⟩ => ⟨I1.kIn, ?_⟩) he hpl
  have hl : us.length = ps.length := by rw [← r.length]; exact F.len _ _ _ _ q1
  have hbd : BindsTo s1 fd ⟨us, []⟩ (ps.zip us) := by
    have := hb s1 us I1.kIn (by rw [List.append_nil]; exact hl)
    simpa using this
  refine wpAny_call (codeAny_mono (F.run X.A X.stack s1 H1 ⟨us, []⟩ us vs Q C8.E0 hgd hr I1.env0 hbd r q1) fun r s' z => ?_)
  cases r with
  | error e => exact z.elim
  | ok fl =>
    cases fl with
    | ret u => exact I1.after z
    | next => exact z.elim
    | brk => exact z.elim
    | cont => exact z.elim
theorem pd_callG (c : CalG X.prog X.w X.K X.mg X.base k x (spOf X.K S)) (hgd : X.A.guards = some []) (hr : Room j X.A) (ha : PA X (e :: es) (upA ⟨X.K, p⟩ G dt)) (hk : k ≤ j := by decide) (hg : Gl X x := by rfl) (hdb : (x == ("__debug__" : Str)) = false := by decide)
    (he : starEach (e :: es) X.env = (false, eval e X.env) :: starEach es X.env := by rfl) (hpl : (backTo pos (starEach es X.env)).any (·.1) = false := by rfl) : PE X (.Call (.Name x q) (e :: es) [] pos) (up ⟨X.K, p⟩ G (dCall S dt)) :=
  peOf (pe_callG c hgd (hr.mono hk) ha hg hdb he hpl) fun σ H Q ⟨ss, ow, P, R, h, kk⟩ => ⟨ss, ow, _, R.l, h, fun xs vs H1 s1 r1 p1 => ⟨p, xs, P, (R.step s1).pln, r1, p1, fun d v H' s2 r2 p2 => kk d v H' (s1.trans s2) r2 p2⟩⟩
/-! ### the last one of a list of the frame's own, its beginning -/
def dLastO (i : Nat) : DE := ⟨0, fun ss Q => match ss[i]? with
  | some (Sl.own ds) => ∃ d, atI ds (-1) = some d ∧ Q d
  | _ => False⟩
theorem atI_rps {c : Cf} {H : Hp} {ds : List D} {xs : List V} {k : Int} {d : D} (r : Rps c H ds xs) (e : atI ds k = some d) : ∃ v, atI xs k = some v ∧ Rp c H d v := by
  unfold atI at e ⊢
  rw [r.length]
  cases q : ixN ds.length k with
  | none => rw [q] at e; cases e
  | some j =>
    rw [q] at e
    obtain ⟨v, e1, e2⟩ := r.get (i := j) e
    exact ⟨v, e1, e2⟩
theorem pd_lastO {n : Str} {j1 : Nat} {p1 p2 p3 : Pos} (i : Nat) (hi : X.N[i]? = some n := by rfl) (hv : Vis X.env.scope n := by first | exact Or.inl rfl | exact Or.inr (Or.inl rfl) | exact Or.inr (Or.inr rfl)) (hd : (n == ("__debug__" : Str)) = false := by decide) (hcd : (n == ("__classdict__" : Str)) = false := by decide) :
    PE X (.Subscript (.Name n q) (.UnaryOp .USub (.Constant (.int 1) j1 p1) p2) p3) (up ⟨X.K, p⟩ G (dLastO i)) :=
  peOf (pe_ix ix_seq (pe_var hi hv hd hcd) (pe_un un_neg pe_int) (fun _ _ => rfl)) fun σ H Q ⟨ss, ow, P, R, h, k⟩ => by
    simp only [dLastO] at h
    split at h
    · rename_i ds ho
      obtain ⟨d, e, hP⟩ := h
      obtain ⟨e1, xs, e2, e3⟩ := R.own i ds ho
      obtain ⟨v, e4, r⟩ := atI_rps e3 e
      exact ⟨_, e1, 1, rfl, .inl ⟨_, xs, -1, v, rfl, rfl, SqL.of e2, e4, k d v H (Step.refl _ _ _) r hP⟩⟩
    · exact h.elim
theorem rps_cut {c : Cf} {H : Hp} {ds : List D} {xs : List V} (r : Rps c H ds xs) (lo hi : Option Int) : Rps c H (DL.cutD ds lo hi) (cutV xs lo hi) := by
  unfold cutV DL.cutD
  rw [r.length]
  exact (r.drop _).take _
def dFirstO (i : Nat) (m : Int) : DA := ⟨0, fun ss Q => match ss[i]? with
  | some (Sl.own ds) => Q (DL.cutD ds none (some m))
  | _ => False⟩
theorem pl_firstO {n : Str} {j1 : Nat} {m : Int} {p1 p2 p3 : Pos} (i : Nat) (hi : X.N[i]? = some n := by rfl) (hv : Vis X.env.scope n := by first | exact Or.inl rfl | exact Or.inr (Or.inl rfl) | exact Or.inr (Or.inr rfl)) (hd : (n == ("__debug__" : Str)) = false := by decide) (hcd : (n == ("__classdict__" : Str)) = false := by decide) :
    PE X (.Subscript (.Name n q) (.Slice none (some (.Constant (.int m) j1 p1)) none p2) p3) (upL ⟨X.K, p⟩ G (dFirstO i m)) :=
  peOf (pe_slice sl_list (pe_var hi hv hd hcd) po_none (po_some pe_int)) fun σ H Q ⟨ss, ow, P, R, h, k⟩ => by
    simp only [dFirstO] at h
    split at h
    · rename_i ds ho
      obtain ⟨e1, xs, e2, e3⟩ := R.own i ds ho
      exact ⟨_, e1, m, rfl, _, xs, rfl, SqL.of e2, fun l hl => k _ l _ _ (Step.new hl) hl upd_same ((rps_cut e3 _ _).le (Le.new hl) _ _) h⟩
    · exact h.elim
/-! ### a, b = value, list: the list is the frame's own; a, b = list, list -/
def dParVO (i j : Nat) (a : DE) (l : DA) : DS := ⟨a.n + l.n, fun E ss => a ss fun d => l ss fun ds => E.nx ((ss.set i (.val d)).set j (.own ds))⟩
def dParOO (i j : Nat) (l1 l2 : DA) : DS := ⟨l1.n + l2.n, fun E ss => l1 ss fun ds => l2 ss fun es => E.nx ((ss.set i (.own ds)).set j (.own es))⟩
section
variable {a b : Expr} {da : DE} {l1 l2 : DA} {y : Str} {px py pt : Pos} {kt k2 : Nat} {pt2 : Pos}
theorem sd_parVO (i j : Nat) (hc : X.calm = true) (hN : X.N.Nodup) (hij : i ≠ j) (ha : PE X a (up ⟨X.K, p⟩ G da)) (hl : PE X b (upL ⟨X.K, p⟩ G l1)) (hi : X.N[i]? = some x := by rfl) (hj : X.N[j]? = some y := by rfl)
    (hx : X.env.scope.names.lookup x = some .local := by rfl) (hy : X.env.scope.names.lookup y = some .local := by rfl) (he1 : starEach [a, b] X.env = (false, eval a X.env) :: starEach [b] X.env := by rfl) (he2 : starEach [b] X.env = (false, eval b X.env) :: starEach [] X.env := by rfl)
    (hw : swappedStores [.Tuple [.Name x px, .Name y py] kt pt] (.Tuple [a, b] k2 pt2) X.env = pure (some [x, y]) := by rfl) (hs : swapsWithSole [.Tuple [.Name x px, .Name y py] kt pt] (.Tuple [a, b] k2 pt2) pos.line X.env = pure false := by rfl) :
    PS X (.Assign [.Tuple [.Name x px, .Name y py] kt pt] (.Tuple [a, b] k2 pt2) pos) (upS ⟨X.K, p⟩ G (dParVO i j da l1)) :=
  psOf (ps_par hc hN hi hj hij hx hy (pa_cons ha (pa_cons hl pa_nil he2) he1) hw hs) fun D' σ H ⟨ss, ow, E, r, R, h, L⟩ =>
    ⟨ss, ow, _, R.wk (by show da.n ≤ da.n + l1.n + r; omega), h, fun d v H1 s1 r1 p1 => by
      have R1 : RepS ⟨X.K, p⟩ (l1.n + r) G H1 σ ss ow := RepS.step (m := da.n) (R.wk (by show da.n + (l1.n + r) ≤ da.n + l1.n + r; omega)) s1
      exact ⟨ss, ow, _, R1.l, p1, fun ds q xs H2 s2 hq h2 r2 p2 => ⟨v, .ref q, rfl, L.nx _ _ _ _ (RepS.setO (m := l1.n) (n := r) (R1.set i r1) s2 hq h2 r2) p2⟩⟩⟩
theorem sd_parOO (i j : Nat) (hc : X.calm = true) (hN : X.N.Nodup) (hij : i ≠ j) (ha : PE X a (upL ⟨X.K, p⟩ G l1)) (hl : PE X b (upL ⟨X.K, p⟩ G l2)) (hi : X.N[i]? = some x := by rfl) (hj : X.N[j]? = some y := by rfl)
    (hx : X.env.scope.names.lookup x = some .local := by rfl) (hy : X.env.scope.names.lookup y = some .local := by rfl) (he1 : starEach [a, b] X.env = (false, eval a X.env) :: starEach [b] X.env := by rfl) (he2 : starEach [b] X.env = (false, eval b X.env) :: starEach [] X.env := by rfl)
    (hw : swappedStores [.Tuple [.Name x px, .Name y py] kt pt] (.Tuple [a, b] k2 pt2) X.env = pure (some [x, y]) := by rfl) (hs : swapsWithSole [.Tuple [.Name x px, .Name y py] kt pt] (.Tuple [a, b] k2 pt2) pos.line X.env = pure false := by rfl) :
    PS X (.Assign [.Tuple [.Name x px, .Name y py] kt pt] (.Tuple [a, b] k2 pt2) pos) (upS ⟨X.K, p⟩ G (dParOO i j l1 l2)) :=
  psOf (ps_par hc hN hi hj hij hx hy (pa_cons ha (pa_cons hl pa_nil he2) he1) hw hs) fun D' σ H ⟨ss, ow, E, r, R, h, L⟩ =>
    ⟨ss, ow, _, R.wk (by show l1.n ≤ l1.n + l2.n + r; omega), h, fun ds q xs H1 s1 hq h1 r1 p1 => by
      have Ra : RepS ⟨X.K, p⟩ (l1.n + (l2.n + r)) G H σ ss ow := R.wk (by show l1.n + (l2.n + r) ≤ l1.n + l2.n + r; omega)
      have R1 := Ra.step s1
      have R2 := Ra.setO (i := i) s1 hq h1 r1
      exact ⟨ss, ow, _, R1.l, p1, fun es q2 ys H2 s2 hq2 h2 r2 p2 => ⟨.ref q, .ref q2, rfl, L.nx _ _ _ _ (RepS.setO (m := l2.n) (n := r) R2 s2 hq2 h2 r2) p2⟩⟩⟩
end
end
@[simp] theorem x_lastO {i : Nat} {ss : Sls} {Q : D → Prop} : (dLastO i).f ss Q = match ss[i]? with
  | some (Sl.own ds) => ∃ d, atI ds (-1) = some d ∧ Q d
  | _ => False := rfl
@[simp] theorem x_firstO {i : Nat} {m : Int} {ss : Sls} {Q : List D → Prop} : (dFirstO i m).f ss Q = match ss[i]? with
  | some (Sl.own ds) => Q (DL.cutD ds none (some m))
  | _ => False := rfl
@[simp] theorem x_parVO {i j : Nat} {a : DE} {l : DA} {E : DEnds} {ss : Sls} : (dParVO i j a l).f E ss = a.f ss fun d => l.f ss fun ds => E.nx ((ss.set i (.val d)).set j (.own ds)) := rfl
@[simp] theorem x_parOO {i j : Nat} {l1 l2 : DA} {E : DEnds} {ss : Sls} : (dParOO i j l1 l2).f E ss = l1.f ss fun ds => l2.f ss fun es => E.nx ((ss.set i (.own ds)).set j (.own es)) := rfl
/-! ### keywords -/
section
variable {X : Cx} {p : Option Addr} {G : Gm} {e : Expr} {kws : List Keyword} {da : DE} {dr : DA} {nm : Option Str} {kp : Pos}
theorem kd_nil : PK X [] (upA ⟨X.K, p⟩ G dNil) := ⟨fun pos pins s σ H Q I ⟨ss, ow, P, R, h, k⟩ => pk_nil.run pos pins s σ H Q I (k [] [] H (Step.refl _ _ _) .nil h)⟩
theorem kd_cons (ha : PE X e (up ⟨X.K, p⟩ G da)) (hr : PK X kws (upA ⟨X.K, p⟩ G dr)) : PK X (⟨nm, e, kp⟩ :: kws) (upA ⟨X.K, p⟩ G (dCons da dr)) :=
  ⟨fun pos pins s σ H Q I ⟨ss, ow, P, R, h, k⟩ => (pk_cons ha hr).run pos pins s σ H Q I ⟨ss, ow, _, R.l, h, fun x v H1 s1 r1 p1 => ⟨ss, ow, _, R.step s1, p1, fun xs vs H2 s2 r2 p2 => k (x :: xs) (v :: vs) H2 (s1.trans s2) (.cons (r1.le ((R.step s1).le s2) _ _) r2) p2⟩⟩⟩
end
/-! ### an object made, new -/
def upMk (c : Cf) (dt : DA) (S : FS) (g : List D → List D) : TE := fun σ H Q => ∃ ss P, RepX c H σ ss ∧ dt.f ss (fun xs => xs.length = (g xs).length ∧ S.f (g xs) P) ∧ ∀ x d H', H x = none → Step c 0 H H' → Rp c H' d (.ref x) → P d → Q (.ref x) H'
section
variable {X : Cx} {p : Option Addr} {pos q : Pos} {e : Expr} {es : List Expr} {kws : List Keyword} {dt : DA} {S : FS} {k j : Nat} {x : Str} {C : Addr} {ps ks : List Str}
theorem pe_mkF (c : MkC X.prog X.w X.K X.mg X.base k x C ps S) (hr : Room j X.A) (ha : ∀ G, PA X (e :: es) (upA ⟨X.K, p⟩ G dt)) (hn : S.n = 0 := by rfl) (hn2 : dt.n = 0 := by rfl) (hk : k + 1 ≤ j := by decide) (hg : Gl X x := by rfl)
    (hdb : (x == ("__debug__" : Str)) = false := by decide) (he : starEach (e :: es) X.env = (false, eval e X.env) :: starEach es X.env := by rfl) (hpl : (backTo pos (starEach es X.env)).any (·.1) = false := by rfl) :
    PE X (.Call (.Name x q) (e :: es) [] pos) (upMk ⟨X.K, p⟩ dt S id) := by
  obtain ⟨f, fd, M, F, hm, b⟩ := c.ex
  refine ⟨fun pins s σ H Q I ⟨ss, P, R, h, kk⟩ => ?_⟩
  obtain ⟨ow, R⟩ := R.reps
  refine (C8.pe_mk ⟨f, fd, _, [], M, F, hm, b, .nil⟩ hr hk hg (ha (gAll H)) hdb he hpl).run pins s σ H Q I ⟨ss, ow, _, by rw [hn2]; exact R, h, fun xs vs H1 s1 r1 ⟨_, p1⟩ x dx h1 h2 ne => ?_⟩
  rw [hn2] at s1
  rw [List.append_nil]
  exact mk_back (P := P) h1 h2 ne (R.step0 s1).pln r1 p1 fun d H' s2 r2 p2 => kk x d H' (s1.free R.pail h1) (s1.then0 s2) r2 p2
theorem pe_mkKF {g : {α : Type} → List α → List α} (c : MkK X.prog X.w X.K X.mg X.base k x C ps ks @g S)
    (hgr : ∀ {H : Hp} {xs : List D} {vs : List V}, Rps ⟨X.K, p⟩ H xs vs → xs.length = ks.length → Rps ⟨X.K, p⟩ H (g xs) (g vs)) (hr : Room j X.A) (hkw : ∀ G, PK X kws (upA ⟨X.K, p⟩ G dt)) (hsl : ∀ xs P, S.f xs P → xs.length = ks.length) (hn : S.n = 0 := by rfl) (hn2 : dt.n = 0 := by rfl) (hk : k + 1 ≤ j := by decide) (hg : Gl X x := by rfl)
    (hall : (backToKw pos (keywordEach kws X.env)).all (·.1.isSome) = true := by rfl) (hks : (backToKw pos (keywordEach kws X.env)).filterMap (·.1) = ks := by rfl) (hdb : (x == ("__debug__" : Str)) = false := by decide)
    (hpl : ((backTo pos (starEach [] X.env)).any (·.1) || (backToKw pos (keywordEach kws X.env)).any (·.1.isNone)) = false := by rfl) :
    PE X (.Call (.Name x q) [] kws pos) (upMk ⟨X.K, p⟩ dt S g) := by
  obtain ⟨f, fd, M, F, hm, b⟩ := c.ex
  refine ⟨fun pins s σ H Q I ⟨ss, P, R, h, kk⟩ => ?_⟩
  obtain ⟨ow, R⟩ := R.reps
  refine (pe_makeK0 M F (hr.mono hk) hg hm b C8.pass0 (hkw (gAll H)) hall hks hdb hpl (E := C8.E0)).run pins s σ H Q I ⟨ss, ow, _, by rw [hn2]; exact R, h, fun xs vs H1 s1 r1 ⟨l1, p1⟩ => ?_⟩
  rw [hn2] at s1
  have hl : xs.length = ks.length := by rw [l1]; exact hsl _ _ p1
  refine ⟨rfl, by rw [r1.length]; exact hl, fun x dx h1 h2 ne => ?_⟩
  exact mk_back (P := P) h1 h2 ne (R.step0 s1).pln (hgr r1 hl) p1 fun d H' s2 r2 p2 => kk x d H' (s1.free R.pail h1) (s1.then0 s2) r2 p2
end
/-! ### environments -/
section
variable {c : Cf} {H H' : Hp} {σ : L2.St} {ss ss' : Sls}
/-- less is known -/
theorem RepX.sub (R : RepX c H σ ss) (hl : ss'.length = ss.length) (h : ∀ (i : Nat) x, ss'[i]? = some x → x = .no ∨ ss[i]? = some x) : RepX c H σ ss' := by
  obtain ⟨ow, R⟩ := R.reps
  have g : ∀ (i : Nat) x, x ≠ .no → ss'[i]? = some x → ss[i]? = some x := fun i x n e => (h i x e).resolve_left n
  exact ⟨gAll H, ow, by rw [hl]; exact R.len, fun i d e => R.val i d (g i _ (fun z => Sl.noConfusion z) e), fun i d e => R.own i d (g i _ (fun z => Sl.noConfusion z) e), fun i j a b e1 e2 => R.inj i j a b (g i _ (fun z => Sl.noConfusion z) e1) (g j _ (fun z => Sl.noConfusion z) e2),
    fun i d e => R.fr i d (g i _ (fun z => Sl.noConfusion z) e), R.keep, R.nl, R.al, R.pl, fun i v e => R.raw i v (g i _ (fun z => Sl.noConfusion z) e)⟩
/-- a slot is what its value is -/
theorem RepX.put1 (R : RepX c H σ ss) {i : Nat} {v : V} {x : Sl} (hv : σ[i]? = some (some v)) (hx : x = .raw v ∨ ∃ d, x = .val d ∧ Rp c H d v) : RepX c H σ (ss.set i x) := by
  have e : σ.set i (some v) = σ := by
    apply List.ext_getElem?
    intro j
    by_cases z : i = j
    · subst z
      rw [List.getElem?_set_self (List.getElem?_eq_some_iff.mp hv).1, hv]
    · rw [List.getElem?_set_ne z]
  rcases hx with rfl | ⟨d, rfl, r⟩
  · have := R.rawS i v
    rwa [e] at this
  · have := R.set i r
    rwa [e] at this
end
end DL
set_option maxRecDepth 100000
set_option maxHeartbeats 2000000
namespace DL
open PySem PySem.Spec PyProof.Rows L2
/-! ### a frame that keeps all of the entry's heap but tables and the pail -/
def isTbl : Option HO → Bool
  | some (.tbl _) => true
  | _ => false
def cutT (H : Hp) : Hp := fun b => if isTbl (H b) = true then none else H b
theorem cutT_some {H : Hp} {b : Addr} {o : HO} (h : H b = some o) (n : ∀ ps, o ≠ .tbl ps) : cutT H b = some o := by
  unfold cutT
  rw [if_neg]
  · exact h
  · rw [h]
    cases o <;> first | exact Bool.false_ne_true | exact absurd rfl (n _)
theorem cutT_of {H : Hp} {b : Addr} {o : HO} (h : cutT H b = some o) : H b = some o ∧ ∀ ps, o ≠ .tbl ps := by
  unfold cutT at h
  split at h
  · cases h
  · rename_i z
    refine ⟨h, fun ps e => ?_⟩
    subst e
    rw [h] at z
    exact z rfl
theorem cutT_none {H : Hp} {b : Addr} (h : H b = none) : cutT H b = none := by
  cases q : cutT H b with
  | none => rfl
  | some o => rw [(cutT_of q).1] at h; cases h
def GT (p : Option Addr) (H0 : Hp) : Gm := ⟨cutT H0, fun b => p = some b, ZL⟩
def RepZ (c : Cf) (H0 H : Hp) (σ : L2.St) (ss : Sls) : Prop := ∃ ow, RepS c 0 (GT c.pl H0) H σ ss ow
variable {c : Cf} {H H0 H1 H' : Hp} {σ : L2.St} {ss : Sls}
theorem RepZ.x (R : RepZ c H0 H σ ss) : RepX c H σ ss := let ⟨ow, R⟩ := R; ⟨_, ow, R⟩
theorem RepZ.pail (R : RepZ c H0 H σ ss) : PlOk c H := R.x.pail
theorem RepZ.step (R : RepZ c H0 H σ ss) (s : Step c 0 H H') : RepZ c H0 H' σ ss := let ⟨ow, R⟩ := R; ⟨ow, R.step0 s⟩
theorem RepZ.set (R : RepZ c H0 H σ ss) (i : Nat) {d : D} {v : V} (r : Rp c H d v) : RepZ c H0 H (σ.set i (some v)) (ss.set i (.val d)) := let ⟨ow, R⟩ := R; ⟨ow, R.set i r⟩
theorem RepZ.no (R : RepZ c H0 H σ ss) (i : Nat) (o : Option V) : RepZ c H0 H (σ.set i o) (ss.set i .no) := let ⟨ow, R⟩ := R; ⟨ow, R.no i o⟩
theorem RepZ.rawS (R : RepZ c H0 H σ ss) (i : Nat) (v : V) : RepZ c H0 H (σ.set i (some v)) (ss.set i (.raw v)) := let ⟨ow, R⟩ := R; ⟨ow, R.rawS i v⟩
theorem RepZ.keep (R : RepZ c H0 H σ ss) {b : Addr} {o : HO} (h : H0 b = some o) (n : ∀ ps, o ≠ .tbl ps) (hp : c.pl ≠ some b) : H b = some o := let ⟨_, R⟩ := R; R.keep b o (cutT_some h n) hp
theorem RepZ.sub {ss' : Sls} (R : RepZ c H0 H σ ss) (hl : ss'.length = ss.length) (h : ∀ (i : Nat) x, ss'[i]? = some x → x = .no ∨ ss[i]? = some x) : RepZ c H0 H σ ss' := by
  obtain ⟨ow, R⟩ := R
  have g : ∀ (i : Nat) x, x ≠ .no → ss'[i]? = some x → ss[i]? = some x := fun i x n e => (h i x e).resolve_left n
  exact ⟨ow, by rw [hl]; exact R.len, fun i d e => R.val i d (g i _ (fun z => Sl.noConfusion z) e), fun i d e => R.own i d (g i _ (fun z => Sl.noConfusion z) e), fun i j a b e1 e2 => R.inj i j a b (g i _ (fun z => Sl.noConfusion z) e1) (g j _ (fun z => Sl.noConfusion z) e2),
    fun i d e => R.fr i d (g i _ (fun z => Sl.noConfusion z) e), R.keep, R.nl, R.al, R.pl, fun i v e => R.raw i v (g i _ (fun z => Sl.noConfusion z) e)⟩
theorem RepZ.put1 (R : RepZ c H0 H σ ss) {i : Nat} {v : V} {x : Sl} (hv : σ[i]? = some (some v)) (hx : x = .raw v ∨ ∃ d, x = .val d ∧ Rp c H d v) : RepZ c H0 H σ (ss.set i x) := by
  have e : σ.set i (some v) = σ := by
    apply List.ext_getElem?
    intro j
    by_cases z : i = j
    · subst z
      rw [List.getElem?_set_self (List.getElem?_eq_some_iff.mp hv).1, hv]
    · rw [List.getElem?_set_ne z]
  rcases hx with rfl | ⟨d, rfl, r⟩
  · have := R.rawS i v
    rwa [e] at this
  · have := R.set i r
    rwa [e] at this
theorem RepZ.mut (R : RepZ c H0 H σ ss) (e : LeM H H') (k : ∀ b o, H0 b = some o → H b = some o → (∀ ps, o ≠ .tbl ps) → H' b = some o) (h : ss.all nlSl = true) : RepZ c H0 H' σ ss := by
  have hs : ∀ (i : Nat) (x : Sl), ss[i]? = some x → nlSl x = true := fun i x q => List.all_eq_true.mp h x (List.mem_of_getElem? q)
  obtain ⟨ow, R⟩ := R
  have kk : ∀ b o, cutT H0 b = some o → H b = some o → H' b = some o := fun b o q1 q2 => k b o (cutT_of q1).1 q2 (cutT_of q1).2
  have hp : ∀ p, c.pl = some p → ∃ x y w : Int, H p = some (.lst [.int x, .int y, .int w]) ∧ H' p = some (.lst [.int x, .int y, .int w]) ∧ 0 ≤ x ∧ 0 ≤ y ∧ y < 2147483648 := fun p q => by
    obtain ⟨⟨z, ⟨z0, x, y, w, h, q⟩, _, _⟩, _⟩ := R.pl p q
    exact ⟨x, y, w, h, e.lst h, q⟩
  refine ⟨ow, R.len, fun i d q => ?_, fun i ds q => ?_, R.inj, R.fr, fun b o q n => kk b o q (R.keep b o q n), fun b o q n => kk b o q (R.nl b o q n), fun b q => ?_, fun p q => ?_, R.raw⟩
  · obtain ⟨v, e1, e2⟩ := R.val i d q
    exact ⟨v, e1, e2.mut e _ _ (hs i _ q)⟩
  · obtain ⟨e1, xs, e2, e3⟩ := R.own i ds q
    exact ⟨e1, xs, e.lst e2, e3.mut e _ _ (hs i _ q)⟩
  · by_cases hio : c.pl = some b
    · obtain ⟨x, y, w, _, h2, _⟩ := hp b hio
      rw [h2]; exact fun z => nomatch z
    · cases z : (GT c.pl H0).H0 b with
      | none => exact absurd z q
      | some o =>
        rw [kk b o z (R.keep b o z hio)]
        exact fun z => nomatch z
  · obtain ⟨⟨z, ⟨z0, x, y, w, h, q1⟩, a1, a2⟩, a3⟩ := R.pl p q
    exact ⟨⟨z, ⟨z0, x, y, w, e.lst h, q1⟩, a1, a2⟩, a3⟩
structure EndZ (c : Cf) (H0 H : Hp) (E : DEnds) (D' : Ends) : Prop where
  nx : ∀ σ' H' ss', RepZ c H0 H' σ' ss' → Fr H H' → E.nx ss' → D'.nx σ' H'
  rt : ∀ σ' H' ss' d v, RepZ c H0 H' σ' ss' → Fr H H' → Rp c H' d v → E.rt d ss' → D'.rt v H'
  bk : ∀ σ' H' ss', RepZ c H0 H' σ' ss' → Fr H H' → E.bk ss' → D'.bk σ' H'
  ct : ∀ σ' H' ss', RepZ c H0 H' σ' ss' → Fr H H' → E.ct ss' → D'.ct σ' H'
def upZ (c : Cf) (H0 : Hp) (t : DS) : TS := fun D' σ H => ∃ ss E, RepZ c H0 H σ ss ∧ t.f E ss ∧ EndZ c H0 H E D'
section
variable {X : Cx} {p : Option Addr} {st : Stmt} {sts : List Stmt} {t : DS}
theorem fr_re {n : Nat} {ow ow' : Nat → Addr} {σ' : L2.St} {ss' : Sls} (R : RepS c 0 (GT c.pl H0) H σ ss ow) (R' : RepS c n ((GT c.pl H0).re H ss ow) H' σ' ss' ow') : Fr H H' := fun b o e h => R'.keep b o e fun z => by
  rcases z with z | ⟨i, ds, z, rfl⟩
  · obtain ⟨_, _, x, y, w, q, _⟩ := R.pail b z
    rw [e] at q
    exact h _ (Option.some.inj q)
  · obtain ⟨_, xs, q, _⟩ := R.own i ds z
    rw [e] at q
    exact h _ (Option.some.inj q)
theorem EndZ.lnk {E : DEnds} {D' : Ends} {ow : Nat → Addr} (R : RepS c 0 (GT c.pl H0) H σ ss ow) (L : EndZ c H0 H E D') : Lnk c ((GT c.pl H0).re H ss ow) 0 E D' :=
  ⟨fun σ H' ss' ow' R' => L.nx σ H' ss' ⟨ow', R.back R'⟩ (fr_re R R'), fun σ H' ss' ow' d v R' => L.rt σ H' ss' d v ⟨ow', R.back R'⟩ (fr_re R R'), fun σ H' ss' ow' R' => L.bk σ H' ss' ⟨ow', R.back R'⟩ (fr_re R R'), fun σ H' ss' ow' R' => L.ct σ H' ss' ⟨ow', R.back R'⟩ (fr_re R R')⟩
theorem ps_Z (h : ∀ G, PS X st (upS ⟨X.K, p⟩ G t)) (hn : t.n = 0 := by rfl) : PS X st (upZ ⟨X.K, p⟩ H0 t) := ⟨fun pins s σ H D' I ⟨ss, E, ⟨ow, R⟩, h1, L⟩ => (h _).run pins s σ H D' I ⟨ss, ow, E, 0, by rw [hn]; exact R.re, h1, L.lnk R⟩⟩
theorem pss_Z (h : ∀ G, PSs X sts (upS ⟨X.K, p⟩ G t)) (hn : t.n = 0 := by rfl) : PSs X sts (upZ ⟨X.K, p⟩ H0 t) := ⟨fun pins s σ H D' I ⟨ss, E, ⟨ow, R⟩, h1, L⟩ => (h _).run pins s σ H D' I ⟨ss, ow, E, 0, by rw [hn]; exact R.re, h1, L.lnk R⟩⟩
end
/-- what a statement makes of the slots, the rest goes on from -/
theorem z_run {t : DS} {D' : Ends} (R : RepZ c H0 H σ ss) (I : Sls → Prop) (h : t.f ⟨I, fun _ _ => False, fun _ => False, fun _ => False⟩ ss) (k : ∀ σ' H' ss', RepZ c H0 H' σ' ss' → Fr H H' → I ss' → D'.nx σ' H') : upZ c H0 t D' σ H :=
  ⟨ss, _, R, h, ⟨k, fun _ _ _ _ _ _ _ _ z => z.elim, fun _ _ _ _ _ z => z.elim, fun _ _ _ _ _ z => z.elim⟩⟩
theorem RepZ.new (R : RepZ c H0 H σ ss) {x : Addr} (h : H x = none) : cutT H0 x = none := by
  obtain ⟨ow, R⟩ := R
  cases q : cutT H0 x with
  | none => rfl
  | some o => exact absurd h (R.al x (by show cutT H0 x ≠ none; rw [q]; exact fun z => nomatch z))
/-- the beginning -/
theorem repZ_start {N : List Str} {as : Sls} {vs : List V} (hp : PlN c 0 H) (r : ArgR c H as vs) : RepZ c H H (L2.start N vs) (startA N as) := by
  obtain ⟨zt, R, _⟩ := reps_startA (N := N) hp r
  refine ⟨_, R.len, R.val, R.own, R.inj, fun i ds e => ⟨?_, (R.fr i ds e).2⟩, fun b o e _ => (cutT_of e).1, fun b o e _ => (cutT_of e).1, fun b e => ?_, fun p e => ?_, R.raw⟩
  · rcases (R.fr i ds e).1 with q | q
    · exact absurd q (R.fr i ds e).2
    · exact .inr (cutT_none q)
  · cases q : (GT c.pl H).H0 b with
    | none => exact absurd q e
    | some o => rw [(cutT_of q).1]; exact fun z => nomatch z
  · obtain ⟨⟨z, ⟨z0, x, y, w, h, q2⟩, _, _⟩, _⟩ := R.pl p e
    exact ⟨⟨z, ⟨z0, x, y, w, h, q2⟩, by show z + 0 ≤ ZL; rw [z0]; exact Nat.zero_le _, Nat.le_refl _⟩, e⟩
/-! ### the tables -/
theorem tabs_k {T : List (Addr × Str)} (t : LamX.Tabs T H) (k : ∀ b o, H b = some o → (∀ xs, o ≠ .lst xs) → (∀ C dx fs, o ≠ .ins C dx fs) → H' b = some o) : LamX.Tabs T H' := fun q hq => by
  obtain ⟨ps, h1, h2, h3⟩ := t q hq
  refine ⟨ps, k _ _ h1 (fun _ z => nomatch z) (fun _ _ _ z => nomatch z), h2, fun pos cv hc => ?_⟩
  obtain ⟨c, e1, e2⟩ := h3 pos cv hc
  exact ⟨c, e1, k _ _ e2 (fun _ z => by unfold LamX.CodeO at z; cases z) (fun _ _ _ z => by unfold LamX.CodeO at z; cases z)⟩
theorem tabs_fr {T : List (Addr × Str)} (t : LamX.Tabs T H) (k : Fr H H') : LamX.Tabs T H' := fun q hq => by
  obtain ⟨ps, h1, h2, h3⟩ := t q hq
  refine ⟨ps, k _ _ h1 (fun _ z => nomatch z), h2, fun pos cv hc => ?_⟩
  obtain ⟨c, e1, e2⟩ := h3 pos cv hc
  exact ⟨c, e1, k _ _ e2 (fun _ z => by unfold LamX.CodeO at z; cases z)⟩
theorem Step.fr {n : Nat} (s : Step c n H H') (hp : PlOk c H) : Fr H H' := fun b o e h => s.1 b o e fun z => by
  obtain ⟨_, _, x, y, w, q, _⟩ := hp b z
  rw [e] at q
  exact h _ (Option.some.inj q)
theorem extN_lem (e : LamX.ExtN H H') : LeM H H' := fun b o q i t w => e b o q t
end DL
set_option maxRecDepth 100000
set_option maxHeartbeats 2000000
namespace DL
open PySem PySem.Spec PyProof.Rows L2
/-! ### the end of a law with one table, where no repr is under way -/
/-- what is told at the law's entry: the table is empty, the script stays -/
def entryH (K : PySem.W.Frag) (a T : Addr) (ob : Obj) (ns : List Int) : Hp := fun b => if b = T then some (.tbl #[]) else if b = a ∧ K.lookup a = none then some (.frz ob (.lst (ns.map .int))) else none
abbrev tabO : Obj := { cls := .none, data := .fields #[] }
abbrev scrO (vs : List Value) : Obj := { cls := .type "list", data := .seq vs.toArray }
section
variable {K : PySem.W.Frag} {a T : Addr} {ob : Obj} {ns : List Int}
theorem entry_T : entryH K a T ob ns T = some (.tbl #[]) := by unfold entryH; rw [if_pos rfl]
theorem entry_some {b : Addr} {u : HO} (h : entryH K a T ob ns b = some u) : (b = T ∧ u = .tbl #[]) ∨ (b = a ∧ b ≠ T ∧ K.lookup a = none ∧ u = .frz ob (.lst (ns.map .int))) := by
  unfold entryH at h
  split at h
  · rename_i e; cases h; exact .inl ⟨e, rfl⟩
  · rename_i n
    split at h
    · rename_i e; cases h; exact .inr ⟨e.1, n, e.2, rfl⟩
    · cases h
theorem entry_none {b : Addr} (h1 : b ≠ T) (h2 : b ≠ a ∨ K.lookup a ≠ none) : entryH K a T ob ns b = none := by
  unfold entryH
  rw [if_neg h1, if_neg fun z => h2.elim (fun n => n z.1) fun n => n z.2]
end
theorem end_run {P : Program} {w : World} {K : PySem.W.Frag} {mg mb : Str → Option Value} {k : Nat} {fa a c T : Addr} {fd : FuncData} {x : Str} {sp : Sp} {s₁ : Shared} {vs : List Value} {ns : List Int}
    (hK : K.In s₁.heap) (hG : s₁.heap.Ns mainGlobals mg) (hB : s₁.heap.Ns builtinsNs mb) (hBB : ∀ x : Str, x ≠ "__name__" → mb x = bootBuiltins x) (hL : s₁.heap.NoLimit) (hgen : s₁.gens = #[])
    (tE : s₁.heap.get? T = some tabO) (tK : K.lookup T = none) (hC : PySem.W.CodeHd s₁.heap c T)
    (hMod : ∃ (bm : Addr) (o : Obj), mg "__builtins__" = some (.ref bm) ∧ bm ≠ builtinsNs ∧ s₁.heap.get? bm = some o ∧ o.cls = .type "module" ∧ o.dict = some builtinsNs ∧ o.data = .plain)
    (hA : s₁.heap.get? a = some (scrO vs)) (hI : IntsAre vs ns) (hlen : ns.length ≤ sizeLine) (room : Room k callerA)
    (law : ∀ base : Heap, K.In base → base.Ns mainGlobals mg → LamX.TabB base mg c T → FnG P w K mg base k fa fd [x] sp) (bnd : ∀ (s : Shared) (u : Value), BindsTo s fd ⟨[u], []⟩ [(x, u)])
    (ask : ∀ H : Hp, H T = some (.tbl #[]) → SqS K H a (ns.map V.int) → sp [.ref a] H (fun v _ => v = .bl true) C8.E0) :
    codeAny (model P w) callerA (.call (.ref fa) ⟨[.ref a], []⟩) (fun r s' => r = .ok (.ret (.bool true)) ∧ OldK s₁.heap s'.heap ∧ s'.os = s₁.os ∧ AllBare s'.gens) s₁ := by
  have numsV := vals_ints hI
  have many := hI.length
  have aT : a ≠ T := fun e => by
    rw [e, tE] at hA
    have z := congrArg Obj.data (Option.some.inj hA)
    cases z
  let H : Hp := entryH K a T (scrO vs) ns
  -- the table and the script are what is told
  have told : HOk P w H s₁.heap := fun b u hu => by
    rcases entry_some hu with ⟨rfl, rfl⟩ | ⟨rfl, _, _, rfl⟩
    · exact tE
    · exact ⟨hA, by rw [List.length_map]; exact hlen, vs, _, numsV, hA⟩
  -- all else is in the base
  have at_ : ∀ {b : Addr} {o : Obj}, s₁.heap.get? b = some o → b ≠ T → (b ≠ a ∨ K.lookup a ≠ none) → (hidT s₁.heap H).get? b = some o := fun e n1 n2 => hidT_get e (entry_none n1 n2)
  have oth : ∀ {b : Addr} {o : Obj}, s₁.heap.get? b = some o → o.data ≠ .fields #[] → (∀ us n, o.data ≠ .seq us n) → (hidT s₁.heap H).get? b = some o := fun {b o} e n1 n2 => at_ e (fun z => by
      rw [z, tE] at e
      cases e
      exact n1 rfl) (.inl fun z => by
      rw [z, hA] at e
      cases e
      exact n2 _ _ rfl)
  have names : ∀ {b : Addr} {m : Str → Option Value}, s₁.heap.Ns b m → (hidT s₁.heap H).Ns b m := fun ⟨o, es, ep, e, d, r⟩ => ⟨o, es, ep, oth e (fun z => by rw [d] at z; cases z) (fun _ _ z => by rw [d] at z; cases z), d, r⟩
  have inK : K.In (hidT s₁.heap H) := fun b o e => at_ (hK b o e) (fun z => by rw [z, tK] at e; cases e) (by
    by_cases z : b = a
    · exact .inr fun q => by rw [z, q] at e; cases e
    · exact .inl z)
  have tab : LamX.TabB (hidT s₁.heap H) mg c T := by
    refine ⟨?_, ?_, fun z => ?_⟩
    · obtain ⟨o, us, file, tf, flags, tg, inF, text, tt, e1, r1, r2, r3, rest⟩ := hC
      exact ⟨o, us, file, tf, flags, tg, inF, text, tt, oth e1 (fun z => by rw [r2] at z; cases z; simp at r3) (fun _ _ z => by rw [r2] at z; cases z), r1, r2, r3, rest⟩
    · obtain ⟨bm, o, b1, b2, b3, b4, b5, b6⟩ := hMod
      have nG : bm ≠ mainGlobals := fun z => by
        obtain ⟨o', _, _, e, d, _⟩ := hG
        rw [z, e] at b3
        cases b3
        rw [b6] at d
        cases d
      have nT : bm ≠ T := fun z => by
        rw [z, tE] at b3
        cases b3
        cases b6
      exact ⟨bm, o, b1, b2, nG, nT, oth b3 (fun z => by rw [b6] at z; cases z) (fun _ _ z => by rw [b6] at z; cases z), b4, b5, b6⟩
    · obtain ⟨o', _, _, e, d, _⟩ := hG
      rw [z, tE] at e
      cases e
      cases d
  have md : L2.Mod K mg (hidT s₁.heap H) := ⟨inK, names hG, ⟨mb, names hB, hBB⟩, let ⟨m, q1, q2⟩ := hL; ⟨m, names q1, q2⟩⟩
  have env : Env0 P w K mg (hidT s₁.heap H) callerA [] s₁ H := ⟨rfl, md, fun _ _ e => of_hidT e, Nat.le_of_eq (hidT_size _ _), trivial, (fun _ z => nomatch (show _ ∈ ([] : List Addr) from z)), told, .of_eq hgen⟩
  have script : SqS K H a (ns.map V.int) := by
    cases q : K.lookup a with
    | none => exact .inl ⟨scrO vs, by show entryH K a T (scrO vs) ns a = _; unfold entryH; rw [if_neg aT, if_pos ⟨rfl, q⟩]⟩
    | some o =>
      have e := hK a o q
      rw [hA] at e
      cases e
      exact .inr ⟨_, vs.toArray, _, q, rfl, rfl, rfl, by rw [List.size_toArray, many]; exact hlen, by simpa using numsV⟩
  refine codeAny_mono ((law _ inK (names hG) tab).run callerA [] s₁ H ⟨[.ref a], []⟩ [.ref a] [.ref a] _ _ rfl room env (bnd s₁ (.ref a)) (.cons rfl .nil) (ask H entry_T script)) fun r s' z => ?_
  rcases r with e | fl
  · exact z.elim
  · cases fl with
    | next => exact z.elim
    | brk => exact z.elim
    | cont => exact z.elim
    | ret u =>
      obtain ⟨v, H', hos, hbare, un, hok', rel, rfl⟩ := z
      cases (show u = Value.bool true from rel)
      obtain ⟨more, hm⟩ := un.tbls T #[] entry_T
      have grown : s'.heap.get? T = some { cls := .none, data := .fields (#[] ++ more) } := hok' T _ hm
      have stays : ∀ b o, b ≠ T → s₁.heap.get? b = some o → s'.heap.get? b = some o := fun b o n e => by
        cases q : H b with
        | none => exact un.keep b o e q (fun z => nomatch (show b ∈ ([] : List Addr) from z)) (fun z => nomatch z)
        | some u =>
          rcases entry_some q with ⟨z, _⟩ | ⟨rfl, _, _, rfl⟩
          · exact absurd z n
          · obtain ⟨e1, _⟩ := hok' _ _ (un.frzs _ _ _ q)
            rw [hA] at e
            cases e
            exact e1
      refine ⟨rfl, ⟨fun b o e => ?_, fun b o e => ?_⟩, hos, hbare⟩
      · by_cases n : b = T
        · subst n
          rw [tE] at e
          cases e
          exact .inr (.inl ⟨(hC.tab tE).isCodeTable, rfl, #[], more, rfl, by simpa using grown⟩)
        · exact .inl (stays b o n e)
      · by_cases n : b = T
        · subst n; exact ⟨_, grown⟩
        · exact ⟨o, stays b o n e⟩
theorem walk_end {l : PySem.W.OpenLaw} {n k : Nat} {q : Program} {loose : List Str} {XP : (Str → Option Value) → Heap → Prop} {YP : World → Heap → Prop} {d : DefRec} {x : Str} (most : l.most = some n) (nmax : n ≤ sizeLine) (nodef : d.params.defaults = []) (room : Room k callerA)
    (law : ∀ (w : World) (mg : Str → Option Value) (fa : Addr) (h : Heap), YP w h → h.Ns mainGlobals mg → mg d.name = some (.ref fa) → ∃ (K : PySem.W.Frag) (c T : Addr) (fd : FuncData) (sp : Sp), K.In h ∧ h.get? T = some tabO ∧ K.lookup T = none ∧ PySem.W.CodeHd h c T ∧ (∀ (s : Shared) (u : Value), BindsTo s fd ⟨[u], []⟩ [(x, u)]) ∧
      (∀ (H : Hp) (a : Addr) (ns : List Int), ns.length ≤ n → (∀ z ∈ ns, Builtin.Int.intBits z ≤ 1048576) → H T = some (.tbl #[]) → SqS K H a (ns.map V.int) → sp [.ref a] H (fun v _ => v = .bl true) C8.E0) ∧
      ∀ base : Heap, K.In base → base.Ns mainGlobals mg → LamX.TabB base mg c T → FnG l.prog w K mg base k fa fd [x] sp) : PySem.W.WalkO q loose XP YP l.row.toRowW d [] (fun f vs => PySem.call f vs) := by
  refine Att.attach_callB most nodef fun w s₀ s₁ mg mb fa o pm cd doc a vs ns G Y _ _ _ hmg hobj hints hmany hbits hgen => ?_
  obtain ⟨K, c, T, fd, sp, kin, tE, tK, hC, bnd, ask, run⟩ := law w mg fa _ Y G.T.g hmg
  exact end_run kin G.T.g G.T.b G.T.builtins G.T.nolimit hgen tE tK hC G.T.bmain hobj hints (Nat.le_trans hmany nmax) room run bnd fun H => ask H a ns hmany hbits
end DL
set_option maxRecDepth 100000
set_option maxHeartbeats 2000000
namespace DL
open PySem PySem.Spec PyProof.Rows L2
/-! ### the head's facts: the library's, and the defs behind properties and classmethods -/
/-- a def behind a record (a property's getter, a classmethod's def) of the class C -/
structure GetD where
  C : Str
  m : Str
  rc : String
  qual : Str
  st : Stmt
def GetD.p (K : PySem.W.Frag) (d : GetD) : Addr := He.ma K (He.ga K d.C) d.m
def GetD.g (K : PySem.W.Frag) (d : GetD) : Addr := match PySem.W.recIn K (d.p K) d.rc with
  | some (.ref g :: _) => g
  | _ => 0
def fnAt (K : PySem.W.Frag) (g : Addr) : He.FnW := match K.lookup g with
  | some ⟨_, _, .func fd, _⟩ => some (fd.name, fd.qualname, fd.params, fd.body, fd.scope, fd.globals, fd.closure, fd.builtins)
  | _ => none
def GetD.val (d : GetD) : He.FnW := some (d.m, d.qual, defArgs d.st, .stmts (defBody d.st), defScope d.st, mainGlobals, [], builtinsNs)
def GetD.ok (K : PySem.W.Frag) (d : GetD) : Bool := He.eqO (PySem.W.findIn K (.ref (He.ga K d.C)) d.m) (some (some (.ref (d.p K)))) && ((match PySem.W.recIn K (d.p K) d.rc with
    | some (.ref _ :: _) => true
    | _ => false) && (PySem.W.keepIn K (.ref (d.g K)) && (match K.lookup (d.g K) with
    | some ⟨_, _, .func fd, _⟩ => PySem.W.codeIn K fd.code d.qual && (He.dflB K fd.defaults [] && He.kwdB K fd.kwdefaults [])
    | _ => false)))
structure GetK (K : PySem.W.Frag) (d : GetD) : Prop where
  at_ : PySem.W.findIn K (.ref (He.ga K d.C)) d.m = some (some (.ref (d.p K)))
  rec_ : ∃ rest, PySem.W.recIn K (d.p K) d.rc = some (.ref (d.g K) :: rest)
  fn : ∃ fd, FunD K d.m d.qual (defArgs d.st) (defBody d.st) (defScope d.st) [] [] (d.g K) fd
theorem GetD.k {K : PySem.W.Frag} {d : GetD} (c : d.ok K = true) (e : fnAt K (d.g K) = d.val) : GetK K d := by
  obtain ⟨c1, c⟩ := He.ba c
  obtain ⟨c2, c⟩ := He.ba c
  obtain ⟨c3, c4⟩ := He.ba c
  refine ⟨He.eqO_ok c1, ?_, ?_⟩
  · unfold GetD.g
    split at c2
    · rename_i g rest h
      rw [h]
      exact ⟨rest, rfl⟩
    · cases c2
  · unfold fnAt at e
    generalize hg : d.g K = g at *
    split at e
    · rename_i oc od fd osl ho
      rw [ho] at c4
      obtain ⟨k1, k2⟩ := He.ba (show (PySem.W.codeIn K fd.code d.qual && (He.dflB K fd.defaults [] && He.kwdB K fd.kwdefaults [])) = true from c4)
      obtain ⟨k3, k4⟩ := He.ba k2
      obtain ⟨n1, n2, n3, n4, n5, n6, n7, n8, n9, n10, n11, n12, n13, n14, n15⟩ := fd
      have e2 : (some (n1, n2, n3, n4, n5, n6, n7, n15) : He.FnW) = some (d.m, d.qual, defArgs d.st, .stmts (defBody d.st), defScope d.st, mainGlobals, [], builtinsNs) := e
      simp only [Option.some.injEq, Prod.mk.injEq] at e2
      obtain ⟨rfl, rfl, rfl, rfl, rfl, rfl, rfl, rfl⟩ := e2
      exact ⟨_, ⟨oc, od, n8, n9, n10, n11, n12, n13, n14, osl, rfl, ho, k1, He.dflB_ok k3, He.kwdB_ok k4⟩, c3⟩
    · cases e
/-! ### own exceptions -/
def isRef : Value → Bool
  | .ref _ => true
  | _ => false
def excB (K : PySem.W.Frag) (C : Addr) (n : Nat) (newId : String) (tail : List Value) : Bool := match K.lookup C with
  | some ⟨.type t, _, .cls cd, sl⟩ => decide (t = "type") && (match cd.mro, sl.toList with
    | m :: ms, [_, _, _, _, some (.builtin i), _] => decide (m = .ref C) && ((ms.take n).all isRef && (decide (ms.drop n = tail) && (cd.hasDict && (!cd.hasDel && decide (i = newId)))))
    | _, _ => false)
  | _ => false
theorem refs_of : ∀ {l : List Value}, l.all isRef = true → ∃ cs : List Addr, l = cs.map Value.ref
  | [], _ => ⟨[], rfl⟩
  | v :: l, h => by
    rw [List.all_cons] at h
    obtain ⟨h1, h2⟩ := He.ba h
    obtain ⟨cs, e⟩ := refs_of h2
    cases v with
    | ref a => exact ⟨a :: cs, by rw [e]; rfl⟩
    | _ => cases h1
theorem excB_ok {K : PySem.W.Frag} {C : Addr} {n : Nat} {newId : String} {tail : List Value} (h : excB K C n newId tail = true) :
    ∃ nm q N bs cs sn sub ab col dd k0 k1 k2 k3 k5, K.lookup C = some (excClassObj nm q C N bs (List.map Value.ref cs ++ tail) true sn sub ab col dd k0 k1 k2 k3 k5 newId) := by
  unfold excB at h
  split at h
  · rename_i t dd cd sl ho
    obtain ⟨h0, h⟩ := He.ba h
    have h0 := of_decide_eq_true h0
    split at h
    · rename_i m ms k0 k1 k2 k3 i k5 hm hs
      obtain ⟨h1, h⟩ := He.ba h
      obtain ⟨h2, h⟩ := He.ba h
      obtain ⟨h3, h⟩ := He.ba h
      obtain ⟨h4, h⟩ := He.ba h
      obtain ⟨h5, h6⟩ := He.ba h
      have h1 := of_decide_eq_true h1
      have h3 := of_decide_eq_true h3
      have h6 := of_decide_eq_true h6
      obtain ⟨cs, e⟩ := refs_of h2
      have hms : ms = cs.map Value.ref ++ tail := by rw [← e, ← h3, List.take_append_drop]
      obtain ⟨nm, bs, mro, ns, qn, hd, sn, sub, ab, col, del⟩ := cd
      dsimp only at hm h4 h5
      have h5 : del = false := by cases del <;> first | rfl | cases h5
      have hsl : sl = #[k0, k1, k2, k3, some (.builtin i), k5] := by
        obtain ⟨l⟩ := sl
        simp only at hs
        rw [hs]
      subst h0 h1 h4 h5 h6 hm hsl
      rw [hms] at ho
      exact ⟨nm, qn, ns, bs, cs, sn, sub, ab, col, dd, k0, k1, k2, k3, k5, ho⟩
    · cases h
  · cases h
/-! ### the Hook -/
def mapF (K : PySem.W.Frag) : List He.DefD → List He.FnW
  | [] => []
  | d :: l => He.fnW K d.at_ :: mapF K l
def valF : List He.DefD → List He.FnW
  | [] => []
  | d :: l => d.val :: valF l
def mapG (K : PySem.W.Frag) : List GetD → List He.FnW
  | [] => []
  | d :: l => fnAt K (d.g K) :: mapG K l
def valG : List GetD → List He.FnW
  | [] => []
  | d :: l => d.val :: valG l
theorem mapF_eq {K : PySem.W.Frag} : ∀ {l : List He.DefD}, mapF K l = valF l → l.map (fun d => He.fnW K d.at_) = l.map He.DefD.val
  | [], _ => rfl
  | d :: l, h => by
    have h : He.fnW K d.at_ :: mapF K l = d.val :: valF l := h
    obtain ⟨h1, h2⟩ := List.cons.inj h
    rw [List.map_cons, List.map_cons, h1, mapF_eq h2]
theorem mapG_at {K : PySem.W.Frag} : ∀ {l : List GetD}, mapG K l = valG l → ∀ d ∈ l, fnAt K (d.g K) = d.val
  | d :: l, h, x, hx => by
    have h : fnAt K (d.g K) :: mapG K l = d.val :: valG l := h
    obtain ⟨h1, h2⟩ := List.cons.inj h
    rcases List.mem_cons.mp hx with e | e
    · rw [e]; exact h1
    · exact mapG_at h2 x e
/-- what is looked at: the module's values, its classes' members, the defs behind records, the defs' code -/
def valsOf (o : Obj) : List Addr := match o.data with
  | .dict es _ => es.toList.flatMap fun e => He.refV e.val
  | _ => []
def nsOf (o : Obj) : List Addr := match o.data with
  | .cls cd => [cd.ns]
  | _ => []
def fldOf (o : Obj) : List Addr := match o.data with
  | .fields vs => vs.toList.flatMap He.refV
  | _ => []
def cdOf (o : Obj) : List Addr := match o.data with
  | .func fd => He.refV fd.code
  | _ => []
def lvl (g : Addr → Option Obj) (f : Obj → List Addr) (l : List Addr) : List Addr := l.flatMap fun a => match g a with
  | some o => f o
  | none => []
def onL {α β : Type} : List α → (List α → β) → β
  | [], k => k []
  | a :: l, k => onL l fun r => k (a :: r)
theorem onL_eq {α β : Type} : ∀ (l : List α) (k : List α → β), onL l k = k l
  | [], _ => rfl
  | a :: l, k => by
    show onL l (fun r => k (a :: r)) = _
    rw [onL_eq l]
def asC (g : Addr → Option Obj) : List Addr :=
  onL (lvl g valsOf [mainGlobals]) fun a1 => onL (lvl g nsOf a1) fun a2 => onL (lvl g valsOf a2) fun a3 => onL (lvl g fldOf a3) fun a4 => mainGlobals :: cStatics :: (a1 ++ (a2 ++ (a3 ++ (a4 ++ lvl g cdOf (a1 ++ (a3 ++ a4))))))
def tabB (g : Addr → Option Obj) (K : PySem.W.Frag) (p : He.Defn) : Bool := PySem.W.codeHdIn K (He.cT K p).1 (He.cT K p).2 && (match g (He.cT K p).2 with
  | some o => He.emptyTab o
  | none => false)
abbrev AlY : Type := Bool × List He.FnW
def obsK (fa : List He.Fa) (fn : List He.DefD) (tf : List He.Defn) (ex : PySem.W.Frag → Bool) (gs : List GetD) (g : Addr → Option Obj) (K : PySem.W.Frag) : AlY :=
  ((fa.all fun f => f.ok K) && ((fn.all fun d => d.ok K) && (ex K && ((gs.all fun d => d.ok K) && tf.all fun p => tabB g K p))), mapF K fn ++ mapG K gs)
def obsY (fa : List He.Fa) (fn : List He.DefD) (tf : List He.Defn) (ex : PySem.W.Frag → Bool) (gs : List GetD) (g : Addr → Option Obj) : AlY := onL (He.frT g (asC g)) fun K => obsK fa fn tf ex gs g K
def valY (fn : List He.DefD) (gs : List GetD) : AlY := (true, valF fn ++ valG gs)
structure SaysY (fa : List He.Fa) (fn : List He.DefD) (tf : List He.Defn) (ex : PySem.W.Frag → Bool) (gs : List GetD) (h : Heap) (K : PySem.W.Frag) : Prop where
  d : He.SaysD fa fn K
  exs : ex K = true
  get : ∀ d ∈ gs, GetK K d
  hd : ∀ p ∈ tf, PySem.W.codeHdIn K (He.cT K p).1 (He.cT K p).2 = true
  out : ∀ p ∈ tf, K.lookup (He.cT K p).2 = none
  empty : ∀ p ∈ tf, h.get? (He.cT K p).2 = some tabO
theorem mapF_len {K : PySem.W.Frag} : ∀ {l : List He.DefD}, (mapF K l).length = (valF l).length
  | [] => rfl
  | d :: l => congrArg (· + 1) (mapF_len (l := l))
theorem saysY_of {fa : List He.Fa} {fn : List He.DefD} {tf : List He.Defn} {ex : PySem.W.Frag → Bool} {gs : List GetD} {h : Heap} {as : List Addr} (e : obsK fa fn tf ex gs h.get? (He.frT h.get? as) = valY fn gs) : SaysY fa fn tf ex gs h (He.frT h.get? as) := by
  have e1 : _ = true := congrArg (fun z : AlY => z.1) e
  have e2 : mapF (He.frT h.get? as) fn ++ mapG (He.frT h.get? as) gs = valF fn ++ valG gs := congrArg (fun z : AlY => z.2) e
  obtain ⟨m1, m2⟩ := List.append_inj e2 mapF_len
  obtain ⟨h1, e1⟩ := He.ba (show ((fa.all fun f => f.ok (He.frT h.get? as)) && ((fn.all fun d => d.ok (He.frT h.get? as)) && (ex (He.frT h.get? as) && ((gs.all fun d => d.ok (He.frT h.get? as)) && tf.all fun p => tabB h.get? (He.frT h.get? as) p)))) = true from e1)
  obtain ⟨h2, e1⟩ := He.ba e1
  obtain ⟨h3, e1⟩ := He.ba e1
  obtain ⟨h4, h5⟩ := He.ba e1
  have key : ∀ p ∈ tf, PySem.W.codeHdIn (He.frT h.get? as) (He.cT (He.frT h.get? as) p).1 (He.cT (He.frT h.get? as) p).2 = true ∧ ∃ o, h.get? (He.cT (He.frT h.get? as) p).2 = some o ∧ He.emptyTab o = true := fun p hp => by
    obtain ⟨q1, q2⟩ := He.ba (List.all_eq_true.mp h5 p hp)
    refine ⟨q1, ?_⟩
    split at q2
    · rename_i o ho
      exact ⟨o, ho, q2⟩
    · cases q2
  refine ⟨Prod.ext (show ((fa.all fun f => f.ok (He.frT h.get? as)) && fn.all fun d => d.ok (He.frT h.get? as)) = true by rw [h1, h2]; rfl) (mapF_eq m1), h3, fun d hd => GetD.k (List.all_eq_true.mp h4 d hd) (mapG_at m2 d hd), fun p hp => (key p hp).1, fun p hp => ?_, fun p hp => ?_⟩
  · obtain ⟨_, o, q, z⟩ := key p hp
    exact He.frT_none q z
  · obtain ⟨_, o, q, z⟩ := key p hp
    rw [q, He.emptyTab_eq z]
def hookY (fa : List He.Fa) (fn : List He.DefD) (tf : List He.Defn) (ex : PySem.W.Frag → Bool) (gs : List GetD) : PySem.W.Hook where
  α := AlY
  obs := fun s => obsY fa fn tf ex gs s.heap.get?
  val := fun _ => valY fn gs
  says := fun _ h => ∃ K : PySem.W.Frag, K.In h ∧ SaysY fa fn tf ex gs h K
  of := fun _ _ e => ⟨_, He.frT_in, saysY_of ((onL_eq _ _).symm.trans e)⟩
  keeps := fun _ _ _ ⟨K, hK, c⟩ k => ⟨K, PySem.W.Frag.In.keeps hK k, ⟨c.d, c.exs, c.get, c.hd, c.out, fun p hp => k _ _ (c.empty p hp)⟩⟩
theorem obsY_eq {fa : List He.Fa} {fn : List He.DefD} {tf : List He.Defn} {ex : PySem.W.Frag → Bool} {gs : List GetD} {g : Addr → Option Obj} {s : Shared} (h : ∀ a, g a = s.heap.get? a) : obsY fa fn tf ex gs g = (hookY fa fn tf ex gs).obs s := by
  have e : g = s.heap.get? := funext h
  rw [e]
  rfl
theorem clsA_ga (K : PySem.W.Frag) (x : Str) : clsA K x = He.ga K x := by
  unfold clsA He.ga
  cases PySem.W.nsIn K mainGlobals x with
  | none => rfl
  | some o =>
    cases o with
    | none => rfl
    | some v => cases v <;> rfl
theorem progC_ga (K : PySem.W.Frag) : progC K = He.ga K "Program" := by
  unfold progC He.ga
  cases PySem.W.nsIn K mainGlobals "Program" with
  | none => rfl
  | some o =>
    cases o with
    | none => rfl
    | some v => cases v <;> rfl
end DL
set_option maxRecDepth 100000
set_option maxHeartbeats 2000000
namespace DL
open PySem PySem.Spec PyProof.Rows L2
/-! ### raise C, C a class of the module without an __init__ -/
section
variable {prog : Program} {w : World} {A : Around} {E : Value → Shared → Prop} {s : Shared} {K : PySem.W.Frag} {C : Addr}
theorem issub_own {Q : Fin → Shared → Prop} (X : K.In s.heap) (hc : ∃ oc od cd sl, K.lookup C = some ⟨oc, od, .cls cd, sl⟩) (sub : PySem.W.subIn K (.ref C) (.ref C) = some true) (ty : PySem.W.typeIn K (.ref C) = some (.type "type")) (h : Q (.done (.ret (.bool true))) s) :
    wpAny (model prog w) A (Builtin.«issubclass.nested» ⟨[.ref C, .ref C, rawInt 0], []⟩) Q E s := by
  obtain ⟨hh, g, dr, t, os⟩ := s
  dsimp only at X
  obtain ⟨oc, od, cd, sl, hK⟩ := hc
  have hC := X _ _ hK
  have L1 := PySem.W.looks_subIn (M := model prog w) X sub
  have L2 := PySem.W.looks_typeIn (M := model prog w) X ty
  unfold Builtin.«issubclass.nested»
  repeat (first | exact h | exact wpAny_pure h | lk)
theorem raise_cls {x : Sem Value} {env : Env} {Q : Flow → Shared → Prop} {B newId initId : String} {bmB : List Value} (F : ExcBaseFacts B newId initId bmB) (hh : A.handled = none) (q : PySem.W.excIn K C bmB newId = true)
    (kB : PySem.W.subIn K (.ref C) (.type "BaseException") = some true) (kS : PySem.W.subIn K (.ref C) (.ref C) = some true) (kT : PySem.W.typeIn K (.ref C) = some (.type "type"))
    (hx : wpAny (model prog w) A x (fun v s₁ => v = .ref C ∧ K.In s₁.heap ∧ ∀ h' e, Heap.MadeExcOf s₁.heap h' e (.ref C) [] → E (.ref e) { s₁ with heap := h' }) E s) : wpAny (model prog w) A (raiseStmt env (some x) none) Q E s := by
  unfold raiseStmt
  dsimp only
  refine wpAny_bind (wpAny_mono hx (fun v s₁ h₁ => ?_) fun _ _ z => z)
  obtain ⟨rfl, X, h⟩ := h₁
  obtain ⟨bm, N, nm, qn, bs, hdct, sn, sub, ab, col, dd, k0, k1, k2, k3, k5, mN, hC, hN, hni, T⟩ := exc_obj X q
  have isT : ∀ {s' : Shared} {Q' : Bool → Shared → Prop}, s'.heap.get? C = s₁.heap.get? C → Q' true s' → wpAny (model prog w) A (isType (.ref C)) Q' E s' := by
    intro s' Q' e hq
    simp only [isType, loadHead]
    refine wpAny_bind (wpAny_loadPart (e.trans hC) ?_)
    exact wpAny_pure hq
  refine wpAny_bind (wpAny_pure ?_)
  dsimp only
  refine wpAny_bind (wpAny_holding ?_)
  unfold excFromValue isExcClass
  refine wpAny_bind (wpAny_bind (isT rfl ?_))
  simp only [if_true]
  refine (PySem.W.looks_subIn X kB).here ?_
  simp only [if_true]
  refine wpAny_bind (wpAny_call_exc_subT F T hC hN hni (rest := []) (fun h' e hm => ?_) (by show 0 ≤ sizeLine; omega))
  have X2 : K.In h' := fun b o eb => hm.keeps b o (X b o eb)
  obtain ⟨t, he, _, _⟩ := hm.there
  obtain ⟨hp, g, d, tk, os⟩ := s₁
  have LT : PySem.W.Looks (model prog w) h' (typeOf (.ref e)) (.ref C) := fun A Q E s k z => wpAny_typeOf_ref (k _ _ he) z
  have hC2 : h'.get? C = hp.get? C := (hm.keeps _ _ hC).trans hC.symm
  have LI : PySem.W.Looks (model prog w) h' (isInstance (.ref e) (.type "BaseException")) true := LT.andThen (PySem.W.looks_subIn X2 kB)
  refine wpAny_bind (LI.here ?_)
  simp only [Bool.not_true, Bool.false_eq_true, if_false]
  refine wpAny_pure ?_
  refine wpAny_bind (isT hC2 ?_)
  simp only [if_true]
  refine wpAny_bind (wpAny_holding ?_)
  unfold raisedFor
  simp only [Bool.false_eq_true, if_false]
  first | refine wpAny_bind (LT.here ?_) | refine wpAny_bind (wpAny_bind (LT.here ?_))
  refine wpAny_bind (call_issubclass (S := fun _ R s => K.In s.heap ∧ R (.ok (.ret (.bool true))) s) (fun _ _ _ _ _ hs => issubclass_outer (issub_own hs.1 ?_ kS kT hs.2)) ⟨X2, ?_⟩)
  · unfold PySem.W.excIn at q
    split at q
    · rename_i ho
      exact ⟨_, _, _, _, ho⟩
    · cases q
  · dsimp only [wants]
    first | refine wpAny_bind (wpAny_truthy_bool ?_) | refine wpAny_truthy_bool ?_
    simp only [if_true]
    refine wpAny_pure ?_
    unfold setFlight raiseNew
    refine wpAny_bind (wpAny_bind (wpAny_field (i := 1) (x := Value.none) he rfl rfl ?_))
    rw [if_neg (by decide)]
    refine wpAny_pure (wpAny_bind (wpAny_handled ?_))
    rw [hh]
    first
      | exact wpAny_throw (h h' e hm)
      | exact wpAny_bind (wpAny_pure (wpAny_throw (h h' e hm)))
end
section
variable {X : Cx} {W : WX} {x : Str} {np pos : Pos} {C : Addr} {B newId initId : String} {bmB : List Value}
theorem ps_raiseC (hc : X.calm = true) (tk : Takes X W) (F : ExcBaseFacts B newId initId bmB) (q : PySem.W.excIn X.K C bmB newId = true) (kB : PySem.W.subIn X.K (.ref C) (.type "BaseException") = some true) (kS : PySem.W.subIn X.K (.ref C) (.ref C) = some true) (kT : PySem.W.typeIn X.K (.ref C) = some (.type "type"))
    (gC : X.mg x = some (.ref C)) (hg : Gl X x := by rfl) (hdb : (x == ("__debug__" : Str)) = false := by decide) : PS X (.Raise (some (.Name x np)) none pos) (fun _ σ H => W (.ref C) none σ H) := ⟨fun pins s σ H D I h => by
  show wpAny _ _ (do standAt pos; raiseStmt X.env (some (do let v ← eval (.Name x np) X.env; standAt pos; pure v)) none) _ _ _
  refine wpAny_bind (wpAny_standAt (raise_cls F (I.ok.hd hc) q kB kS kT ?_))
  refine wpAny_bind (ld_glob I hg gC ?_ hdb)
  refine wpAny_bind (wpAny_standAt (wpAny_pure ⟨rfl, I.kIn, fun h' e hm => ?_⟩))
  obtain ⟨a, oe, vs, sI, H', cls, d, e1, J, k, hne, ha, hz, hd, h1, na, os, ag, _, q2⟩ := mk_of (Q := fun cls d H' => W cls d σ H') I hm (raises_own kB kT) h (I.hok.gone hm.new)
  cases e1
  exact tk _ _ (XE.new J k hne ha hz hd h1 na os ag q2)⟩
end
end DL
set_option maxRecDepth 100000
set_option maxHeartbeats 2000000
namespace DL
open PySem PySem.Spec PyProof.Rows L2
section
variable {X : Cx} {p : Option Addr} {G : Gm} {pos q q1 q2 : Pos} {a C : Addr} {oe : Obj} {pn : List (Addr × Obj)} {x y : Str} {i : Nat}
/-- isinstance(e, T), the error without attributes -/
theorem pd_isX0 (E : ExcQ X.K C) (hz : Zc (.ref C) none oe) (hf : ∃ vs, oe.data = .fields vs) {cv : Value} {b : Bool} (hk : PySem.W.kitOne X.K (.ref C) cv = some b) {pv : V} (hcv : ∀ u, RelV pv u → u = cv)
    (hN : X.N[i]? = some x) (hv : Vis X.env.scope x) (hT : PE (X.suite a ((a, oe) :: pn)) (.Name y q2) (fun σ H Q => Q pv H)) (hg : Gl X "isinstance") (hm : X.mg "isinstance" = none) (hd : (x == ("__debug__" : Str)) = false := by decide) (hcd : (x == ("__classdict__" : Str)) = false := by decide)
    (he : starEach [.Name x q1, .Name y q2] X.env = (false, eval (.Name x q1) X.env) :: starEach [.Name y q2] X.env := by rfl) (he2 : starEach [.Name y q2] X.env = (false, eval (.Name y q2) X.env) :: starEach [] X.env := by rfl) (hpl : (backTo pos (starEach [.Name y q2] X.env)).any (·.1) = false := by rfl) :
    PE (X.suite a ((a, oe) :: pn)) (.Call (.Name "isinstance" q) [.Name x q1, .Name y q2] [] pos) (up ⟨X.K, p⟩ G (dRawF i (.ref a) (.bl b))) := by
  have hc : CallR (X.suite a ((a, oe) :: pn)) (.builtin "isinstance") (fun xs H Q => xs = [.ref a, pv] ∧ Q (.bl b) H) := by
    intro pins s σ H xs us Q I r h
    obtain ⟨rfl, hQ⟩ := h
    obtain ⟨u1, u2, rfl, r1, r2⟩ : ∃ u1 u2, us = [u1, u2] ∧ RelV (.ref a) u1 ∧ RelV pv u2 := by
      rcases r with _ | ⟨r1, _ | ⟨r2, _ | _⟩⟩
      exact ⟨_, _, rfl, r1, r2⟩
    cases (show u1 = Value.ref a from r1)
    rw [hcv _ r2]
    obtain ⟨ha, _⟩ := I.pin (a, oe) (List.mem_append_left _ List.mem_cons_self)
    obtain ⟨vs, hdv⟩ := hf
    have J : PySem.W.InstAt s.heap a oe C none := ⟨ha, hz.1, by unfold PySem.W.notCls; rw [hdv] <;> rfl, by rw [hz.2]; trivial⟩
    exact PySem.W.kia_one (PySem.W.kitx_exc E.cl E.ga E.gg E.sb E.ca E.cg E.ct E.ob) I.kIn J hk (fun z => nomatch z) fun tk => ⟨.bl b, H, I.kept (t' := tk) fun _ _ z => z, rfl, hQ⟩
  refine peOf (pe_callB hc hg hm bt_isinstance (pa_cons (pe_var (i := i) hN hv hd hcd) (pa_cons hT pa_nil he2) he) (by decide) (by decide) he hpl) fun σ H Q ⟨ss, ow, P, R, ⟨h1, h2⟩, kk⟩ => ?_
  exact ⟨_, R.raw i _ h1, rfl, kk _ _ H (Step.refl _ _ _) r_bl h2⟩
end
end DL
set_option maxRecDepth 100000
set_option maxHeartbeats 2000000
namespace KK
open PySem PySem.Spec PyProof.Rows L2 DL
variable {P : Program} {w : World} {K : PySem.W.Frag} {mg : Str → Option Value} {base : Heap}
abbrev ntuC (K : PySem.W.Frag) : Addr := clsA K "NothingToUndo"
/-! ### nothing to undo -/
def spSortN (K : PySem.W.Frag) (a : Addr) (oe : Obj) (H : Hp) (Q : VK) : Prop := ∃ (p : Option Addr), Zc (.ref (ntuC K)) none oe ∧ (∃ vs, oe.data = .fields vs) ∧ PlN ⟨K, p⟩ 0 H ∧
  ∀ v H', Step ⟨K, p⟩ 0 H H' → Rp ⟨K, p⟩ H' (.lst [.str "NothingToUndo", .str ""]) v → Q v H'
def spSort2 (K : PySem.W.Frag) (a : Addr) (oe : Obj) (H : Hp) (Q : VK) : Prop := spSort K a oe H Q ∨ spSortN K a oe H Q
section
variable {f : Addr} {cdv : Value} {A0 : Around} {outer : List Env} {s : Shared} {H : Hp} {a : Addr} {oe : Obj} {p : Option Addr} {zt : Nat} {y : Str} {b : Bool} {q q1 q2 pos : Pos}
theorem is_ref0 (E : Fx K mg) {C2 : Addr} (hz : Zc (.ref (ntuC K)) none oe) (hf : ∃ vs, oe.data = .fields vs) (hmy : mg y = some (.ref C2)) (hk2 : PySem.W.kitOne K (.ref (ntuC K)) (.ref C2) = some b)
    (hg : Gl (cxSort P w K mg base f cdv A0 outer s H) y) (hdy : (y == ("__debug__" : Str)) = false) (he2 : starEach [.Name y q2] (cxSort P w K mg base f cdv A0 outer s H).env = (false, eval (.Name y q2) (cxSort P w K mg base f cdv A0 outer s H).env) :: starEach [] (cxSort P w K mg base f cdv A0 outer s H).env)
    (he : starEach [.Name "_law_e" q1, .Name y q2] (cxSort P w K mg base f cdv A0 outer s H).env = (false, eval (.Name "_law_e" q1) (cxSort P w K mg base f cdv A0 outer s H).env) :: starEach [.Name y q2] (cxSort P w K mg base f cdv A0 outer s H).env)
    (hpl : (backTo pos (starEach [.Name y q2] (cxSort P w K mg base f cdv A0 outer s H).env)).any (·.1) = false) :
    PE ((cxSort P w K mg base f cdv A0 outer s H).suite a [(a, oe)]) (.Call (.Name "isinstance" q) [.Name "_law_e" q1, .Name y q2] [] pos) (up ⟨K, p⟩ (Gm.at p H zt) (dRawF 0 (.ref a) (.bl b))) :=
  pd_isX0 (i := 0) (x := "_law_e") (p := p) E.nQ hz hf hk2 (pv := .ref C2) (fun _ r => r) rfl (Or.inl rfl) (pe_glob (v := .ref C2) hg hmy rfl hdy) (by rfl) (by exact E.isinstance) (by decide) (by decide) he he2 hpl
theorem is_ty0 (E : Fx K mg) {T : String} (hz : Zc (.ref (ntuC K)) none oe) (hf : ∃ vs, oe.data = .fields vs) (hmy : mg y = none) (hbt : bootBuiltins y = some (.type T)) (hk2 : PySem.W.kitOne K (.ref (ntuC K)) (.type T) = some b) (hn : y ≠ "__name__")
    (hg : Gl (cxSort P w K mg base f cdv A0 outer s H) y) (hdy : (y == ("__debug__" : Str)) = false) (he2 : starEach [.Name y q2] (cxSort P w K mg base f cdv A0 outer s H).env = (false, eval (.Name y q2) (cxSort P w K mg base f cdv A0 outer s H).env) :: starEach [] (cxSort P w K mg base f cdv A0 outer s H).env)
    (he : starEach [.Name "_law_e" q1, .Name y q2] (cxSort P w K mg base f cdv A0 outer s H).env = (false, eval (.Name "_law_e" q1) (cxSort P w K mg base f cdv A0 outer s H).env) :: starEach [.Name y q2] (cxSort P w K mg base f cdv A0 outer s H).env)
    (hpl : (backTo pos (starEach [.Name y q2] (cxSort P w K mg base f cdv A0 outer s H).env)).any (·.1) = false) :
    PE ((cxSort P w K mg base f cdv A0 outer s H).suite a [(a, oe)]) (.Call (.Name "isinstance" q) [.Name "_law_e" q1, .Name y q2] [] pos) (up ⟨K, p⟩ (Gm.at p H zt) (dRawF 0 (.ref a) (.bl b))) :=
  pd_isX0 (i := 0) (x := "_law_e") (p := p) E.nQ hz hf hk2 (pv := .ty T) (fun _ r => r) rfl (Or.inl rfl) (pe_bltn (v := .ty T) hg hmy hbt rfl hn hdy) (by rfl) (by exact E.isinstance) (by decide) (by decide) he he2 hpl
end
theorem c_sort2 (E : Fx K mg) : PinK P w K mg base 2 "_law_sort" (spSort2 K) := by
  obtain ⟨f0, hm0, kp, run⟩ := (c_sort (P := P) (w := w) (base := base) E).ex
  obtain ⟨f, fd, F, hm⟩ := E.d_sort
  have e := hm0.symm.trans hm
  cases e
  refine ⟨f0, hm0, kp, fun A0 outer s H a oe Q hr hpin e0 h => ?_⟩
  rcases h with h | ⟨p, hz, hf, hp, kk⟩
  · exact run A0 outer s H a oe Q hr hpin e0 h
  have hbind := F.bindsA (ps := ["_law_e"]) (fun _ _ _ _ _ _ us hl => match us, hl with | [_], _ => rfl) s [.ref a] rfl
  obtain ⟨oc, od, dV, kV, doc, pm, an, cdv, ct, osl, rfl, lk, hcd, hD, hK⟩ := F.ex
  refine run_pin (N := N_sort) (ps := ["_law_e"]) (vs := [.ref a]) lk hcd sc_sort hr hpin e0 hbind (.cons rfl .nil) rfl fun hr' => ?_
  have nd := sc_sort.nd
  obtain ⟨zt, R, hzt⟩ := reps_startA (N := N_sort) (as := [.raw (.ref a)]) hp (.raw .nil)
  have hu : ((cxSort P w K mg base f0 cdv A0 outer s H).suite a [(a, oe)]).A.units + 64 < cLine := by
    have h1 : A0.units + 3 + 16 * 1 + 200 < cLine := hr'.un
    show A0.units + 3 + 64 < cLine
    omega
  refine ⟨_, PSs.nox (show PSs ((cxSort P w K mg base f0 cdv A0 outer s H).suite a [(a, oe)]) (defBody (top 83)) _ from
    sd_cons (p := p) (G := Gm.at p H zt) (sd_set 1 nd (pd_l (pl_lst (ad_cons (is_ref0 E hz hf E.gWV E.n1 rfl (by decide) rfl rfl rfl) (ad_cons (is_ref0 E hz hf E.gWN E.n2 rfl (by decide) rfl rfl rfl) (ad_cons (is_ref0 E hz hf E.gNP E.n3 rfl (by decide) rfl rfl rfl) ad_nil))))))
    (sd_cons (sd_set 2 nd (pd_l (pl_lst (ad_cons (is_ty0 E hz hf E.fVE bt_VE E.n4 (by decide) rfl (by decide) rfl rfl rfl) (ad_cons (is_ty0 E hz hf E.fLE bt_LE E.n5 (by decide) rfl (by decide) rfl rfl rfl) (ad_cons (is_ty0 E hz hf E.fAE bt_AE E.n6 (by decide) rfl (by decide) rfl rfl rfl) ad_nil))))))
    (sd_cons (sd_setO 3 nd (pl_lst ad_nil))
    (sd_cons (sd_if (td_val (is_ref0 E hz hf E.gII E.n7 rfl (by decide) rfl rfl rfl)) ssd_never sd_nil)
    (sd_cons (sd_if (td_val (is_ref0 E hz hf E.gS E.n8 rfl (by decide) rfl rfl rfl)) ssd_never sd_nil)
    (sd_cons (sd_if (td_val (is_ref0 E hz hf E.gNU E.n9 rfl (by decide) rfl rfl rfl)) (sd_one (sd_app 3 (pd_l (pl_lst (ad_cons pd_str (ad_cons pd_str ad_nil)))))) sd_nil)
    (sd_one (sd_fz 3 (sd_ret (pd_if (PW.pt (wd_and (td_cmp op_eq lr_eq (pd_fn call_len lc_len (by rfl) (by exact E.len) bt_len (ad_cons (pd_var 3) ad_nil)) pd_int) (wd_and (td_cmp (op_eqD hu) lr_eqD (pd_var 1) (pd_var 2)) (wd_and1 (td_cmp op_eq lr_eq (pd_count (pd_var 1) pd_bl) pd_int)))))
      (pd_ix (pd_var 3) pd_int) (pd_l (pl_lst (ad_cons pd_str (ad_cons pd_str ad_nil)))))))))))))), ?_⟩
  refine ⟨startA N_sort [.raw (.ref a)], fun _ => 0, ⟨fun _ => False, fun d _ => d = D.lst [.str "NothingToUndo", .str ""], fun _ => False, fun _ => False⟩, 0, R, ?_, ⟨fun _ _ _ _ _ z => z.elim, fun σ' H' ss ow d v R' r' e => ?_, fun _ _ _ _ _ z => z.elim, fun _ _ _ _ _ z => z.elim⟩⟩
  · simp [startA]
    refine ⟨small_le (by decide), small_le (by decide), small_le (by decide), small_le (by decide), okE_of (pyOk_lst (k := 0) fun d hd => ?_), okE_of (pyOk_lst (k := 0) fun d hd => ?_), ?_⟩
    · simp at hd
      rcases hd with e | e <;> rw [e] <;> exact ⟨by unfold D.dat; rfl, by unfold D.py; rfl, by unfold D.py; exact Nat.zero_le _⟩
    · simp at hd
      rcases hd with e | e <;> rw [e] <;> exact ⟨by unfold D.dat; rfl, by unfold D.py; rfl, by unfold D.py; exact Nat.zero_le _⟩
    · have e : PyData.eqv (D.lst [D.bl false, D.bl false, D.bl true]).py (D.lst [D.bl false, D.bl false, D.bl true]).py = true := by rfl
      rw [e]
      refine ⟨rfl, ⟨rfl, rfl⟩, ⟨rfl, rfl⟩, fun z => absurd (by decide) z⟩
  · subst e
    exact kk v H' (reps_end R' hzt) r'
end KK
set_option maxRecDepth 100000
set_option maxHeartbeats 2000000
namespace KK
open PySem PySem.Spec PyProof.Rows L2 DL LamX
abbrev N_ans : List Str := ["_law_call_here", "_law_got", "_law_e"]
theorem sc_ans : FnScope N_ans ["_law_call_here"] (defScope (top 68)) := ⟨rfl, rfl, rfl, by decide +kernel, rfl, by decide +kernel, by decide +kernel⟩
def EchA (K : PySem.W.Frag) (p : Option Addr) (Q : VK) : XK := fun cls d H' => ∃ (dd : Addr) (k : Int), cls = .ref (stkC K) ∧ d = some dd ∧ H' dd = some (.xd [("index", .int k)]) ∧ k.natAbs.log2 < 1920 ∧ PlN ⟨K, p⟩ 0 H' ∧
  ∀ v H'', Step ⟨K, p⟩ 0 H' H'' → Rp ⟨K, p⟩ H'' (.lst [.str "Stuck", .str (toString k)]) v → Q v H''
def EchB (K : PySem.W.Frag) (p : Option Addr) (Q : VK) : XK := fun cls d H' => EchA K p Q cls d H' ∨ (cls = .ref (ntuC K) ∧ d = none ∧ PlN ⟨K, p⟩ 0 H' ∧ ∀ v H'', Step ⟨K, p⟩ 0 H' H'' → Rp ⟨K, p⟩ H'' (.lst [.str "NothingToUndo", .str ""]) v → Q v H'')
def TTans (K : PySem.W.Frag) : (XK → Hp → VK → Prop) → Hp → VK → Prop := fun tl H Q => (∀ Ex H' (Q1 Q2 : VK), (∀ v H'', Q1 v H'' → Q2 v H'') → tl Ex H' Q1 → tl Ex H' Q2) ∧ ∃ p : Option Addr, tl (EchB K p Q) H fun v H' => ∃ d, Rp ⟨K, p⟩ H' d v ∧ PlN ⟨K, p⟩ 0 H' ∧
  ∀ u H'', Step ⟨K, p⟩ 0 H' H'' → Rp ⟨K, p⟩ H'' (.lst [.str "back", d]) u → Q u H''
theorem ans_gives {X : Cx} {q : Str} {g : Addr} {cdg : Value} (E : Fx X.K X.mg) (hr : Room 4 X.A) (CS : PinK X.prog X.w X.K X.mg X.base 2 "_law_sort" (spSort2 X.K)) :
    GivesTo X N_ans "_law_answer" (defScope (top 68)) g cdg (defBody (top 68)) "_law_call_here" q (TTans X.K) := by
  intro f c' s H Q tl act hc ⟨mono, p, h⟩
  have nd := sc_ans.nd
  have hr1 : Room 3 (X.A.deeper (envOfC "_law_answer" (defScope (top 68)) s.heap.objs.size g cdg)) := hr.deeper _
  refine ⟨_, pss_cons (ps_try_tup (X := (cxOf C8.CX0 X.prog X.w X.K X.mg X.base N_ans "_law_answer" (defScope (top 68)) g cdg X.A X.stack s H C8.E0).nox) (i := 2) (c1 := .ref (clsA X.K "WrongValue")) (c2 := .ref (clsA X.K "WrongName")) (c3 := .ref (clsA X.K "NotPossible"))
      (tb := fun W D σ H1 => ∃ Ech : XK, (∀ cls d σ' H', Ech cls d H' → W cls d σ' H') ∧ σ[0]? = some (some (.ref f)) ∧ H1 c' = some (CodeO c' q) ∧ tl Ech H1 fun v H' => D.nx (σ.set 1 (some v)) H')
      (ts := fun a cls d D σ H1 => (∃ (p : Option Addr) (dd : Addr) (k : Int), cls = .ref (stkC X.K) ∧ d = some dd ∧ (σ.length = 3 → σ[2]? = some (some (.ref a))) ∧ H1 dd = some (.xd [("index", .int k)]) ∧ k.natAbs.log2 < 1920 ∧ PlN ⟨X.K, p⟩ 0 H1 ∧
        ∀ v H'', Step ⟨X.K, p⟩ 0 H1 H'' → Rp ⟨X.K, p⟩ H'' (.lst [.str "Stuck", .str (toString k)]) v → D.rt v H'') ∨
        ∃ (p : Option Addr), cls = .ref (ntuC X.K) ∧ d = none ∧ (σ.length = 3 → σ[2]? = some (some (.ref a))) ∧ PlN ⟨X.K, p⟩ 0 H1 ∧ ∀ v H'', Step ⟨X.K, p⟩ 0 H1 H'' → Rp ⟨X.K, p⟩ H'' (.lst [.str "NothingToUndo", .str ""]) v → D.rt v H'')
      rfl rfl nd rfl rfl ⟨rfl, by decide, .inl E.gWV⟩ ⟨rfl, by decide, .inl E.gWN⟩ ⟨rfl, by decide, .inl E.gNP⟩ (fun W pn xe tk _ => ?_) (fun a oe cls d pn hz hf => ?_)) (pss_one (ps_ret (pe_X (p := p) fun G => pd_l (pl_lst (ad_cons pd_str (ad_cons (pd_var 1) ad_nil)))))), ?_⟩
  · refine ⟨fun pins s' σ H' D I ⟨Ech, hW, h1, h2, h3⟩ => ?_⟩
    exact (pss_one (ps_set (i := 1) nd rfl (Or.inl rfl) (act W pn xe Ech _ _ tk hW))).run pins s' σ H' D I ⟨h1, h2, h3⟩
  · refine ⟨fun pins s' σ H' D I hh => ?_⟩
    have hr2 : L2H.RoomH 2 ((X.A.deeper (envOfC "_law_answer" (defScope (top 68)) s.heap.objs.size g cdg)).mark (some (.ref a))) := ⟨(hr1.mono (show 2 ≤ 3 by decide)).dp, (hr1.mono (show 2 ≤ 3 by decide)).un⟩
    rcases hh with ⟨p, dd, k, ec, ed, h1, h2, h3, h4, h5⟩ | ⟨p, ec, ed, h1, h4, h5⟩
    · subst ec ed
      exact (pss_one (ps_ret (pe_pin (X := (cxOf C8.CX0 X.prog X.w X.K X.mg X.base N_ans "_law_answer" (defScope (top 68)) g cdg X.A X.stack s H C8.E0).nox) (i := 2) CS hr2 rfl rfl (Or.inl rfl)))).run pins s' σ H' D I ⟨h1 I.len, .inl ⟨p, dd, k, hz, hf, h2, h3, h4, h5⟩⟩
    · subst ec ed
      exact (pss_one (ps_ret (pe_pin (X := (cxOf C8.CX0 X.prog X.w X.K X.mg X.base N_ans "_law_answer" (defScope (top 68)) g cdg X.A X.stack s H C8.E0).nox) (i := 2) CS hr2 rfl rfl (Or.inl rfl)))).run pins s' σ H' D I ⟨h1 I.len, .inr ⟨p, hz, hf, h4, h5⟩⟩
  · refine ⟨EchB X.K p Q, fun cls d σ' H' hE => ?_, rfl, hc, ?_⟩
    · rcases hE with ⟨dd, k, e1, e2, h1, h2, h3, h4⟩ | ⟨e1, e2, h3, h4⟩
      · subst e1 e2
        refine ⟨E.ex3, fun a na => .inl ⟨p, dd, k, rfl, rfl, fun hl => ?_, h1, h2, h3, h4⟩⟩
        rw [List.length_set] at hl
        rw [List.getElem?_set_self (by omega)]
      · subst e1 e2
        refine ⟨E.nx3, fun a na => .inr ⟨p, rfl, rfl, fun hl => ?_, h3, h4⟩⟩
        rw [List.length_set] at hl
        rw [List.getElem?_set_self (by omega)]
    · refine mono _ _ _ _ (fun v H' ⟨d, rd, hp, k⟩ => ?_) h
      obtain ⟨zt, R, _⟩ := reps_startA (N := N_ans) (as := [.raw (.ref f)]) hp (.raw .nil)
      have RX : RepX ⟨X.K, p⟩ H' _ _ := ⟨_, _, R⟩
      have RX1 := RX.set 1 rd
      refine ⟨_, fun y => y = .lst [.str "back", d], RX1, ?_, fun y u H'' st ry ey => ?_⟩
      · simp [startA]
        exact small_le (by decide)
      · subst ey
        exact k u H'' st ry
end KK
set_option maxRecDepth 100000
set_option maxHeartbeats 2000000
namespace KK
open PySem PySem.Spec PyProof.Rows L2 DL
/-! ### the lines of each branch -/
def isB (l : Str) : Bool := decide (cutS l none (some 7) = ("branch " : Str))
def isT (l : Str) : Bool := decide (cutS l none (some 5) = ("then " : Str))
/-- groups so far, lines to come, the groups in the end -/
def Grp : List (List Str) → List Str → List (List Str) → Prop
  | gs, [], out => gs = out
  | gs, l :: ls, out => if isB l = true then Grp (gs ++ [[l]]) ls out else ∃ g0 g z, gs = g0 ++ [g ++ [z]] ∧ isT z = false ∧ Grp (g0 ++ [g ++ [z] ++ [l]]) ls out
theorem grp_tests {g0 : List (List Str)} {ls : List Str} {out : List (List Str)} {th : Str} (hth : isB th = false) : ∀ (ts : List Str) (g : List Str) (z : Str), isT z = false → (∀ t ∈ ts, isB t = false ∧ isT t = false) → Grp (g0 ++ [g ++ [z] ++ ts ++ [th]]) ls out → Grp (g0 ++ [g ++ [z]]) (ts ++ [th] ++ ls) out
  | [], g, z, hz, _, h => by
    rw [List.append_nil] at h
    show Grp _ (th :: ls) out
    unfold Grp
    rw [if_neg (by rw [hth]; decide)]
    exact ⟨g0, g, z, rfl, hz, h⟩
  | t :: ts, g, z, hz, hts, h => by
    show Grp _ (t :: (ts ++ [th] ++ ls)) out
    unfold Grp
    rw [if_neg (by rw [(hts t (by simp)).1]; decide)]
    refine ⟨g0, g, z, rfl, hz, grp_tests hth ts (g ++ [z]) t (hts t (by simp)).2 (fun a ha => hts a (by simp [ha])) ?_⟩
    simpa using h
theorem isB_br (x : Str) : isB (("branch " : Str) ++ x) = true := decide_eq_true (pre_eq ("branch " : Str) x)
theorem isB_no {z : Str} {k : Nat} (h : (tl z).head? = some k) (hk : k ≠ 98) : isB z = false := decide_eq_false (pre_ne (n := 7) (by decide) fun e => by
  rw [h] at e
  have e2 : (tl ("branch " : Str)).head? = some 98 := by decide
  rw [e2] at e
  exact hk (Option.some.inj e))
theorem isT_no {z : Str} {a : Str} {k : Nat} {r : List Nat} (h : tl z = a.cps.toList ++ r) (ha : (tl a).take 5 ≠ tl ("then " : Str)) (hl : 5 ≤ (tl a).length) : isT z = false := decide_eq_false fun e => ha (by
  have e2 := congrArg tl e
  have e3 : tl (cutS z none (some 5)) = (tl z).take 5 := tl_to z 5
  rw [e3, h, List.take_append_of_le_length hl] at e2
  exact e2)
theorem grp_arm {gs : List (List Str)} {b : Br} {ls : List Str} {out : List (List Str)} (h : Grp (gs ++ [armL b]) ls out) : Grp gs (armL b ++ ls) out := by
  unfold armL
  rw [List.append_assoc, List.append_assoc]
  show Grp gs ((("branch " : Str) ++ b.src ++ (" " : Str) ++ b.tgt) :: (_ ++ (_ ++ ls))) out
  unfold Grp
  have e1 : isB (("branch " : Str) ++ b.src ++ (" " : Str) ++ b.tgt) = true := by
    have : ("branch " : Str) ++ b.src ++ (" " : Str) ++ b.tgt = ("branch " : Str) ++ (b.src ++ (" " : Str) ++ b.tgt) := ext_s (by simp [tl_app])
    rw [this]
    exact isB_br _
  rw [if_pos e1, ← List.append_assoc]
  refine grp_tests (g0 := gs) (g := []) (isB_no (k := 116) (hd_app (r := [104, 101, 110, 32]) (by decide)) (by decide)) _ _ ?_ (fun t ht => ?_) ?_
  · refine isT_no (a := "branch ") (r := tl b.src ++ (tl (" " : Str) ++ tl b.tgt)) (k := 0) ?_ (by decide) (by decide)
    rw [tl_app, tl_app, tl_app, List.append_assoc, List.append_assoc]
  · obtain ⟨f, _, rfl⟩ := List.mem_map.mp ht
    exact ⟨isB_no (k := 116) (hd_app (r := [101, 115, 116, 32]) (by decide)) (by decide), isT_no (a := "test ") (r := tl (words f)) (k := 0) (by rw [tl_app]) (by decide) (by decide)⟩
  · simpa [armL] using h
theorem grp_all : ∀ (bs : List Br) (gs : List (List Str)), Grp gs (bs.flatMap armL) (gs ++ bs.map armL)
  | [], gs => by rw [List.map_nil, List.append_nil]; rfl
  | b :: bs, gs => by
    rw [List.flatMap_cons]
    refine grp_arm ?_
    have := grp_all bs (gs ++ [armL b])
    simpa using this
end KK
set_option maxRecDepth 100000
set_option maxHeartbeats 2000000
namespace KK
open PySem PySem.Spec PyProof.Rows L2 DL
variable {P : Program} {w : World} {K : PySem.W.Frag} {mg : Str → Option Value} {base : Heap}
abbrev N_bp : List Str := ["lines", "found", "line"]
theorem sc_bp : FnScope N_bp ["lines"] (defScope (top 43)) := ⟨rfl, rfl, rfl, by decide +kernel, rfl, by decide +kernel, by decide +kernel⟩
/-- the addresses hold the groups -/
def GrpH (H : Hp) : List Addr → List (List Str) → Prop
  | [], gs => gs = []
  | a :: as, gs => ∃ g r, gs = g :: r ∧ H a = some (.lst (g.map V.str)) ∧ GrpH H as r
theorem GrpH.keep {H H' : Hp} : ∀ {as : List Addr} {gs : List (List Str)}, (∀ a ∈ as, ∀ xs, H a = some (.lst xs) → H' a = some (.lst xs)) → GrpH H as gs → GrpH H' as gs
  | [], _, _, h => h
  | a :: as, gs, k, ⟨g, r, e, h, t⟩ => ⟨g, r, e, k a (by simp) _ h, GrpH.keep (fun b hb => k b (by simp [hb])) t⟩
theorem GrpH.snoc {H : Hp} {a : Addr} {g : List Str} (ha : H a = some (.lst (g.map V.str))) : ∀ {as : List Addr} {gs : List (List Str)}, GrpH H as gs → GrpH H (as ++ [a]) (gs ++ [g])
  | [], _, h => by rw [show _ = [] from h]; exact ⟨g, [], rfl, ha, rfl⟩
  | b :: as, gs, ⟨g', r, e, h, t⟩ => by subst e; exact ⟨g', r ++ [g], rfl, h, GrpH.snoc ha t⟩
theorem GrpH.unsnoc {H : Hp} {g0 : List (List Str)} {g : List Str} : ∀ {as : List Addr} {gs : List (List Str)}, gs = g0 ++ [g] → GrpH H as gs → ∃ as0 a, as = as0 ++ [a] ∧ GrpH H as0 g0 ∧ H a = some (.lst (g.map V.str)) := by
  induction g0 with
  | nil =>
    intro as gs e h
    subst e
    match as, h with
    | a :: as, ⟨g', r, e, h, t⟩ =>
      cases e
      match as, t with
      | [], _ => exact ⟨[], a, rfl, rfl, h⟩
      | b :: as, ⟨_, _, e, _⟩ => cases e
  | cons x g0 ih =>
    intro as gs e h
    subst e
    match as, h with
    | a :: as, ⟨g', r, e, h, t⟩ =>
      cases e
      obtain ⟨as0, b, e1, e2, e3⟩ := ih rfl t
      subst e1
      exact ⟨a :: as0, b, rfl, ⟨_, g0, rfl, h, e2⟩, e3⟩
theorem GrpH.mem {H : Hp} : ∀ {as : List Addr} {gs : List (List Str)}, GrpH H as gs → ∀ a ∈ as, ∃ g : List Str, H a = some (.lst (g.map V.str))
  | a :: as, gs, ⟨g, r, e, h, t⟩, b, hb => by
    rcases List.mem_cons.mp hb with z | z
    · subst z; exact ⟨g, h⟩
    · exact GrpH.mem t b z
theorem GrpH.len {H : Hp} : ∀ {as : List Addr} {gs : List (List Str)}, GrpH H as gs → as.length = gs.length
  | [], gs, h => by
    cases (show gs = [] from h)
    rfl
  | a :: as, gs, ⟨g, r, e, h, t⟩ => by rw [e, List.length_cons, List.length_cons, GrpH.len t]
theorem atI_last {α : Type} (l : List α) (x : α) : atI (l ++ [x]) (-1) = some x := by
  unfold atI
  have : ixN (l ++ [x]).length (-1) = some l.length := by
    rw [List.length_append, List.length_singleton]
    unfold ixN
    simp
    omega
  rw [this]
  simp
theorem neg1 {K : PySem.W.Frag} {σ : L2.St} {H : Hp} {Q : VK} (q : Q (.int (-1)) H) : tUn (rU fun i => .int (-i)) (tC (.int 1)) σ H Q := ⟨1, rfl, q⟩
theorem rps_grp {K : PySem.W.Frag} {p : Option Addr} {H H' : Hp} : ∀ {as : List Addr} {gs : List (List Str)}, GrpH H as gs → (∀ a ∈ as, ∀ xs, H a = some (.lst xs) → ∃ o, H' a = some (.frz o (.lst xs))) → Rps ⟨K, p⟩ H' (gs.map fun g => .lst (g.map D.str)) (as.map V.ref)
  | [], gs, h, _ => by
    cases (show gs = [] from h)
    exact .nil
  | a :: as, gs, ⟨g, r, e, h, t⟩, k => by
    subst e
    refine .cons ?_ (rps_grp t fun b hb => k b (by simp [hb]))
    obtain ⟨o, ho⟩ := k a (by simp) _ h
    unfold Rp
    refine ⟨a, _, rfl, ⟨o, ho⟩, ?_⟩
    clear ho h
    induction g with
    | nil => exact .nil
    | cons z g ih => exact .cons rfl ih
theorem c_branch_parts (E : Fx K mg) : C8.Cal P w K mg base 1 "branch_parts" (spOf K S_branch_parts) [] := by
  obtain ⟨f, fd, F, hm⟩ := E.d_parts
  refine ⟨f, fd, ["lines"], [], ?_, hm, F.kp, F.bindsN (fun _ _ _ _ _ _ us hl => match us, hl with | [_], _ => rfl), .nil⟩
  refine F.ok sc_bp (fun vs H Q E ⟨p, xs, P0, _, r, ⟨bs, hx, _⟩, _⟩ => by rw [r.length, hx]; rfl) fun cdv A outer s H vs Q E' hr ⟨p, xs, P0, hp, r, ⟨bs, hx, hb5, hbr, hQ⟩, kk⟩ => ?_
  subst hx
  have nd := sc_bp.nd
  obtain ⟨vl, rfl, rl⟩ : ∃ v, vs = [v] ∧ Rp ⟨K, p⟩ H (.lst ((bs.flatMap armL).map .str)) v := by
    unfold Rps at r
    obtain ⟨x, xs, e, h1, h2⟩ := r
    unfold Rps at h2
    subst e h2
    exact ⟨x, rfl, h1⟩
  have vn : ∀ {i : Nat} {x : Str} {q : Pos}, N_bp[i]? = some x → True := fun _ => trivial
  refine ⟨_, PSs.nox (pss_cons (ps_set (i := 1) nd rfl (Or.inl rfl) (pe_lst pa_nil))
    (pss_cons (ps_for PassesOwn.never rfl (pi_list (pe_var (i := 0) rfl (Or.inl rfl))) (pg_name (i := 2) nd rfl (Or.inl rfl))
      (pss_one (ps_if (pt_cmpR op_eq (pe_slice sl_str (pe_var (i := 2) rfl (Or.inl rfl)) po_none (po_some pe_int)) pe_str (nomark _))
        (pss_one (ps_expr (pe_bm PySem.F.plainAttrs_list PySem.F.slot_list_append PySem.F.type_list_append mt_append (pe_var (i := 1) rfl (Or.inl rfl)) (pa_cons (pe_lst (pa_cons (pe_var (i := 2) rfl (Or.inl rfl)) pa_nil)) pa_nil))))
        (pss_one (ps_if (PW.pt (pw_or (pt_cmpR op_eq (pe_callB call_len (by rfl) (by exact E.len) bt_len (pa_cons (pe_var (i := 1) rfl (Or.inl rfl)) pa_nil) (by decide) (by decide)) pe_int (nomark _)) (pw_or1 (pt_cmpR op_eq (pe_slice sl_str (pe_ix ix_seq (pe_ix ix_seq (pe_var (i := 1) rfl (Or.inl rfl)) (pe_un un_neg pe_int) (fun _ _ => rfl)) (pe_un un_neg pe_int) (fun _ _ => rfl)) po_none (po_some pe_int)) pe_str (nomark _)))))
          pss_never
          (pss_one (ps_expr (pe_bm PySem.F.plainAttrs_list PySem.F.slot_list_append PySem.F.type_list_append mt_append (pe_ix ix_seq (pe_var (i := 1) rfl (Or.inl rfl)) (pe_un un_neg pe_int) (fun _ _ => rfl)) (pa_cons (pe_var (i := 2) rfl (Or.inl rfl)) pa_nil)))))))))
    (pss_fzs (pss_one (ps_ret (pe_var (i := 1) rfl (Or.inl rfl))))))), ?_⟩
  have hlen : ∀ l ∈ bs.flatMap armL, l.length ≤ 1000 := fun l hl => by
    obtain ⟨b, hb, hl⟩ := List.mem_flatMap.mp hl
    have R := hbr b hb
    rw [armL_eq] at hl
    rcases List.mem_cons.mp hl with e | hl
    · rw [e]; exact Nat.le_trans (brL_len R.s R.t) (by decide)
    · rcases List.mem_append.mp hl with hl | hl
      · obtain ⟨f, hf, rfl⟩ := List.mem_map.mp hl
        exact Nat.le_trans (tsL_len (R.ft f hf).1) (by decide)
      · rw [List.mem_singleton] at hl
        rw [hl]; exact Nat.le_trans (thL_len R) (by decide)
  have hmany : (bs.flatMap armL).length ≤ 1000 := by
    have h1 : ∀ b ∈ bs, (armL b).length ≤ 5 := fun b hb => by
      have := (hbr b hb).lt
      rw [armL_eq]
      simp
      omega
    have h2 : ∀ (bs : List Br), (∀ b ∈ bs, (armL b).length ≤ 5) → (bs.flatMap armL).length ≤ 5 * bs.length := by
      intro bs
      induction bs with
      | nil => intro _; simp
      | cons b bs ih =>
        intro h
        rw [List.flatMap_cons, List.length_append, List.length_cons]
        have := ih fun x hx => h x (by simp [hx])
        have := h b (by simp)
        omega
    have := h2 bs h1
    omega
  have hG := grp_all bs []
  rw [List.nil_append] at hG
  generalize hL : bs.flatMap armL = L at rl hlen hmany hG
  generalize hO : bs.map armL = out at hG
  have rl2 := rl
  unfold Rp at rl2
  obtain ⟨la, lxs, rfl, hla, hlr⟩ := rl2
  have hlxs : lxs = L.map V.str := by
    have : ∀ (L : List Str) (xs : List V), Rps ⟨K, p⟩ H (L.map .str) xs → xs = L.map V.str := by
      intro L
      induction L with
      | nil => intro xs h; exact h
      | cons z L ih =>
        intro xs h
        rw [List.map_cons] at h
        unfold Rps at h
        obtain ⟨x, ys, e, h1, h2⟩ := h
        rw [e, ih ys h2, show x = .str z from h1]; rfl
    exact this L lxs hlr
  subst hlxs
  have hpl : PlOk ⟨K, p⟩ H := fun q e => let ⟨z, h, _⟩ := hp q e; ⟨z, h⟩
  refine ⟨(by decide : (0 : Nat) ≤ sizeLine), fun q hq => ?_⟩
  refine ⟨.ref la, rfl, la, rfl, ⟨_, (hla.le (Le.new hq)).l⟩, ?_⟩
  let Inv (i : Nat) (σ : L2.St) (H' : Hp) : Prop := ∃ (x : Option V) (as : List Addr) (gs : List (List Str)), σ = [some (.ref la), some (.ref q), x] ∧ DL.Step ⟨K, p⟩ 0 H H' ∧ H' q = some (.lst (as.map .ref)) ∧ (∀ a ∈ as, H a = none) ∧ (q :: as).Nodup ∧ GrpH H' as gs ∧ as.length ≤ i ∧ (∀ g ∈ gs, g.length ≤ i ∧ ∀ y ∈ g, y.length ≤ 1000) ∧ Grp gs (L.drop i) out
  have hsq : ∀ i σ H', Inv i σ H' → SqL K H' la (L.map V.str) := fun i σ H' ⟨x, as, gs, _, st, _⟩ => (hla.le (st.le hpl)).l
  refine for_list (K := K) (a := la) (xs := L.map V.str) Inv ⟨_, [], [], rfl, Step.new hq, upd_same, fun a ha => (nomatch ha), by simp, rfl, Nat.le_refl _, fun g hg => (nomatch hg), by rw [List.drop_zero]; exact hG⟩ (fun i σ H' _ h => hsq i σ H' h) ?_ ?_
  · intro i x σ H' hx ⟨x0, as, gs, hσ, st, hq', hn, hd, hgr, hal, hgl, hgrp⟩
    subst hσ
    rw [List.getElem?_map] at hx
    obtain ⟨l, hl, rfl⟩ := Option.map_eq_some_iff.mp hx
    have hi : i < L.length := (List.getElem?_eq_some_iff.mp hl).1
    have hlm : l ∈ L := List.mem_of_getElem? hl
    have hll := hlen l hlm
    have hdr : L.drop i = l :: L.drop (i + 1) := by
      rw [List.drop_eq_getElem_cons hi]
      rw [(List.getElem?_eq_some_iff.mp hl).2]
    rw [hdr] at hgrp
    unfold Grp at hgrp
    have qpl : p ≠ some q := fun z => by obtain ⟨_, _, _, _, _, e, _⟩ := hpl q z; rw [hq] at e; cases e
    refine ⟨.str l, rfl, 7, rfl, l, rfl, Nat.le_trans hll (by decide), rfl, _, rfl, ?_⟩
    by_cases hb : isB l = true
    · rw [if_pos hb] at hgrp
      have e : V.str (cutS l none (some 7)) = V.str "branch " := by rw [of_decide_eq_true (show decide _ = true from hb)]
      rw [if_pos (decide_eq_true e)]
      refine ⟨_, rfl, .inl ⟨rfl, _, SqL.of hq'⟩, .str l, rfl, (by decide : (1 : Nat) ≤ sizeLine), fun a ha => ⟨q, as.map .ref, .ref a, rfl, rfl, ?_, ?_, ?_⟩⟩
      · rw [upd_ne (ne_of_none hq' ha)]; exact hq'
      · rw [List.length_map]
        exact Nat.lt_of_le_of_lt hal (Nat.lt_of_lt_of_le (Nat.lt_of_lt_of_le hi hmany) (by decide))
      · have hane : ∀ b ∈ as, b ≠ a := fun b hb z => by
          obtain ⟨g, hg⟩ := hgr.mem b hb
          rw [z, ha] at hg
          cases hg
        have hqa : q ≠ a := ne_of_none hq' ha
        have hqas : q ∉ as := (List.nodup_cons.mp hd).1
        refine ⟨_, as ++ [a], gs ++ [[l]], rfl, (st.then0 (Step.new ha)).mut hq, ?_, fun b hb => ?_, ?_, GrpH.snoc ?_ (GrpH.keep (fun b hb xs e => ?_) hgr), ?_, fun g hg => ?_, hgrp⟩
        · rw [upd_same, List.map_append]; rfl
        · rcases List.mem_append.mp hb with h | h
          · exact hn b h
          · rw [List.mem_singleton] at h
            rw [h]; exact st.free hpl ha
        · rw [← List.cons_append]
          refine List.nodup_append.mpr ⟨hd, by simp, fun b hb c hc => ?_⟩
          rw [List.mem_singleton] at hc
          subst hc
          rcases List.mem_cons.mp hb with z | z
          · rw [z]; exact hqa
          · exact hane b z
        · rw [upd_ne (Ne.symm hqa), upd_same]; rfl
        · have n1 : b ≠ q := fun z => hqas (by rw [← z]; exact hb)
          rw [upd_ne n1, upd_ne (hane b hb)]; exact e
        · rw [List.length_append]; simp; omega
        · rcases List.mem_append.mp hg with h | h
          · exact ⟨Nat.le_succ_of_le (hgl g h).1, (hgl g h).2⟩
          · rw [List.mem_singleton] at h
            rw [h]
            exact ⟨by simp, fun y hy => by rw [List.mem_singleton] at hy; rw [hy]; exact hll⟩
    · rw [if_neg hb] at hgrp
      obtain ⟨g0, g, z, egs, hT, hgrp⟩ := hgrp
      have e : ¬ V.str (cutS l none (some 7)) = V.str "branch " := fun z => hb (decide_eq_true (V.str.inj z))
      rw [if_neg (by rw [decide_eq_false e]; decide)]
      obtain ⟨as0, a, eas, hg0, hga⟩ := hgr.unsnoc egs
      subst eas egs
      have hq2 : SqL K H' q (as0.map V.ref ++ [V.ref a]) := SqL.of (by rw [hq', List.map_append]; rfl)
      have ha2 : SqL K H' a (g.map V.str ++ [V.str z]) := SqL.of (by rw [hga, List.map_append]; rfl)
      have haq : a ≠ q := fun e => (List.nodup_cons.mp hd).1 (by rw [← e]; simp)
      have hz : z.length ≤ sizeLine := Nat.le_trans ((hgl (g ++ [z]) (by simp)).2 z (by simp)) (by decide)
      refine ⟨.ref q, rfl, .ref q, _, rfl, .inl ⟨_, hq2, rfl⟩, rfl, _, rfl, ?_⟩
      have e0 : ¬ V.int ((as0.map V.ref ++ [V.ref a]).length : Int) = V.int 0 := fun z => by
        have h1 := V.int.inj z
        rw [List.length_append] at h1
        simp at h1
        omega
      dsimp only
      rw [if_neg (by rw [decide_eq_false e0]; decide)]
      refine ⟨.ref q, rfl, 1, rfl, .inl ⟨q, _, _, .ref a, rfl, rfl, hq2, atI_last _ _, 1, rfl, .inl ⟨a, _, _, .str z, rfl, rfl, ha2, atI_last _ _, 5, rfl, z, rfl, hz, rfl, _, rfl, ?_⟩⟩⟩
      have e5 : ¬ V.str (cutS z none (some 5)) = V.str "then " := fun e => by
        have := of_decide_eq_false (show decide _ = false from hT)
        exact this (V.str.inj e)
      dsimp only
      rw [if_neg (by rw [decide_eq_false e5]; decide)]
      refine ⟨.ref q, rfl, 1, rfl, .inl ⟨q, _, _, .ref a, rfl, rfl, hq2, atI_last _ _, .inl ⟨rfl, _, ha2⟩, .str l, rfl, a, _, .str l, rfl, rfl, hga, ?_, ?_⟩⟩
      · have := (hgl (g ++ [z]) (by simp)).1
        rw [List.length_map]
        exact Nat.lt_of_le_of_lt this (Nat.lt_of_lt_of_le (Nat.lt_of_lt_of_le hi hmany) (by decide))
      · have hnod := List.nodup_append.mp (List.nodup_cons.mp hd).2
        refine ⟨_, as0 ++ [a], g0 ++ [g ++ [z] ++ [l]], rfl, st.mut (hn a (by simp)), ?_, hn, hd, GrpH.snoc ?_ (GrpH.keep (fun b hb xs e => ?_) hg0), Nat.le_succ_of_le hal, fun y hy => ?_, hgrp⟩
        · rw [upd_ne (Ne.symm haq)]; exact hq'
        · rw [upd_same]; simp
        · rw [upd_ne (hnod.2.2 b hb a (by simp))]; exact e
        · rcases List.mem_append.mp hy with h | h
          · exact ⟨Nat.le_succ_of_le (hgl y (by simp [h])).1, (hgl y (by simp [h])).2⟩
          · rw [List.mem_singleton] at h
            obtain ⟨h1, h2⟩ := hgl (g ++ [z]) (by simp)
            rw [h, List.length_append]
            refine ⟨by simp at h1 ⊢; omega, fun u hu => ?_⟩
            rcases List.mem_append.mp hu with q | q
            · exact h2 u q
            · rw [List.mem_singleton] at q
              rw [q]; exact hll
  · intro σ H' ⟨x0, as, gs, hσ, st, hq', hn, hd, hgr, hal, hgl, hgrp⟩
    subst hσ
    rw [List.length_map, List.drop_length] at hgrp
    have egs : gs = out := hgrp
    subst egs
    refine ⟨q :: as, hd, fun a ha => ?_, fun H2 k1 k2 => ?_⟩
    · rcases List.mem_cons.mp ha with e | e
      · rw [e]; exact ⟨_, hq'⟩
      · obtain ⟨g, hg⟩ := hgr.mem a e
        exact ⟨_, hg⟩
    · obtain ⟨o, ho⟩ := k2 q (by simp) _ hq'
      have hnq : ∀ b o, H b = some o → b ∉ q :: as := fun b o e hb => by
        rcases List.mem_cons.mp hb with z | z
        · rw [z, hq] at e; cases e
        · rw [hn b z] at e; cases e
      refine ⟨_, rfl, kk (.lst (bs.map fun b => .lst ((armL b).map .str))) _ H2 ⟨fun b o e n => by rw [k1 b (hnq b o e)]; exact st.1 b o e n, fun r z e hr => ?_⟩ ?_ hQ⟩
      · obtain ⟨z', l1, z0, x', y', w', e', r'⟩ := st.2 r z e hr
        obtain ⟨_, _, _, _, e0, _⟩ := hr
        exact ⟨z', l1, z0, x', y', w', by rw [k1 r (hnq r _ e0)]; exact e', r'⟩
      · unfold Rp
        refine ⟨q, _, rfl, ⟨o, ho⟩, ?_⟩
        have := rps_grp (K := K) (p := p) hgr fun a ha => k2 a (by simp [ha])
        rw [← hO, List.map_map] at this
        exact this
end KK
set_option maxRecDepth 100000
set_option maxHeartbeats 2000000
namespace KK
open PySem PySem.Spec PyProof.Rows L2 DL
variable {P : Program} {w : World} {K : PySem.W.Frag} {mg : Str → Option Value} {base : Heap}
/-- more of the module -/
structure Fy (K : PySem.W.Frag) : Prop where
  rd : ∃ mc pa g fd, FunD K "read" "Program.read" (defArgs (meth 38 2)) (defBody (meth 38 2)) (defScope (meth 38 2)) [] [] g fd ∧ ClX.CRead K (progC K) mc ∧ ClX.CMet K (progC K) mc "read" pa g
  cmp : CmpK K (ldC K)
/-! ### Program.read -/
abbrev N_read : List Str := ["cls", "text", "program"]
theorem sc_read : FnScope N_read ["cls", "text"] (defScope (meth 38 2)) := ⟨rfl, rfl, rfl, by decide +kernel, rfl, by decide +kernel, by decide +kernel⟩
theorem k_read (E : Fx K mg) (C1 : C8.Cal P w K mg base 10 "text_program" (spOf K S_text_program) []) {f : Addr} {fd : FuncData}
    (F : FunD K "read" "Program.read" (defArgs (meth 38 2)) (defBody (meth 38 2)) (defScope (meth 38 2)) [] [] f fd) : FnOk P w K mg base C8.CX0 11 f fd ["cls", "text"] (spCls K S_text_program) := by
  refine F.ok sc_read (fun vs H Q E ⟨u, us, e, p, xs, P0, _, r, ⟨pt, ex, _⟩, _⟩ => by rw [e, List.length_cons, r.length, ex]; rfl) fun cdv A outer s H vs Q E' hr ⟨u, us, e, p, xs, P0, hp, r, ⟨pt, ex, hP, hQ⟩, kk⟩ => ?_
  subst e ex
  obtain ⟨v, rfl, r1⟩ : ∃ v, us = [v] ∧ Rp ⟨K, p⟩ H (.str (Txt.join "\n" (ptL pt))) v := by
    unfold Rps at r
    obtain ⟨x, xs, e, h1, h2⟩ := r
    unfold Rps at h2
    subst e h2
    exact ⟨x, rfl, h1⟩
  have nd := sc_read.nd
  obtain ⟨zt, R, hz⟩ := reps_startA (N := N_read) (as := [.raw u, .val (.str (Txt.join "\n" (ptL pt)))]) hp (.raw (.val r1 .nil))
  refine ⟨_, PSs.nox (show PSs ((cxOf C8.CX0 P w K mg base N_read "Program.read" (defScope (meth 38 2)) f cdv A outer s H E').nox) (defBody (meth 38 2)) _ from
    sd_cons (p := p) (G := Gm.at p H zt) (sd_set 2 nd (pd_call C1 hr (ad_cons (pd_var 1) ad_nil)))
    (sd_cons (sd_if (td_cmp op_isN lr_is (pd_var 2) pd_non) ssd_never sd_nil)
    (sd_one (sd_ret (pd_var 2))))), ?_⟩
  refine ⟨startA N_read [.raw u, .val (.str (Txt.join "\n" (ptL pt)))], fun _ => 0, ⟨fun _ => False, fun d _ => d = dPg pt, fun _ => False, fun _ => False⟩, 0, R, ?_, ⟨fun _ _ _ _ _ z => z.elim, fun σ' H' ss ow d v R' r' e => ?_, fun _ _ _ _ _ z => z.elim, fun _ _ _ _ _ z => z.elim⟩⟩
  · simp [startA]
    refine ⟨pt, rfl, hP, ?_⟩
    simp [dPg, D.isNon]
  · subst e
    exact kk _ v H' (reps_end R' hz) r' hQ
/-! ### _law_built -/
def S__law_built : FS := ⟨0, fun xs P => ∃ p, xs = [.pail, dPt p] ∧ PtW p ∧ PtOk p ∧ P (dPg p)⟩
abbrev N_built : List Str := ["_law_pail", "_law_parts", "_law_way"]
theorem sc_built : FnScope N_built ["_law_pail", "_law_parts"] (defScope (top 67)) := ⟨rfl, rfl, rfl, by decide +kernel, rfl, by decide +kernel, by decide +kernel⟩
theorem c__law_built (E : Fx K mg) (Y : Fy K) (C1 : C8.Cal P w K mg base 10 "text_program" (spOf K S_text_program) []) (C2 : C8.Cal P w K mg base 1 "_law_cast" (spOf K S__law_cast) []) (C3 : C8.Cal P w K mg base 4 "_law_sheet" (spOf K S__law_sheet) [])
    (M1 : MkC P w K mg base 8 "Program" (progC K) ["names", "sayings", "branches"] S_Program) (M2 : MkK P w K mg base 8 "Program" (progC K) ["names", "sayings", "branches"] ["branches", "names", "sayings"] g_pg S_Program) :
    C8.Cal P w K mg base 12 "_law_built" (spOf K S__law_built) [] := by
  obtain ⟨f, fd, F, hm⟩ := E.d_built
  obtain ⟨mc, pa, g, gd, FR, cr, cm⟩ := Y.rd
  have hb : L2.Binds K gd ["cls", "text"] [] := FR.bindsN fun _ _ _ _ _ _ us hl => match us, hl with | [_, _], _ => rfl
  have nd := sc_built.nd
  refine cal_ok F hm sc_built (fun _ _ _ _ _ _ us hl => match us, hl with | [_, _], _ => rfl) (fun xs P ⟨p, e, _⟩ => by rw [e]; rfl) (by decide) (fun cdv A outer s H E' p G hr => (show PSs ((cxOf C8.CX0 P w K mg base N_built "_law_built" (defScope (top 67)) f cdv A outer s H E').nox) (defBody (top 67)) _ from
      sd_cons (p := p) (G := G) (sd_set 2 nd (pd_call C2 hr (ad_cons (pd_var 0) (ad_cons pd_int ad_nil))))
      (sd_cons (sd_if (td_cmp op_eq lr_eq (pd_var 2) pd_int) (sd_one (sd_ret (pd_mk M1 hr (ad_cons (pd_ix (pd_var 1) pd_int) (ad_cons (pd_ix (pd_var 1) pd_int) (ad_cons (pd_ix (pd_var 1) pd_int) ad_nil)))))) sd_nil)
      (sd_one (sd_ret (pd_if (td_cmp op_eq lr_eq (pd_var 2) pd_int) (pd_mkK M2 (fun r hl => rps_pg r hl) hr (kd_cons (pd_ix (pd_var 1) pd_int) (kd_cons (pd_ix (pd_var 1) pd_int) (kd_cons (pd_ix (pd_var 1) pd_int) kd_nil))))
        (pd_cls cr cm (raw_ok (k_read E C1 FR) hb) E.mpr hr (ad_cons (pd_call C3 hr (ad_cons (pd_var 1) ad_nil)) ad_nil)))))))) (fun xs P h => ?_)
  obtain ⟨p, rfl, hW, hO, hP⟩ := h
  simp [startS, S__law_cast]
  intro r r0 r3
  by_cases e0 : r = 0
  · simp [e0, dPt]
    exact ⟨p, rfl, hO, hP⟩
  · simp [e0]
    by_cases e1 : r = 1
    · simp [e1, dPt]
      exact ⟨p, rfl, hO, hP⟩
    · simp [e1]
      refine ⟨p, rfl, hW, ?_⟩
      exact ⟨p, rfl, hO, hP⟩
end KK
set_option maxRecDepth 100000
set_option maxHeartbeats 2000000
namespace KK
open PySem PySem.Spec PyProof.Rows L2 DL
variable {P : Program} {w : World} {K : PySem.W.Frag} {mg : Str → Option Value} {base : Heap}
theorem d__law_begun {ns : List Int} {t : Nat} (hl : ns.length ≤ 1000) (ht : t ≤ 5) :
    t__law_begun.f ⟨fun ss => ∃ (own st : Int) (x : Sl), ss = [.val (.scr ns), .val (.int t), .val (.int own), .val (.int st), x] ∧ (own = 0 ∨ own ∈ ns) ∧ 0 ≤ st ∧ st < 2147483629, fun _ _ => False, fun _ => False, fun _ => False⟩ (startS N__law_begun [.scr ns, .int t]) := by
  have loop : ∀ own : Int, (own = 0 ∨ own ∈ ns) → forD (dgName 4) (dSet 3 (dOp fMod (dFn (f1 fInt) (dCons (dOp fAdd (dOp fAdd (dOp fMul (dVar 3) (dC (.int 30269))) (dOp fMul (dVar 4) (dC (.int 7)))) (dC (.int 13))) dNil)) (dC (.int 2147483629)))) ((DL.cutD ns none (some 6)).map .int)
      ⟨dNext.f ⟨fun ss => ∃ (own st : Int), (∃ x : Sl, ss = [.val (.scr ns), .val (.int t), .val (.int own), .val (.int st), x]) ∧ (own = 0 ∨ own ∈ ns) ∧ 0 ≤ st ∧ st < 2147483629, fun _ _ => False, fun _ => False, fun _ => False⟩, fun _ _ => False, fun _ => False, fun _ => False⟩
      [.val (.scr ns), .val (.int t), .val (.int own), .val (.int (60013 + 7727 * t)), .no] := fun own ho => by
    refine for_inv (fun i s => ∃ (st : Int) (x : Sl), s = [.val (.scr ns), .val (.int t), .val (.int own), .val (.int st), x] ∧ 0 ≤ st ∧ st < 2147483629) _ 0 _ ⟨_, _, rfl, by omega, by omega⟩ (fun i d hd s hs N hN => ?_) fun s hs => ?_
    · obtain ⟨st, x, rfl, h0, h1⟩ := hs
      rw [List.getElem?_map] at hd
      obtain ⟨k, _, rfl⟩ := Option.map_eq_some_iff.mp hd
      simp
      refine ⟨mul_ok (by omega), (show CMul k 7 from .inr (by decide)).ok, hN _ ⟨_, _, rfl, Int.emod_nonneg _ (by decide), Int.emod_lt_of_pos _ (by decide)⟩⟩
    · obtain ⟨st, x, rfl, h0, h1⟩ := hs
      exact ⟨own, st, ⟨x, rfl⟩, ho, h0, h1⟩
  have hcut : small (DL.cutD ns none (some 6)).length := small_le (by
    have : (DL.cutD ns none (some 6)).length ≤ ns.length := by
      unfold DL.cutD
      rw [List.length_take, List.length_drop]
      omega
    omega)
  simp [t__law_begun, startS]
  by_cases h : t < ns.length
  · rw [if_pos h]
    refine ⟨ns[t], ?_, mul_ok (by decide), hcut, loop _ (.inr (by simp))⟩
    unfold atI
    rw [show ixN ns.length (t : Int) = some t by unfold ixN; simp; omega]
    simp [h]
  · rw [if_neg h]
    exact ⟨mul_ok (by decide), hcut, loop 0 (.inl rfl)⟩
def spBegun (K : PySem.W.Frag) : Sp := fun vs H Q _ => ∃ (p : Option Addr) (ns : List Int) (t : Nat) (v : V), vs = [v, .int t] ∧ PlN ⟨K, p⟩ 0 H ∧ Rp ⟨K, p⟩ H (.scr ns) v ∧ ns.length ≤ 1000 ∧ t ≤ 5 ∧ (∀ z ∈ ns, Builtin.Int.intBits z ≤ 1048576) ∧
  ∀ q H' (x y : Int), DL.Step ⟨K, p⟩ 0 H H' → H q = none → H' q = some (.lst [.int x, .int y, .int 0]) → 0 ≤ x → 0 ≤ y → y < 2147483648 → Q (.ref q) H'
theorem c__law_begun (E : Fx K mg) : C8.Cal P w K mg base 1 "_law_begun" (spBegun K) [] := by
  obtain ⟨f, fd, F, hm⟩ := E.d_begun
  refine ⟨f, fd, ["_law_script", "_law_turn_here"], [], ?_, hm, F.kp, F.bindsN (fun _ _ _ _ _ _ us hl => match us, hl with | [_, _], _ => rfl), .nil⟩
  refine F.ok sc__law_begun (fun vs H Q E ⟨p, ns, t, v, e, _⟩ => by rw [e]; rfl) fun cdv A outer s H vs Q E' hr ⟨p, ns, t, v, e, hp, r, hl, ht, hb, kk⟩ => ?_
  subst e
  obtain ⟨zt, R, hz⟩ := reps_startA (N := N__law_begun) (as := [.val (.scr ns), .val (.int t)]) hp (.val r (.val rfl .nil))
  refine ⟨_, PSs.nox (b__law_begun (p := p) (G := Gm.at p H zt) E f cdv A outer s H E' hr (pss_one (ps_ret (pl_lst (p := p) (G := Gm.at p H zt) (ad_cons (pd_if (PW.pt (wd_or (td_cmp op_lt lr_lt (pd_var 2) pd_int) (wd_or1 (td_cmp op_ge lr_ge (pd_var 2) (pd_pow pd_int pd_int))))) (pd_fn call_abs lc_abs (by rfl) (by exact E.abs) bt_abs (ad_cons (pd_var 2) ad_nil)) pd_int)
    (ad_cons (pd_mod (pd_ty call_int1 lc_int (by rfl) (by exact E.int) bt_int (ad_cons (pd_add (pd_add (pd_mul (pd_var 3) pd_int) (pd_mul (pd_var 2) (pd_var 2))) (pd_mul pd_int (pd_var 1))) ad_nil)) pd_int) (ad_cons pd_int ad_nil))))))), ?_⟩
  have hpl : PlOk ⟨K, p⟩ H := fun q e => let ⟨z, h, _⟩ := hp q e; ⟨z, h⟩
  refine upT_run R _ (d__law_begun hl ht) fun σ' H' ss' ow' R' ⟨own, st, x, hss, ho, h0, h1⟩ => ?_
  subst hss
  have hob : Builtin.Int.intBits own ≤ 1048576 := by
    rcases ho with e | e
    · rw [e]; decide
    · exact hb own e
  have st1 := reps_end R' hz
  refine ⟨_, ow', fun ds => ∃ a b : Int, ds = [.int a, .int b, .int 0] ∧ 0 ≤ a ∧ 0 ≤ b ∧ b < 2147483648, R', ?_, fun ds q xs H2 s2 hq h2 r2 ⟨a, b, e, ha, hb0, hb1⟩ => ?_⟩
  · have hm : ∀ (P : Int → Prop), (∀ b, 0 ≤ b → b < 2147483648 → P b) → P ((st * 53 + own * own + 17 * t) % 2147483629) := fun P h => h _ (Int.emod_nonneg _ (by decide)) (by have := Int.emod_lt_of_pos (st * 53 + own * own + 17 * t) (show (0 : Int) < 2147483629 by decide); omega)
    simp
    have m1 : IntMulOk st 53 := mul_ok (by omega)
    have m2 : IntMulOk own own := IntMulOk.of_le hob hob (by decide)
    have m3 : IntMulOk 17 (t : Int) := mul_ok (by decide)
    have hmm := hm (fun b => 0 ≤ b ∧ b < 2147483648) fun b a c => ⟨a, c⟩
    by_cases hn : own < 0
    · rw [if_pos hn]
      exact ⟨m1, m2, m3, small_le (by decide), _, _, ⟨rfl, rfl⟩, by rw [if_pos hn]; omega, hmm.1, hmm.2⟩
    · rw [if_neg hn]
      refine ⟨⟨by decide, by decide, by decide⟩, ?_⟩
      by_cases hg : 1000000000000000000 ≤ own
      · rw [if_pos hg]
        exact ⟨m1, m2, m3, small_le (by decide), _, _, ⟨rfl, rfl⟩, by rw [if_neg hn]; omega, hmm.1, hmm.2⟩
      · rw [if_neg hg]
        exact ⟨m1, m2, m3, small_le (by decide), _, _, ⟨rfl, rfl⟩, by decide, hmm.1, hmm.2⟩
  · subst e
    obtain ⟨x1, x2, x3, rfl, q1, q2, q3⟩ := rps3 r2
    cases (show x1 = _ from q1)
    cases (show x2 = _ from q2)
    cases (show x3 = _ from q3)
    exact kk q H2 a b (st1.then0 s2) (st1.free hpl hq) h2 ha hb0 hb1
end KK
set_option maxRecDepth 100000
set_option maxHeartbeats 2000000
namespace KK
open PySem PySem.Spec PyProof.Rows L2 DL
variable {P : Program} {w : World} {K : PySem.W.Frag} {mg : Str → Option Value} {base : Heap}
theorem c__law_shows (E : Fx K mg) (C1 : EqC P w K mg base 4 S_Program____eq__) (C2 : C8.Cal P w K mg base 2 "_law_lets" (spOf K S__law_lets) []) (C3 : C8.Cal P w K mg base 1 "_law_again" (spOf K S__law_again) []) (L1 : PrpL P w K mg base 1 "place" S_Lead__place) (L2 : PrpL P w K mg base 1 "point" S_Lead__point) (L3 : PrpL P w K mg base 1 "taken" S_Lead__taken)
    (L4 : PrpL P w K mg base 4 "ready" S_Lead__ready) (L5 : PrpL P w K mg base 1 "again" S_Lead__again) (L6 : PrpL P w K mg base 1 "program" S_Lead__program) (L7 : Spc P w K mg base 1 (ldC K) "__len__" (spOf K S_Lead____len__)) (L8 : Spc P w K mg base 1 (ldC K) "__bool__" (spOf K S_Lead____bool__)) : CalG P w K mg base 6 "_law_shows" (spOf K S__law_shows) := by
  obtain ⟨f, fd, F, hm⟩ := E.f__law_shows
  exact cal_okG F hm sc__law_shows (fun _ _ _ _ _ _ us hl => match us, hl with | [_, _, _, _, _], _ => rfl) (fun xs P ⟨_, _, _, _, _, e, _⟩ => by rw [e]; rfl) (by decide) (b__law_shows E C1 C2 C3 L1 L2 L3 L4 L5 L6 L7 L8) d__law_shows
def g_ld {α : Type} : List α → List α
  | [b, n, s] => [s, n, b]
  | l => l
theorem vals_ld {zs : List V} {ws : List Value} (r : Vals zs ws) : Vals (g_ld zs) (g_ld ws) := by
  rcases r with _ | ⟨a, _ | ⟨b, _ | ⟨d, _ | ⟨e, r⟩⟩⟩⟩
  · exact .nil
  · exact .cons a .nil
  · exact .cons a (.cons b .nil)
  · exact .cons d (.cons b (.cons a .nil))
  · exact .cons a (.cons b (.cons d (.cons e r)))
theorem rps_ld {c : Cf} {H : Hp} {xs : List D} {vs : List V} (r : Rps c H xs vs) (hl : xs.length = 3) : Rps c H (g_ld xs) (g_ld vs) := by
  match xs, hl with
  | [a, b, d], _ =>
    obtain ⟨u, v, x, rfl, r1, r2, r3⟩ := rps3 r
    exact .cons r3 (.cons r2 (.one r1))
theorem c_Lead (E : Fx K mg) (C1 : C8.Cal P w K mg base 4 "check_place" (spOf K S_check_place) []) (C2 : C8.Cal P w K mg base 3 "check_point" (spOf K S_check_point) []) (C3 : C8.Cal P w K mg base 1 "check_program" (spOf K S_check_program) []) (C4 : MkC P w K mg base 1 "Stage" (stgC K) ["state", "road", "ahead"] S_Stage) :
    MkC P w K mg base 5 "Lead" (ldC K) ["program", "place", "point"] S_Lead ∧ MkK P w K mg base 5 "Lead" (ldC K) ["program", "place", "point"] ["point", "place", "program"] g_ld S_Lead := by
  obtain ⟨f, fd, F, M⟩ := E.i_Lead
  have h := k_Lead (P := P) (w := w) (base := base) E C1 C2 C3 C4 F
  refine ⟨⟨f, fd, M, h, E.g_Lead, F.bindsN fun _ _ _ _ _ _ us hl => match us, hl with | [_, _, _, _], _ => rfl⟩, ⟨f, fd, M, h, E.g_Lead, ?_⟩⟩
  obtain ⟨oc, od, dV, kV, doc, pm, an, cdv, ct, osl, rfl, lk, hcd, hD, hK⟩ := F.ex
  rcases hD with ⟨_, rfl⟩ | ⟨e, _⟩
  · refine ⟨fun s us ws _ l1 l2 => ?_, fun r1 r2 => r1.append (vals_ld r2)⟩
    match us, ws, l1, l2 with
    | [u], [b, n, z], _, _ => exact .of_eq rfl
  · exact absurd rfl e
end KK
set_option maxRecDepth 100000
set_option maxHeartbeats 2000000
namespace KK
open PySem PySem.Spec PyProof.Rows L2 DL
/-! ### parts as drawn are good ones -/
theorem fms_fm {m : Nat} {f : List Int} (h : FmS m f) : FmOk m f := ⟨h.1, fun i hi => by have := h.2 i hi; omega⟩
theorem ded_sub : ∀ (xs seen : List Str) (x : Str), x ∈ dedFrom seen xs → x ∈ xs ∧ x ∉ seen
  | [], _, _, h => nomatch h
  | y :: ys, seen, x, h => by
    unfold dedFrom at h
    split at h
    · obtain ⟨h1, h2⟩ := ded_sub ys _ x h
      exact ⟨by simp [h1], fun z => h2 (by simp [z])⟩
    · rename_i hn
      rcases List.mem_cons.mp h with e | h
      · subst e; exact ⟨by simp, hn⟩
      · obtain ⟨h1, h2⟩ := ded_sub ys _ x h
        exact ⟨by simp [h1], fun z => h2 (by simp [z])⟩
theorem ded_nd : ∀ (xs seen : List Str), (dedFrom seen xs).Nodup
  | [], _ => List.nodup_nil
  | y :: ys, seen => by
    unfold dedFrom
    split
    · exact ded_nd ys _
    · refine List.nodup_cons.mpr ⟨fun h => (ded_sub ys _ y h).2 (by simp), ded_nd ys _⟩
theorem nodup_len {α : Type} [DecidableEq α] : ∀ (xs ys : List α), xs.Nodup → (∀ x ∈ xs, x ∈ ys) → xs.length ≤ ys.length
  | [], _, _, _ => Nat.zero_le _
  | x :: xs, ys, nd, h => by
    obtain ⟨n1, n2⟩ := List.nodup_cons.mp nd
    have hx := h x (by simp)
    have := nodup_len xs (ys.erase x) n2 fun z hz => (List.mem_erase_of_ne fun e => n1 (by rw [← e]; exact hz)).mpr (h z (by simp [hz]))
    rw [List.length_erase_of_mem hx] at this
    have : 0 < ys.length := List.length_pos_of_mem hx
    rw [List.length_cons]
    omega
theorem PtS.brOk {p : Pt} (h : PtS p) : ∀ b ∈ p.arms, BrOk p.names.length b := fun b hb => by
  obtain ⟨sp, h0, h3, nd, hn, hs, ha⟩ := h.sp
  have B := ha b hb
  exact ⟨hn _ B.s, hn _ B.t, Nat.le_succ_of_le B.lt, B.lc, fun f hf => fms_fm (B.ft f hf), fun f hf => fms_fm (B.fc f hf)⟩
theorem PtS.ok {p : Pt} (h : PtS p) : PtOk p := by
  obtain ⟨sp, h0, h3, nd, hn, hs, ha⟩ := h.sp
  refine ⟨fun z => by have := h.n0; rw [z] at this; simp at this, Nat.le_succ_of_le h.n2, h.nd, h.nn, Nat.le_succ_of_le h.s2, fun s hs' => ⟨hn _ (hs s hs'), fms_fm (h.ss s hs')⟩, h.a0, h.a5, h.brOk, Nat.le_trans (nodup_len _ sp (ded_nd _ _) fun x hx => ?_) h3⟩
  have hm := (ded_sub _ _ x hx).1
  rcases List.mem_append.mp hm with e | e
  · obtain ⟨s, hs', rfl⟩ := List.mem_map.mp e
    exact hs s hs'
  · obtain ⟨b, hb, e⟩ := List.mem_flatMap.mp e
    have B := ha b hb
    simp at e
    rcases e with e | e
    · rw [e]; exact B.s
    · rw [e]; exact B.t
/-! ### states that come up -/
def MG (k : Nat) : Nat := 1000000000000000000000000000000000000000 * 40 ^ k
structure StI (p : Pt) (k : Nat) (s : Sta) : Prop where
  pl : s.pl ∈ allPl p.says p.arms
  l : s.pt.length = p.names.length
  w : ∀ i ∈ s.pt, i.natAbs ≤ MG k
theorem allPl_nm {p : Pt} (h : PtS p) {z : Str} (hz : z ∈ allPl p.says p.arms) : NmOk z := by
  obtain ⟨sp, h0, h3, nd, hn, hs, ha⟩ := h.sp
  rcases List.mem_append.mp hz with e | e
  · obtain ⟨s, hs', rfl⟩ := List.mem_map.mp e
    exact hn _ (hs s hs')
  · obtain ⟨b, hb, e⟩ := List.mem_flatMap.mp e
    have B := ha b hb
    simp at e
    rcases e with e | e
    · rw [e]; exact hn _ B.s
    · rw [e]; exact hn _ B.t
theorem MG_le {j k : Nat} (h : j ≤ k) : MG j ≤ MG k := Nat.mul_le_mul_left _ (Nat.pow_le_pow_right (by decide) h)
theorem StI.mono {p : Pt} {j k : Nat} {s : Sta} (h : StI p j s) (hk : j ≤ k) : StI p k s := ⟨h.pl, h.l, fun i hi => Nat.le_trans (h.w i hi) (MG_le hk)⟩
theorem StI.r {p : Pt} {k : Nat} {s : Sta} (hp : PtS p) (h : StI p k s) (hk : k ≤ 24) : StR s := by
  refine ⟨allPl_nm hp h.pl, by rw [h.l]; exact Nat.le_succ_of_le hp.n2, fun i hi => ?_⟩
  have h1 := Nat.le_trans (h.w i hi) (MG_le hk)
  have h2 : MG 24 < 2 ^ 1920 := by decide +kernel
  by_cases z : i.natAbs = 0
  · rw [z]; decide
  · exact (Nat.log2_lt z).mpr (Nat.lt_of_le_of_lt h1 h2)
theorem StI.f {p : Pt} {k : Nat} {s : Sta} (hp : PtS p) (h : StI p k s) : PtF p s := ⟨hp.a5, by rw [h.l]; exact Nat.le_succ_of_le hp.n2, by rw [h.l]; exact hp.brOk⟩
theorem dot_le {B : Nat} : ∀ (f p : List Int), (∀ i ∈ f, -10 ≤ i ∧ i ≤ 10) → (∀ i ∈ p, i.natAbs ≤ B) → (dot f p).natAbs ≤ 10 * p.length * B
  | [], _, _, _ => by unfold dot; simp
  | _ :: _, [], _, _ => by unfold dot; simp
  | a :: f, b :: p, hf, hp => by
    unfold dot
    have h1 := dot_le f p (fun i hi => hf i (by simp [hi])) (fun i hi => hp i (by simp [hi]))
    have h2 : a.natAbs ≤ 10 := by have := hf a (by simp); omega
    have h3 := hp b (by simp)
    have h4 : (a * b).natAbs ≤ 10 * B := by rw [Int.natAbs_mul]; exact Nat.mul_le_mul h2 h3
    have h5 := Int.natAbs_add_le (a * b) (dot f p)
    have h6 : 10 * (b :: p).length * B = 10 * B + 10 * p.length * B := by
      rw [List.length_cons, Nat.mul_add, Nat.add_mul]; omega
    omega
theorem StI.next {p : Pt} {k : Nat} {s : Sta} {b : Br} (hp : PtS p) (h : StI p k s) (hb : b ∈ p.arms) : StI p (k + 1) ⟨b.tgt, mvd b s.pt⟩ := by
  obtain ⟨sp, h0, h3, nd, hn, hs, ha⟩ := hp.sp
  have B := ha b hb
  refine ⟨List.mem_append_right _ (List.mem_flatMap.mpr ⟨b, hb, by simp⟩), ?_, fun i hi => ?_⟩
  · show (mvd b s.pt).length = _
    unfold mvd
    rw [List.length_map, B.lc]
  · obtain ⟨f, hf, rfl⟩ := List.mem_map.mp hi
    have F := B.fc f hf
    have h1 := dot_le f s.pt F.2 h.w
    have h2 : (f.getLastD 0).natAbs ≤ 10 := by
      have : f.getLastD 0 ∈ f := by
        rcases List.eq_nil_or_concat f with e | ⟨g, z, e⟩
        · have := F.1
          rw [e] at this
          simp at this
        · rw [e, List.concat_eq_append]; simp
      have := F.2 _ this
      omega
    have h3 := Int.natAbs_add_le (dot f s.pt) (f.getLastD 0)
    have h4 : s.pt.length ≤ 2 := by rw [h.l]; exact hp.n2
    have h5 : 10 * s.pt.length * MG k ≤ 20 * MG k := Nat.mul_le_mul_right _ (by omega)
    have h6 : MG (k + 1) = 40 * MG k := by unfold MG; rw [Nat.pow_succ]; omega
    have h7 : 1 ≤ MG k := Nat.le_trans (by decide : 1 ≤ MG 0) (MG_le (Nat.zero_le _))
    unfold val
    omega
end KK
set_option maxRecDepth 100000
set_option maxHeartbeats 2000000
namespace KK
open PySem PySem.Spec PyProof.Rows L2 DL
variable {P : Program} {w : World} {K : PySem.W.Frag} {mg : Str → Option Value} {base : Heap}
/-! ### undo -/
def spUndo (K : PySem.W.Frag) : Sp := fun vs H Q E => ∃ (p : Option Addr) (x dx : Addr) (vp vst : V) (pt : Pt) (s : Sta) (r : List Int) (t : List (Sta × List Int)), vs = [.ref x] ∧ H x = some (.ins (ldC K) dx [("led", vp), ("stage", vst)]) ∧ Rp ⟨K, p⟩ H (dPg pt) vp ∧
  Rp ⟨K, p⟩ H (dHist ((s, r) :: t)) vst ∧ PlN ⟨K, p⟩ 0 H ∧
  (t ≠ [] → ∀ H1 v2, Step ⟨K, p⟩ 0 H H1 → Rp ⟨K, p⟩ H1 (dHist t) v2 → Q .non (upd H1 x (.ins (ldC K) dx [("led", vp), ("stage", v2)]))) ∧
  (t = [] → ∀ H1, Step ⟨K, p⟩ 0 H H1 → E (.ref (ntuC K)) none H1)
abbrev N_undo : List Str := ["self"]
theorem sc_undo : FnScope N_undo ["self"] (defScope (meth 56 8)) := ⟨rfl, rfl, rfl, by decide +kernel, rfl, by decide +kernel, by decide +kernel⟩
theorem k_undo (E : Fx K mg) {f : Addr} {fd : FuncData}
    (F : FunD K "undo" "Lead.undo" (defArgs (meth 56 8)) (defBody (meth 56 8)) (defScope (meth 56 8)) [] [] f fd) : FnOk P w K mg base (L2.CX P w) 1 f fd ["self"] (spUndo K) := by
  refine F.ok sc_undo (fun vs H Q E ⟨p, x, dx, vp, vst, pt, s, r, t, e, _⟩ => by rw [e]; rfl) fun cdv A outer s H vs Q E' hr ⟨p, x, dx, vp, vst, pt, st, r, t, e, hx, r1, r2, hp, kyes, kno⟩ => ?_
  subst e
  have nd := sc_undo.nd
  have rl : Rp ⟨K, p⟩ H (dLd x pt ((st, r) :: t)) (.ref x) := by
    unfold dLd Rp
    exact ⟨x, dx, vp, vst, rfl, rfl, hx, r1, r2⟩
  have hpl : (⟨K, p⟩ : Cf).pl ≠ some x := fun z => pail_ne hp z hx (fun _ z => nomatch z)
  obtain ⟨zt, R, hz⟩ := reps_startA (N := N_undo) (as := [.val (dLd x pt ((st, r) :: t))]) hp (.val rl .nil)
  have RX : RepX ⟨K, p⟩ H (L2.start N_undo [.ref x]) (startA N_undo [.val (dLd x pt ((st, r) :: t))]) := ⟨_, _, R⟩
  refine ⟨_, pss_cons (ps_if (pt_X (p := p) fun G => td_cmp op_isN lr_is (pd_fld (fr_ahead (c := ⟨K, p⟩) (by exact E.ld)) (pd_fld (fr_stage (c := ⟨K, p⟩) (by exact E.ld)) (pd_var 0))) pd_non)
      (pss_one (ps_raiseC rfl (takes_of rfl rfl rfl rfl) PySem.F.excBase_ArithmeticError E.nX E.nB E.nS E.nT E.gNU)) pss_nil)
    (pss_one (ps_fld (pe_var (i := 0) rfl (Or.inl rfl)) (pe_X (p := p) fun G => pd_fld (fr_ahead (c := ⟨K, p⟩) (by exact E.ld)) (pd_fld (fr_stage (c := ⟨K, p⟩) (by exact E.ld)) (pd_var 0))) rfl)), ?_⟩
  refine ⟨_, fun b => b = t.isEmpty, RX, ?_, fun b H1 s1 hb => ?_⟩
  · simp [startA, dLd, dHist]
    cases t with
    | nil => rfl
    | cons a t => rfl
  subst hb
  have R1 := RX.step s1
  have hx1 := s1.1 x _ hx hpl
  cases t with
  | nil => exact kno rfl H1 s1
  | cons a t =>
    refine ⟨_, fun d => d = dHist (a :: t), R1, ?_, fun d v2 H2 s2 r2' e2 => ?_⟩
    · simp [startA, dLd, dHist]
    subst e2
    have hx2 := s2.1 x _ hx1 hpl
    refine ⟨_, rfl, x, _, dx, _, rfl, hx2, E.ld.lc, E.ld.ls, (show 2 < 1000 by decide), ?_⟩
    rw [put6]
    exact kyes (fun z => nomatch z) H2 v2 (s1.then0 s2) r2'
end KK
set_option maxRecDepth 100000
set_option maxHeartbeats 4000000
namespace KK
open PySem PySem.Spec PyProof.Rows L2 DL
variable {P : Program} {w : World} {K : PySem.W.Frag} {mg : Str → Option Value} {base : Heap}
abbrev N_right : List Str := ["_law_pail", "_law_turn_here", "_law_parts", "_law_mine", "_law_states", "_law_road", "_law_hand", "_law_again_here", "_law_due", "_law_at"]
theorem sc_right : FnScope N_right ["_law_pail"] (defScope (top 84)) := ⟨rfl, rfl, rfl, by decide +kernel, rfl, by decide +kernel, by decide +kernel⟩
abbrev cxR (P : Program) (w : World) (K : PySem.W.Frag) (mg : Str → Option Value) (base : Heap) (f : Addr) (cdv : Value) (A : Around) (outer : List Env) (s : Shared) (H : Hp) (E : XK) : Cx := (cxOf C8.CX0 P w K mg base N_right "_law_right" (defScope (top 84)) f cdv A outer s H E).nox
def lamQ : Str := (envOfC "_law_right" (defScope (top 84)) 0 0 .none).qual ++ ("<lambda>" : Str)
/-! ### the three lambdas, by where they stand -/
def nthS (b : List Stmt) (i : Nat) : Stmt := b.getD i (.Pass ⟨0, 0, 0, 0⟩)
def bodyS : Stmt → List Stmt
  | .For _ _ b _ _ => b
  | .If _ b _ _ => b
  | _ => []
def elseS : Stmt → List Stmt
  | .If _ _ b _ => b
  | _ => []
def leftE : Stmt → Expr
  | .If (.Compare e _ _ _) _ _ _ => e
  | _ => .Constant .none 0 ⟨0, 0, 0, 0⟩
def objE : Expr → Expr
  | .Subscript e _ _ => e
  | _ => .Constant .none 0 ⟨0, 0, 0, 0⟩
def turnS : List Stmt := bodyS (nthS (defBody (top 84)) 0)
def lamU1 : Expr := leftE (nthS (bodyS (nthS (bodyS (nthS turnS 4)) 0)) 2)
def lamT : Expr := objE (leftE (nthS (elseS (nthS (bodyS (nthS turnS 4)) 0)) 1))
def lamU2 : Expr := leftE (nthS turnS 6)
def tLu (K : PySem.W.Frag) : XK → TE := fun E => tMeth (ldC K) "undo" (spUndo K) [] E (tVar 6) tNil
def tLt (K : PySem.W.Frag) : XK → TE := fun E => tMeth (ldC K) "take" (spTake K) [] E (tVar 6) (tCons (tVar 9) tNil)
section
variable {f c Pt : Addr} {A : Around} {outer : List Env} {s : Shared} {H : Hp} {E' : XK}
theorem e_u1 (E : Fx K mg) (CS : PinK P w K mg base 2 "_law_sort" (spSort2 K)) (hr : Room 7 (A.deeper (envOfC "_law_right" (defScope (top 84)) s.heap.objs.size f (.ref c)))) (TB : LamX.TabB base mg c Pt) :
    PE (cxR P w K mg base f (.ref c) A outer s H E') lamU1 (LamX.tLam [(Pt, lamQ)] (TTans K) (tLu K)) := by
  obtain ⟨fa, fda, FA, ha⟩ := E.d_answer
  obtain ⟨ft, fdt, FT, hmt⟩ := E.d_undo
  have hb : L2.Binds K fda ["_law_call_here"] [] := FA.bindsN (fun _ _ _ _ _ _ us hl => match us, hl with | [_], _ => rfl)
  have hbt : L2.Binds K fdt ["self"] [] := FT.bindsN fun _ _ _ _ _ _ us hl => match us, hl with | [_], _ => rfl
  obtain ⟨oc, od, dV, kV, doc, pm, an, cdv, ct, osl, rfl, lk, hcd, hD, hK⟩ := FA.ex
  have F := k_undo (P := P) (w := w) (base := base) E FT
  have hLS : LamX.LamS (defScope (top 84)) { kind := .function, names := [("_law_hand", .free)], isGenerator := false, isCoroutine := false } := LamX.lamS_by (by decide +kernel)
  exact LamX.pe_lamcall (k := 5) (X := cxR P w K mg base f (.ref c) A outer s H E') (by rfl) ha FA.kp lk hcd hb sc_ans rfl (Or.inl rfl) (ans_gives E (hr.mono (by decide)) CS) TB rfl (List.mem_singleton.mpr rfl) (fun q hq _ => by rw [List.mem_singleton.mp hq]; rfl) hr hLS rfl (fun _ _ _ _ _ => rfl)
    (fun A1 outer1 s1 H1 E1 f' c' hr' => pe_meth0 (pe_var (i := 6) rfl (Or.inr (Or.inr rfl))) E.ld.lc hmt F (hr'.mono (by decide)) hbt .nil (passes_call (takes_of rfl rfl rfl rfl) fun _ _ _ _ h => h))
theorem e_u2 (E : Fx K mg) (CS : PinK P w K mg base 2 "_law_sort" (spSort2 K)) (hr : Room 7 (A.deeper (envOfC "_law_right" (defScope (top 84)) s.heap.objs.size f (.ref c)))) (TB : LamX.TabB base mg c Pt) :
    PE (cxR P w K mg base f (.ref c) A outer s H E') lamU2 (LamX.tLam [(Pt, lamQ)] (TTans K) (tLu K)) := by
  obtain ⟨fa, fda, FA, ha⟩ := E.d_answer
  obtain ⟨ft, fdt, FT, hmt⟩ := E.d_undo
  have hb : L2.Binds K fda ["_law_call_here"] [] := FA.bindsN (fun _ _ _ _ _ _ us hl => match us, hl with | [_], _ => rfl)
  have hbt : L2.Binds K fdt ["self"] [] := FT.bindsN fun _ _ _ _ _ _ us hl => match us, hl with | [_], _ => rfl
  obtain ⟨oc, od, dV, kV, doc, pm, an, cdv, ct, osl, rfl, lk, hcd, hD, hK⟩ := FA.ex
  have F := k_undo (P := P) (w := w) (base := base) E FT
  have hLS : LamX.LamS (defScope (top 84)) { kind := .function, names := [("_law_hand", .free)], isGenerator := false, isCoroutine := false } := LamX.lamS_by (by decide +kernel)
  exact LamX.pe_lamcall (k := 5) (X := cxR P w K mg base f (.ref c) A outer s H E') (by rfl) ha FA.kp lk hcd hb sc_ans rfl (Or.inl rfl) (ans_gives E (hr.mono (by decide)) CS) TB rfl (List.mem_singleton.mpr rfl) (fun q hq _ => by rw [List.mem_singleton.mp hq]; rfl) hr hLS rfl (fun _ _ _ _ _ => rfl)
    (fun A1 outer1 s1 H1 E1 f' c' hr' => pe_meth0 (pe_var (i := 6) rfl (Or.inr (Or.inr rfl))) E.ld.lc hmt F (hr'.mono (by decide)) hbt .nil (passes_call (takes_of rfl rfl rfl rfl) fun _ _ _ _ h => h))
theorem e_t (E : Fx K mg) (CT : ∀ {f : Addr} {fd : FuncData}, FunD K "take" "Lead.take" (defArgs (meth 56 7)) (defBody (meth 56 7)) (defScope (meth 56 7)) [] [] f fd → FnOk P w K mg base (L2.CX P w) 5 f fd ["self", "index"] (spTake K)) (CS : PinK P w K mg base 2 "_law_sort" (spSort2 K)) (hr : Room 7 (A.deeper (envOfC "_law_right" (defScope (top 84)) s.heap.objs.size f (.ref c)))) (TB : LamX.TabB base mg c Pt) :
    PE (cxR P w K mg base f (.ref c) A outer s H E') lamT (LamX.tLam [(Pt, lamQ)] (TTans K) (tLt K)) := by
  obtain ⟨fa, fda, FA, ha⟩ := E.d_answer
  obtain ⟨ft, fdt, FT, hmt⟩ := E.d_take
  have hb : L2.Binds K fda ["_law_call_here"] [] := FA.bindsN (fun _ _ _ _ _ _ us hl => match us, hl with | [_], _ => rfl)
  have hbt : L2.Binds K fdt ["self", "index"] [] := FT.bindsN fun _ _ _ _ _ _ us hl => match us, hl with | [_, _], _ => rfl
  obtain ⟨oc, od, dV, kV, doc, pm, an, cdv, ct, osl, rfl, lk, hcd, hD, hK⟩ := FA.ex
  have F := CT FT
  have hLS : LamX.LamS (defScope (top 84)) { kind := .function, names := [("_law_at", .free), ("_law_hand", .free)], isGenerator := false, isCoroutine := false } := LamX.lamS_by (by decide +kernel)
  exact LamX.pe_lamcall (k := 5) (X := cxR P w K mg base f (.ref c) A outer s H E') (by rfl) ha FA.kp lk hcd hb sc_ans rfl (Or.inl rfl) (ans_gives E (hr.mono (by decide)) CS) TB rfl (List.mem_singleton.mpr rfl) (fun q hq _ => by rw [List.mem_singleton.mp hq]; rfl) hr hLS rfl (fun _ _ _ _ _ => rfl)
    (fun A1 outer1 s1 H1 E1 f' c' hr' => pe_meth (pe_var (i := 6) rfl (Or.inr (Or.inr rfl))) E.ld.lc hmt F hr' hbt .nil (passes_call (takes_of rfl rfl rfl rfl) fun _ _ _ _ h => h) (pa_cons (pe_var (i := 9) rfl (Or.inr (Or.inr rfl))) pa_nil))
end
end KK
set_option maxRecDepth 100000
set_option maxHeartbeats 2000000
namespace KK
open PySem PySem.Spec PyProof.Rows L2 DL
variable {P : Program} {w : World} {K : PySem.W.Frag} {mg : Str → Option Value} {base : Heap}
theorem spTake_mono {vs : List V} {H : Hp} {Q1 Q2 : VK} {E : XK} (k : ∀ v H', Q1 v H' → Q2 v H') (h : spTake K vs H Q1 E) : spTake K vs H Q2 E := by
  obtain ⟨p, x, dx, vp, vst, pt, s, r, t, kk, b, h1, h2, h3, h4, h5, h6, h7, h8, h9, h10⟩ := h
  exact ⟨p, x, dx, vp, vst, pt, s, r, t, kk, b, h1, h2, h3, h4, h5, h6, h7, h8, fun f H1 v v2 a b c => k _ _ (h9 f H1 v v2 a b c), h10⟩
theorem spUndo_mono {vs : List V} {H : Hp} {Q1 Q2 : VK} {E : XK} (k : ∀ v H', Q1 v H' → Q2 v H') (h : spUndo K vs H Q1 E) : spUndo K vs H Q2 E := by
  obtain ⟨p, x, dx, vp, vst, pt, s, r, t, h1, h2, h3, h4, h5, h6, h7⟩ := h
  exact ⟨p, x, dx, vp, vst, pt, s, r, t, h1, h2, h3, h4, h5, fun f H1 v2 a b => k _ _ (h6 f H1 v2 a b), h7⟩
theorem tLu_mono {σ : L2.St} {H : Hp} {Ex : XK} {Q1 Q2 : VK} (k : ∀ v H', Q1 v H' → Q2 v H') (h : tLu K Ex σ H Q1) : tLu K Ex σ H Q2 := by
  obtain ⟨x, e, a, dx, fs, ex, ea, l, q⟩ := h
  exact ⟨x, e, a, dx, fs, ex, ea, l, spUndo_mono k q⟩
theorem tLt_mono {σ : L2.St} {H : Hp} {Ex : XK} {Q1 Q2 : VK} (k : ∀ v H', Q1 v H' → Q2 v H') (h : tLt K Ex σ H Q1) : tLt K Ex σ H Q2 := by
  obtain ⟨x, e, a, dx, fs, ex, ea, l, y, e2, q⟩ := h
  exact ⟨x, e, a, dx, fs, ex, ea, l, y, e2, spTake_mono k q⟩
theorem nls_v {d : D} : nlSl (.val d) = nlD d := rfl
theorem nls_o {d : List D} : nlSl (.own d) = nlDs d := rfl
theorem nls_r {v : V} : nlSl (.raw v) = true := rfl
/-- the slots in the inner loops -/
def ssR (x1 : Sl) (pt : Pt) (ds rs : D) (a x7 x8 x9 : Sl) : Sls := [.val .pail, x1, .val (dPt pt), .val (dPg pt), .val ds, .val rs, a, x7, x8, x9]
theorem rp_ldN {c : Cf} {H H' : Hp} {l : Addr} {pt : Pt} {h : List (Sta × List Int)} {v : V} (r : Rp c H (dLd l pt h) v) (e : LamX.ExtN H H') : Rp c H' (dLd l pt h) v := by
  unfold dLd Rp at r ⊢
  obtain ⟨y, dy, vp, vs, e1, e0, e2, e3, e4⟩ := r
  exact ⟨y, dy, vp, vs, e1, e0, e _ _ e2 (fun _ z => nomatch z), e3.mut (extN_lem e) _ _ (nl_Pg _), e4.mut (extN_lem e) _ _ (nl_Hist _)⟩
theorem pl_ne {p : Option Addr} {x : Addr} {Hz : Hp} {o : HO} (h : PlOk ⟨K, p⟩ Hz) (e : Hz x = some o) (n : ∀ xs, o ≠ .lst xs) : p ≠ some x := fun z => by
  obtain ⟨_, _, a1, a2, a3, e', _⟩ := h x z
  rw [e] at e'
  exact n _ (Option.some.inj e')
section
variable {Pt : Addr} {p : Option Addr} {H0 H : Hp} {σ : L2.St} {x1 x7 x8 x9 : Sl} {pt : KK.Pt} {ds rs : D} {l1 : Addr} {s : Sta} {r : List Int} {t : List (Sta × List Int)} {Q : VK}
theorem all_nl {x : V} (n1 : nlSl x1 = true) (n4 : nlD ds = true) (n5 : nlD rs = true) (n7 : nlSl x7 = true) (n8 : nlSl x8 = true) (n9 : nlSl x9 = true) : (ssR x1 pt ds rs (.raw x) x7 x8 x9).all nlSl = true := by
  simp [ssR, nls_v, nls_o, nls_r, n1, n4, n5, n7, n8, n9, nl_Pt, nl_Pg, show nlD .pail = true by unfold nlD; rfl]
/-- hand.undo() -/
theorem ev_undo0 (E : XK) (R : RepZ ⟨K, p⟩ H0 H σ (ssR x1 pt ds rs (.val (dLd l1 pt ((s, r) :: t))) x7 x8 x9)) (h01 : cutT H0 l1 = none)
    (n1 : nlSl x1 = true) (n4 : nlD ds = true) (n5 : nlD rs = true) (n7 : nlSl x7 = true) (n8 : nlSl x8 = true) (n9 : nlSl x9 = true)
    (yes : t ≠ [] → ∀ H', RepZ ⟨K, p⟩ H0 H' σ (ssR x1 pt ds rs (.val (dLd l1 pt t)) x7 x8 x9) → (∀ T, LamX.Tabs T H → LamX.Tabs T H') → Q .non H')
    (no : t = [] → ∀ H', RepZ ⟨K, p⟩ H0 H' σ (ssR x1 pt ds rs (.val (dLd l1 pt ((s, r) :: t))) x7 x8 x9) → (∀ T, LamX.Tabs T H → LamX.Tabs T H') → E (.ref (ntuC K)) none H') :
    tLu K E σ H Q := by
  obtain ⟨v6, e6, r6⟩ := R.x.val (i := 6) rfl
  have r6' := r6
  unfold dLd Rp at r6'
  obtain ⟨x, dx, vp, vst, rfl, hxl, hins, rp, rs'⟩ := r6'
  subst hxl
  have RB : RepZ ⟨K, p⟩ H0 H σ (ssR x1 pt ds rs (.raw (.ref x)) x7 x8 x9) := R.put1 e6 (.inl rfl)
  have hnl := all_nl (x := .ref x) (pt := pt) n1 n4 n5 n7 n8 n9
  have px := pl_ne RB.pail hins (fun _ z => nomatch z)
  refine ⟨_, e6, x, dx, _, rfl, hins, rfl, p, x, dx, vp, vst, pt, s, r, t, rfl, hins, rp, rs', RB.x.pln, fun ht H2 v2 s2 rv2 => ?_, fun ht H2 s2 => ?_⟩
  · have le2 := s2.le RB.pail
    have hins2 := s2.1 _ _ hins px
    have RC := RB.step s2
    have lm : LeM H2 (upd H2 x (.ins (ldC K) dx [("led", vp), ("stage", v2)])) := lem_ins hins2 (show 2 ≠ 3 by decide)
    have RE := RC.mut lm (fun b o h q n => by rw [upd_ne fun z => by subst z; rw [cutT_some h n] at h01; cases h01]; exact q) hnl
    refine yes ht _ (RE.put1 e6 (.inr ⟨_, rfl, ?_⟩)) fun T hT => tabs_k (tabs_fr hT (s2.fr RB.pail)) fun b o e n m => by rw [upd_ne fun z => by subst z; rw [hins2] at e; exact m _ _ _ (Option.some.inj e).symm]; exact e
    unfold dLd Rp
    exact ⟨x, dx, vp, v2, rfl, rfl, upd_same, (rp.le le2 _ _).mut lm _ _ (nl_Pg _), rv2.mut lm _ _ (nl_Hist _)⟩
  · exact no ht _ (R.step s2) fun T hT => tabs_fr hT (s2.fr RB.pail)
/-- answer(lambda: hand.undo()) -/
theorem ev_undo (R : RepZ ⟨K, p⟩ H0 H σ (ssR x1 pt ds rs (.val (dLd l1 pt ((s, r) :: t))) x7 x8 x9)) (hT : LamX.Tabs [(Pt, lamQ)] H) (h01 : cutT H0 l1 = none)
    (n1 : nlSl x1 = true) (n4 : nlD ds = true) (n5 : nlD rs = true) (n7 : nlSl x7 = true) (n8 : nlSl x8 = true) (n9 : nlSl x9 = true)
    (yes : t ≠ [] → ∀ v H', RepZ ⟨K, p⟩ H0 H' σ (ssR x1 pt ds rs (.val (dLd l1 pt t)) x7 x8 x9) → Rp ⟨K, p⟩ H' (.lst [.str "back", .non]) v → LamX.Tabs [(Pt, lamQ)] H' → Q v H')
    (no : t = [] → ∀ v H', RepZ ⟨K, p⟩ H0 H' σ (ssR x1 pt ds rs (.val (dLd l1 pt ((s, r) :: t))) x7 x8 x9) → Rp ⟨K, p⟩ H' (.lst [.str "NothingToUndo", .str ""]) v → LamX.Tabs [(Pt, lamQ)] H' → Q v H') :
    LamX.tLam [(Pt, lamQ)] (TTans K) (tLu K) σ H Q := by
  obtain ⟨v6, e6, r6⟩ := R.x.val (i := 6) rfl
  have hnl := all_nl (x := v6) (pt := pt) n1 n4 n5 n7 n8 n9
  have RA : RepZ ⟨K, p⟩ H0 H σ (ssR x1 pt ds rs (.raw v6) x7 x8 x9) := R.put1 e6 (.inl rfl)
  refine ⟨hT, fun H1 eN T1 => ⟨fun Ex H' Q1 Q2 k h => tLu_mono k h, p, ?_⟩⟩
  have RB : RepZ ⟨K, p⟩ H0 H1 σ (ssR x1 pt ds rs (.raw v6) x7 x8 x9) := RA.mut (extN_lem eN) (fun b o _ q n => eN b o q n) hnl
  have RC : RepZ ⟨K, p⟩ H0 H1 σ (ssR x1 pt ds rs (.val (dLd l1 pt ((s, r) :: t))) x7 x8 x9) := RB.put1 e6 (.inr ⟨_, rfl, rp_ldN r6 eN⟩)
  refine ev_undo0 _ RC h01 n1 n4 n5 n7 n8 n9 (fun ht H2 R2 k2 => ⟨.non, rfl, R2.x.pln, fun u H4 s4 ru => yes ht u H4 (R2.step s4) ru (tabs_fr (k2 _ T1) (s4.fr R2.pail))⟩) fun ht H2 R2 k2 => .inr ⟨rfl, rfl, R2.x.pln, fun u H4 s4 ru => no ht u H4 (R2.step s4) ru (tabs_fr (k2 _ T1) (s4.fr R2.pail))⟩
/-- answer(lambda: hand.take(at)) -/
theorem ev_take {k : Nat} {b : Br} (R : RepZ ⟨K, p⟩ H0 H σ (ssR x1 pt ds rs (.val (dLd l1 pt ((s, r) :: t))) x7 x8 (.val (.int k)))) (hT : LamX.Tabs [(Pt, lamQ)] H) (h01 : cutT H0 l1 = none)
    (n1 : nlSl x1 = true) (n4 : nlD ds = true) (n5 : nlD rs = true) (n7 : nlSl x7 = true) (n8 : nlSl x8 = true) (hF : PtF pt s) (hb : pt.arms[k]? = some b) (hrl : r.length ≤ 1000)
    (yes : free b s = true → ∀ v H', RepZ ⟨K, p⟩ H0 H' σ (ssR x1 pt ds rs (.val (dLd l1 pt ((⟨b.tgt, mvd b s.pt⟩, r ++ [(k : Int)]) :: (s, r) :: t))) x7 x8 (.val (.int k))) → Rp ⟨K, p⟩ H' (.lst [.str "back", dF (mvd b s.pt)]) v → LamX.Tabs [(Pt, lamQ)] H' → Q v H')
    (no : free b s = false → ∀ v H', RepZ ⟨K, p⟩ H0 H' σ (ssR x1 pt ds rs (.val (dLd l1 pt ((s, r) :: t))) x7 x8 (.val (.int k))) → Rp ⟨K, p⟩ H' (.lst [.str "Stuck", .str (toString (k : Int))]) v → LamX.Tabs [(Pt, lamQ)] H' → Q v H') :
    LamX.tLam [(Pt, lamQ)] (TTans K) (tLt K) σ H Q := by
  obtain ⟨v6, e6, r6⟩ := R.x.val (i := 6) rfl
  obtain ⟨v9, e9, r9⟩ := R.x.val (i := 9) rfl
  cases (show v9 = _ from r9)
  have hk5 : k < 5 := Nat.lt_of_lt_of_le (List.getElem?_eq_some_iff.mp hb).1 hF.1
  have r6' := r6
  unfold dLd Rp at r6'
  obtain ⟨x, dx, vp, vst, rfl, hxl, hins, rp, rs'⟩ := r6'
  subst hxl
  have RA : RepZ ⟨K, p⟩ H0 H σ (ssR x1 pt ds rs (.raw (.ref x)) x7 x8 (.val (.int k))) := R.put1 e6 (.inl rfl)
  have hnl := all_nl (x := .ref x) (pt := pt) (x9 := .val (.int (k : Int))) n1 n4 n5 n7 n8 (nl_int (k : Int))
  refine ⟨hT, fun H1 eN T1 => ⟨fun Ex H' Q1 Q2 k h => tLt_mono k h, p, ?_⟩⟩
  have RB : RepZ ⟨K, p⟩ H0 H1 σ (ssR x1 pt ds rs (.raw (.ref x)) x7 x8 (.val (.int k))) := RA.mut (extN_lem eN) (fun b o _ q n => eN b o q n) hnl
  have hins1 := eN _ _ hins (fun _ z => nomatch z)
  have rp1 := rp.mut (extN_lem eN) _ _ (nl_Pg _)
  have rs1 := rs'.mut (extN_lem eN) _ _ (nl_Hist _)
  have px := pl_ne RB.pail hins1 (fun _ z => nomatch z)
  refine ⟨_, e6, x, dx, _, rfl, hins1, rfl, _, e9, p, x, dx, vp, vst, pt, s, r, t, k, b, rfl, hins1, rp1, rs1, RB.x.pln, hF, hb, hrl, fun hf H3 v v2 s3 rv2 rv => ?_, fun hf dd H3 s3 hdd hnd => ?_⟩
  · have RD := RB.step s3
    have hins3 := s3.1 _ _ hins1 px
    have lm : LeM H3 (upd H3 x (.ins (ldC K) dx [("led", vp), ("stage", v2)])) := lem_ins hins3 (show 2 ≠ 3 by decide)
    have RE := RD.mut lm (fun b o h q n => by rw [upd_ne fun z => by subst z; rw [cutT_some h n] at h01; cases h01]; exact q) hnl
    refine ⟨dF (mvd b s.pt), rv.mut lm _ _ (nl_F _), RE.x.pln, fun u H4 s4 ru => ?_⟩
    have le4 := s4.le RE.pail
    refine yes hf u H4 ((RE.step s4).put1 e6 (.inr ⟨_, rfl, ?_⟩)) ru (tabs_fr (tabs_k (tabs_fr T1 (s3.fr RB.pail)) fun b o e n m => by rw [upd_ne fun z => by subst z; rw [hins3] at e; exact m _ _ _ (Option.some.inj e).symm]; exact e) (s4.fr RE.pail))
    unfold dLd Rp
    exact ⟨x, dx, vp, v2, rfl, rfl, s4.1 _ _ upd_same px, (((rp1.le (s3.le RB.pail) _ _).mut lm _ _ (nl_Pg _)).le le4 _ _), (rv2.mut lm _ _ (nl_Hist _)).le le4 _ _⟩
  · refine .inl ⟨dd, k, rfl, rfl, hdd, ?_, (RB.step s3).x.pln, fun u H4 s4 ru => ?_⟩
    · exact log_small (by omega)
    · have le34 := (s3.le RB.pail).trans (s4.le (RB.step s3).pail)
      refine no hf u H4 (((RB.step s3).step s4).put1 e6 (.inr ⟨_, rfl, (rp_ldN r6 eN).le le34 _ _⟩)) ru (tabs_fr T1 ((s3.fr RB.pail).trans (s4.fr (RB.step s3).pail)))
end
end KK
set_option maxRecDepth 100000
set_option maxHeartbeats 4000000
namespace KK
open PySem PySem.Spec PyProof.Rows L2 DL
variable {P : Program} {w : World} {K : PySem.W.Frag} {mg : Str → Option Value} {base : Heap}
/-! ### what is shown, step by step -/
def dNtu : D := .lst [.str "NothingToUndo", .str ""]
def dBkN : D := .lst [.str "back", .non]
theorem pyOk_non {k : Nat} : pyOk .non k := ⟨by unfold D.dat; rfl, by unfold D.py; rfl, by unfold D.py; exact Nat.zero_le _⟩
theorem ok_ntu : dNtu.okE := okE_of (pyOk_lst (k := 0) fun d hd => by
  simp at hd
  rcases hd with e | e <;> rw [e] <;> exact pyOk_str (by decide +kernel))
theorem ok_bkn : dBkN.okE := okE_of (pyOk_lst (k := 0) fun d hd => by
  simp at hd
  rcases hd with e | e
  · rw [e]; exact pyOk_str (by decide +kernel)
  · rw [e]; exact pyOk_non)
theorem nl_ntu : nlD dNtu = true := nl_lst fun d hd => by
  simp at hd
  rcases hd with e | e <;> rw [e] <;> exact nl_str _
theorem nl_bkn : nlD dBkN = true := nl_lst fun d hd => by
  simp at hd
  rcases hd with e | e <;> rw [e] <;> first | exact nl_str _ | (unfold nlD; rfl)
theorem nl_sts (l : List Sta) : nlD (.lst (l.map dSt)) = true := nl_lst fun d hd => by
  obtain ⟨a, _, rfl⟩ := List.mem_map.mp hd
  exact nl_St a
theorem nl_ints (l : List Int) : nlD (.lst (l.map .int)) = true := nl_lst fun d hd => by
  obtain ⟨a, _, rfl⟩ := List.mem_map.mp hd
  exact nl_int a
theorem ne_eval {c : Cf} {H : Hp} {x y : D} {u v : V} {Q : VK} {b : Bool} (hp : PlOk c H) (r1 : Rp c H x u) (r2 : Rp c H y v) (o1 : x.okE) (o2 : y.okE) (hb : (!PyData.eqv x.py y.py) = b) (k : ∀ H', DL.Step c 0 H H' → Q (.bl b) H') : rNeD c.K u v H Q :=
  lr_neD H x y u v (fun z => z = .bl b) Q hp r1 r2 ⟨o1, o2, by rw [hb]⟩ fun z w H' s r e => by
    subst e
    cases (show w = _ from r)
    exact k H' s
theorem ix0_eval {c : Cf} {H : Hp} {x0 : D} {xs : List D} {u : V} {Q : VK} (hp : PlOk c H) (r : Rp c H (.lst (x0 :: xs)) u) (k : ∀ w H', DL.Step c 0 H H' → Rp c H' x0 w → Q w H') : rIx c.K u (.int 0) H Q :=
  lr_ix H (.lst (x0 :: xs)) (.int 0) u (.int 0) (fun z => z = x0) Q hp r rfl ⟨x0, by unfold atI ixN; simp, rfl⟩ fun z w H' s r e => k w H' s (by rw [← e]; exact r)
theorem eqs_eval {H : Hp} {a b : Str} {Q : VK} {t : Bool} (e : decide (a = b) = t) (k : Q (.bl t) H) : rEq (.str a) (.str b) H Q := by
  refine ⟨rfl, ?_⟩
  have : decide (V.str a = V.str b) = t := by
    rw [← e]
    by_cases z : a = b <;> simp [z]
  rw [this]
  exact k
theorem takes_none {X : Cx} : Takes X (fun _ _ _ _ => False) := fun u s' ⟨a, B, sI, pins, σ, H, cls, d, e, I, nb, up, sky, na, os, ag, w⟩ => w.elim
/-- the roads, one branch longer each -/
def rdOk : List Int → List (Sta × List Int) → Prop
  | r, [] => r = []
  | r, (_, r') :: t => (∃ k : Int, 0 ≤ k ∧ k < 5 ∧ r = r' ++ [k]) ∧ rdOk r' t
theorem rdOk_len : ∀ {r : List Int} {t : List (Sta × List Int)}, rdOk r t → r.length = t.length
  | r, [], h => by unfold rdOk at h; rw [h]; rfl
  | r, (s, r') :: t, h => by
    unfold rdOk at h
    obtain ⟨⟨k, _, _, rfl⟩, h⟩ := h
    rw [List.length_append, rdOk_len h]
    rfl
theorem rdOk_k : ∀ {r : List Int} {t : List (Sta × List Int)}, rdOk r t → ∀ k ∈ r, 0 ≤ k ∧ k < 5
  | r, [], h => by unfold rdOk at h; rw [h]; exact fun _ z => nomatch z
  | r, (s, r') :: t, h => by
    unfold rdOk at h
    obtain ⟨⟨k, a, b, rfl⟩, h⟩ := h
    intro x hx
    rcases List.mem_append.mp hx with e | e
    · exact rdOk_k h x e
    · rw [List.mem_singleton] at e
      omega
structure HsI (pt : Pt) (i : Nat) (s : Sta) (r : List Int) (t : List (Sta × List Int)) : Prop where
  hs : StI pt i s
  ht : ∀ a ∈ t, StI pt i a.1
  hl : t.length ≤ i
  hr : rdOk r t
theorem HsI.rl {pt : Pt} {i : Nat} {s : Sta} {r : List Int} {t : List (Sta × List Int)} (h : HsI pt i s r t) : r.length ≤ i := by rw [rdOk_len h.hr]; exact h.hl
theorem HsI.mono {pt : Pt} {i j : Nat} {s : Sta} {r : List Int} {t : List (Sta × List Int)} (h : HsI pt i s r t) (hj : i ≤ j) : HsI pt j s r t := ⟨h.hs.mono hj, fun a ha => (h.ht a ha).mono hj, Nat.le_trans h.hl hj, h.hr⟩
theorem HsI.back {pt : Pt} {i : Nat} {s s' : Sta} {r r' : List Int} {t : List (Sta × List Int)} (h : HsI pt i s r ((s', r') :: t)) : HsI pt i s' r' t := ⟨h.ht (s', r') (by simp), fun a ha => h.ht a (by simp [ha]), Nat.le_of_succ_le h.hl, h.hr.2⟩
theorem HsI.next {pt : Pt} {i k : Nat} {s : Sta} {r : List Int} {t : List (Sta × List Int)} {b : Br} (hp : PtS pt) (h : HsI pt i s r t) (hb : pt.arms[k]? = some b) : HsI pt (i + 1) ⟨b.tgt, mvd b s.pt⟩ (r ++ [(k : Int)]) ((s, r) :: t) := by
  have hk : k < 5 := Nat.lt_of_lt_of_le (List.getElem?_eq_some_iff.mp hb).1 hp.a5
  refine ⟨h.hs.next hp (List.mem_of_getElem? hb), fun a ha => ?_, Nat.succ_le_succ h.hl, ⟨k, by omega, by omega, rfl⟩, h.hr⟩
  rcases List.mem_cons.mp ha with e | e
  · rw [e]; exact h.hs.mono (Nat.le_succ _)
  · exact (h.ht a e).mono (Nat.le_succ _)
theorem cut_last {α : Type} (xs : List α) (x : α) : DL.cutD (xs ++ [x]) none (some (-1)) = xs := by
  rw [cut_m1 _ (by simp), List.dropLast_concat]
theorem cut_last2 {α : Type} (xs : List α) (x y : α) : DL.cutD (xs ++ [x, y]) none (some (-1)) = xs ++ [x] := by
  have := cut_last (xs ++ [x]) y
  simpa using this
theorem road_ne (r : List Int) : PyData.eqv (D.lst (r.map .int)).py (D.lst []).py = decide (r = []) := by
  have := eqv_ints r []
  unfold D.py PyData.eqv
  exact this
theorem ok_road (r : List Int) : (D.lst (r.map .int)).okE := okE_of (pyOk_lst (k := 0) fun d hd => by
  obtain ⟨a, _, rfl⟩ := List.mem_map.mp hd
  exact pyOk_int)
theorem ok_nil : (D.lst []).okE := okE_of (pyOk_lst (k := 0) fun d hd => nomatch hd)
/-- the slots at a lead's state -/
def ssH (x1 : Sl) (pt : Pt) (l1 : Addr) (s : Sta) (r : List Int) (t : List (Sta × List Int)) (x7 x8 x9 : Sl) : Sls := ssR x1 pt (.lst ((s :: t.map (·.1)).reverse.map dSt)) (.lst (r.map .int)) (.val (dLd l1 pt ((s, r) :: t))) x7 x8 x9
def tSh : DS := dIfS (dNot (dTest (dCall S__law_shows (dCons (dVar 6) (dCons (dVar 3) (dCons (dVar 2) (dCons (dVar 4) (dCons (dVar 5) dNil)))))))) (dRet (dC (.bl false))) dNext
theorem d_sh {pt : Pt} {i : Nat} {s : Sta} {r : List Int} {t : List (Sta × List Int)} {l1 : Addr} {x1 x7 x8 x9 : Sl} {Q : Bool → Prop} (hp : PtS pt) (hi : i ≤ 24) (h : HsI pt i s r t) (k : Q false) :
    (dNot (dTest (dCall S__law_shows (dCons (dVar 6) (dCons (dVar 3) (dCons (dVar 2) (dCons (dVar 4) (dCons (dVar 5) dNil)))))))).f (ssH x1 pt l1 s r t x7 x8 x9) Q := by
  simp [ssH, ssR]
  refine ⟨l1, pt, s, r, t, ?_, h.hs.f hp, hp.ok, by have := h.hl; omega, by have := h.rl; omega, h.hs.r hp hi, fun a ha => (h.ht a ha).r hp hi, fun k hk => by have := rdOk_k h.hr k hk; omega, ?_⟩
  · simp
  · first | exact k | simpa using k
theorem ev_sh {p : Option Addr} {H0 H : Hp} {σ : L2.St} {x1 x7 x8 x9 : Sl} {pt : Pt} {i : Nat} {s : Sta} {r : List Int} {t : List (Sta × List Int)} {l1 : Addr} {Dn : Ends} (R : RepZ ⟨K, p⟩ H0 H σ (ssH x1 pt l1 s r t x7 x8 x9)) (hp : PtS pt) (hi : i ≤ 24) (h : HsI pt i s r t)
    (k : ∀ σ' H', RepZ ⟨K, p⟩ H0 H' σ' (ssH x1 pt l1 s r t x7 x8 x9) → Fr H H' → Dn.nx σ' H') : upZ ⟨K, p⟩ H0 tSh Dn σ H := by
  refine z_run R (fun ss => ss = ssH x1 pt l1 s r t x7 x8 x9) ?_ fun σ' H' ss' R' f e => by subst e; exact k σ' H' R' f
  refine d_sh (x1 := x1) (x7 := x7) (x8 := x8) (x9 := x9) (Q := fun c => if c = true then _ else _) hp hi h ?_
  show ssH x1 pt l1 s r t x7 x8 x9 = ssH x1 pt l1 s r t x7 x8 x9
  rfl
end KK
set_option maxRecDepth 100000
set_option maxHeartbeats 4000000
set_option pp.maxSteps 300
namespace KK
open PySem PySem.Spec PyProof.Rows L2 DL
variable {P : Program} {w : World} {K : PySem.W.Frag} {mg : Str → Option Value} {base : Heap}
def spRight (K : PySem.W.Frag) (Pt : Addr) : Sp := fun vs H Q _ => ∃ (q : Addr) (x y : Int), vs = [.ref q] ∧ H q = some (.lst [.int x, .int y, .int 0]) ∧ 0 ≤ x ∧ 0 ≤ y ∧ y < 2147483648 ∧ LamX.Tabs [(Pt, lamQ)] H ∧
  ∀ H', (∀ b o, H b = some o → (∀ ps, o ≠ .tbl ps) → b ≠ q → H' b = some o) → LamX.Tabs [(Pt, lamQ)] H' → Q (.bl true) H'
structure CsR (P : Program) (w : World) (K : PySem.W.Frag) (mg : Str → Option Value) (base : Heap) : Prop where
  cast : C8.Cal P w K mg base 1 "_law_cast" (spOf K S__law_cast) []
  small : C8.Cal P w K mg base 5 "_law_small" (spOf K S__law_small) []
  built : C8.Cal P w K mg base 12 "_law_built" (spOf K S__law_built) []
  anyOf : C8.Cal P w K mg base 2 "_law_any_of" (spOf K S__law_any_of) []
  spot : C8.Cal P w K mg base 3 "_law_spot" (spOf K S__law_spot) []
  spots : C8.Cal P w K mg base 1 "_law_spots" (spOf K S__law_spots) []
  next : C8.Cal P w K mg base 3 "_law_next" (spOf K S__law_next) []
  behind : C8.Cal P w K mg base 2 "_law_behind" (spOf K S__law_behind) []
  shows : CalG P w K mg base 6 "_law_shows" (spOf K S__law_shows)
  l1 : MkC P w K mg base 5 "Lead" (ldC K) ["program", "place", "point"] S_Lead
  take : ∀ {f : Addr} {fd : FuncData}, FunD K "take" "Lead.take" (defArgs (meth 56 7)) (defBody (meth 56 7)) (defScope (meth 56 7)) [] [] f fd → FnOk P w K mg base (L2.CX P w) 5 f fd ["self", "index"] (spTake K)
  sort : PinK P w K mg base 2 "_law_sort" (spSort2 K)
def noS (x : Sl) : Sls := [.val .pail, x, .no, .no, .no, .no, .no, .no, .no, .no]
theorem c__law_right (E : Fx K mg) (C : CsR P w K mg base) {c Pt : Addr} (TB : LamX.TabB base mg c Pt) (hcd : ∀ f (oc : Value) (od : Option Addr) (osl : Array (Option Value)) (gd : FuncData), mg "_law_right" = some (.ref f) → K.lookup f = some ⟨oc, od, .func gd, osl⟩ → gd.code = .ref c) :
    CalG P w K mg base 13 "_law_right" (spRight K Pt) := by
  obtain ⟨f, fd, F, hm⟩ := E.d_right
  refine ⟨f, fd, ["_law_pail"], fn_gen F sc_right (fun vs H Q E ⟨q, x, y, e, _⟩ => by rw [e]; rfl) (fun cdv A outer s H vs Q E' hg hr hlk ⟨q, x, y, e, hq, hx0, hy0, hy1, hT, kk⟩ => ?_), hm, F.kp, F.bindsN (fun _ _ _ _ _ _ us hl => match us, hl with | [_], _ => rfl)⟩
  obtain ⟨oc, od, osl, gd, lk, hgd⟩ := hlk
  have hcc := hcd f oc od osl gd hm lk
  rw [hgd] at hcc
  subst hcc e
  have nd := sc_right.nd
  have hgx : (cxR P w K mg base f (.ref c) A outer s H E').A.guards = some [] := hg
  obtain ⟨ft, fdt, FT, hmt⟩ := E.d_undo
  have hbt : L2.Binds K fdt ["self"] [] := FT.bindsN fun _ _ _ _ _ _ us hl => match us, hl with | [_], _ => rfl
  have FU := k_undo (P := P) (w := w) (base := base) E FT
  refine ⟨_, PSs.nox (show PSs (cxR P w K mg base f (.ref c) A outer s H E') (defBody (top 84)) _ from
    pss_cons (ps_for PassesOwn.never rfl (pi_range1 (by rfl) (by exact E.range) (pa_cons pe_int pa_nil)) (pg_name (i := 1) nd rfl (Or.inl rfl))
      (pss_cons (ps_Z (p := some q) (H0 := H) fun G => sd_set 2 nd (pd_call C.small hr (ad_cons (pd_var 0) (ad_cons pd_int ad_nil))))
      (pss_cons (ps_Z (p := some q) (H0 := H) fun G => sd_set 3 nd (pd_call C.built hr (ad_cons (pd_var 0) (ad_cons (pd_var 2) ad_nil))))
      (pss_cons (ps_Z (p := some q) (H0 := H) fun G => sd_par 4 5 rfl nd (by decide) (ad_cons (pd_l (pl_lst (ad_cons (pd_tup (ad_cons (pd_call C.anyOf hr (ad_cons (pd_var 0) (ad_cons (pd_call C.spots hr (ad_cons (pd_var 2) ad_nil)) ad_nil))) (ad_cons (pd_call C.spot hr (ad_cons (pd_var 0) (ad_cons (pd_fn call_len lc_len (by rfl) (by exact E.len) bt_len (ad_cons (pd_ix (pd_var 2) pd_int) ad_nil)) ad_nil))) ad_nil))) ad_nil))) (ad_cons (pd_l (pl_lst ad_nil)) ad_nil)))
      (pss_cons (ps_set (i := 6) nd rfl (Or.inr rfl) (pe_mkF (p := some q) C.l1 hr fun G => ad_cons (pd_var 3) (ad_cons (pd_ix (pd_ix (pd_var 4) pd_int) pd_int) (ad_cons (pd_ix (pd_ix (pd_var 4) pd_int) pd_int) ad_nil))))
      (pss_cons (ps_for PassesOwn.never rfl (pi_range1 (by rfl) (by exact E.range) (pa_cons pe_int pa_nil)) (pg_name (i := 7) nd rfl (Or.inl rfl))
        (pss_cons (ps_if (pt_X (p := some q) fun G => td_cmp op_eq lr_eq (pd_call C.cast hr (ad_cons (pd_var 0) (ad_cons pd_int ad_nil))) pd_int)
          (pss_cons (ps_Z (p := some q) (H0 := H) fun G => sd_set 8 nd (pd_if (td_cmp (op_neD hr.units) lr_neD (pd_var 5) (pd_l (pl_lst ad_nil))) (pd_l (pl_lst (ad_cons pd_str (ad_cons pd_non ad_nil)))) (pd_l (pl_lst (ad_cons pd_str (ad_cons pd_str ad_nil))))))
          (pss_cons (ps_Z (p := some q) (H0 := H) fun G => sd_asg (g := (gTup K 2 (gNames [4, 5]))) (pd_if (td_cmp (op_neD hr.units) lr_neD (pd_var 5) (pd_l (pl_lst ad_nil))) (pd_tup (ad_cons (pd_l (pl_sl (pd_var 4) od_none (od_some (pd_neg pd_int)))) (ad_cons (pd_l (pl_sl (pd_var 5) od_none (od_some (pd_neg pd_int)))) ad_nil))) (pd_tup (ad_cons (pd_var 4) (ad_cons (pd_var 5) ad_nil)))) (pg_tup rfl (pgs_cons (pg_name (i := 4) nd rfl (by first | exact Or.inl rfl | exact Or.inr rfl)) (pgs_cons (pg_name (i := 5) nd rfl (by first | exact Or.inl rfl | exact Or.inr rfl)) pgs_nil))) (g_tup [4, 5] 2 rfl))
          (pss_one (ps_if (pt_cmpR (op_neD hr.units) (e_u1 E C.sort (hr.mono (by decide)) TB) (pe_var (i := 8) rfl (Or.inl rfl)) (nomark _)) (pss_one (ps_Z (p := some q) (H0 := H) fun G => sd_ret pd_bl)) pss_nil))))
          (pss_cons (ps_Z (p := some q) (H0 := H) fun G => sd_set 9 nd (pd_call C.next hr (ad_cons (pd_var 0) (ad_cons (pd_var 2) (ad_cons (pd_ix (pd_var 4) (pd_neg pd_int)) ad_nil)))))
          (pss_one (ps_if (pt_cmpR op_eq (pe_ix ix_seq (e_t E C.take C.sort (hr.mono (by decide)) TB) pe_int (fun _ _ => rfl)) pe_str (nomark _)) (pss_one (ps_Z (p := some q) (H0 := H) fun G => sd_par 4 5 rfl nd (by decide) (ad_cons (pd_l (pl_cat (pd_var 4) (pd_l (pl_lst (ad_cons (pd_call C.behind hr (ad_cons (pd_ix (pd_ix (pd_var 2) pd_int) (pd_var 9)) (ad_cons (pd_ix (pd_var 4) (pd_neg pd_int)) ad_nil))) ad_nil))))) (ad_cons (pd_l (pl_cat (pd_var 5) (pd_l (pl_lst (ad_cons (pd_var 9) ad_nil))))) ad_nil)))) pss_nil))))
        (pss_one (ps_Z (p := some q) (H0 := H) fun G => sd_if (td_not (td_val (pd_callG C.shows hgx hr (ad_cons (pd_var 6) (ad_cons (pd_var 3) (ad_cons (pd_var 2) (ad_cons (pd_var 4) (ad_cons (pd_var 5) ad_nil)))))))) (sd_one (sd_ret pd_bl)) sd_nil))))
      (pss_cons (ps_for PassesOwn.never rfl (pi_range1 (by rfl) (by exact E.range) (pa_cons (pe_X (p := some q) fun G => pd_fn call_len lc_len (by rfl) (by exact E.len) bt_len (ad_cons (pd_var 5) ad_nil)) pa_nil)) (pg_name (i := 7) nd rfl (Or.inl rfl))
        (pss_cons (ps_Z (p := some q) (H0 := H) fun G => sd_par 4 5 rfl nd (by decide) (ad_cons (pd_l (pl_sl (pd_var 4) od_none (od_some (pd_neg pd_int)))) (ad_cons (pd_l (pl_sl (pd_var 5) od_none (od_some (pd_neg pd_int)))) ad_nil)))
        (pss_one (ps_if (PW.pt (pw_or (pt_cmpR op_notN (pe_meth0 (pe_var (i := 6) rfl (Or.inr (Or.inl rfl))) E.ld.lc hmt FU (hr.mono (by decide)) hbt .nil (passes_call (E := C8.E0) takes_none fun _ _ _ _ h => h)) pe_non (nomark _)) (pw_or1 (pt_X (p := some q) fun G => td_not (td_val (pd_callG C.shows hgx hr (ad_cons (pd_var 6) (ad_cons (pd_var 3) (ad_cons (pd_var 2) (ad_cons (pd_var 4) (ad_cons (pd_var 5) ad_nil))))))))))) (pss_one (ps_Z (p := some q) (H0 := H) fun G => sd_ret pd_bl)) pss_nil))))
      (pss_one (ps_if (pt_cmpR (op_neD hr.units) (e_u2 E C.sort (hr.mono (by decide)) TB) (pe_X (p := some q) fun G => pd_l (pl_lst (ad_cons pd_str (ad_cons pd_str ad_nil)))) (nomark _)) (pss_one (ps_Z (p := some q) (H0 := H) fun G => sd_ret pd_bl)) pss_nil)))))))))
    (pss_one (ps_Z (p := some q) (H0 := H) fun G => sd_ret pd_bl))), ?_⟩
  have hp0 : PlN ⟨K, some q⟩ 0 H := fun q' e => by
    cases e
    exact ⟨0, ⟨rfl, x, y, 0, hq, hx0, hy0, hy1⟩, Nat.zero_le _⟩
  have R0 := repZ_start (N := N_right) (as := [.val .pail]) hp0 (.val (show Rp ⟨K, some q⟩ H .pail (.ref q) by unfold Rp; exact ⟨q, rfl, rfl⟩) .nil)
  refine ⟨2, rfl, by decide, by decide, for_range (lo := 0) (n := 2) (fun i σ' H' => RepZ ⟨K, some q⟩ H H' σ' (.val .pail :: List.replicate 9 .no) ∧ LamX.Tabs [(Pt, lamQ)] H') ⟨R0, hT⟩ (fun i σ1 H1 hi ⟨R1, T1⟩ => ?_) (fun σ1 H1 ⟨R1, T1⟩ => ?_)⟩
  · have R2 : RepZ ⟨K, some q⟩ H H1 (σ1.set 1 (some (.int (0 + (i : Int))))) (noS (.val (.int (0 + (i : Int))))) := R1.set 1 (d := .int (0 + (i : Int))) rfl
    generalize hi0 : (0 + (i : Int)) = i0 at R2
    show _
    refine z_run R2 (fun ss => ∃ pt, PtS pt ∧ ss = [.val .pail, .val (.int i0), .val (dPt pt), .no, .no, .no, .no, .no, .no, .no]) ?_ fun σ3 H3 ss3 R3 f3 ⟨pt, hpt, e3⟩ => ?_
    · simp [S__law_small, noS]
      exact ⟨5, rfl, by decide, by decide, fun pt hpt => ⟨pt, hpt, rfl⟩⟩
    subst e3
    have T3 := tabs_fr T1 f3
    have hok := hpt.ok
    refine z_run R3 (fun ss => ss = [.val .pail, .val (.int i0), .val (dPt pt), .val (dPg pt), .no, .no, .no, .no, .no, .no]) ?_ fun σ4 H4 ss4 R4 f4 e4 => ?_
    · simp
      exact ⟨pt, rfl, hok.w, hok, rfl⟩
    subst e4
    have T4 := tabs_fr T3 f4
    refine z_run R4 (fun ss => ∃ (z0 : Str) (z : List Int), z0 ∈ allPl pt.says pt.arms ∧ z.length = pt.names.length ∧ (∀ i ∈ z, i.natAbs ≤ MG 0) ∧ ss = [.val .pail, .val (.int i0), .val (dPt pt), .val (dPg pt), .val (.lst [dSt ⟨z0, z⟩]), .val (.lst []), .no, .no, .no, .no]) ?_ fun σ5 H5 ss5 R5 f5 ⟨z0, z, hz0, hzl, hzw, e5⟩ => ?_
    · simp
      refine ⟨pt, rfl, hok.s3, hok.a5, fun zs hzs hz => ?_⟩
      have hne : zs ≠ [] := fun e => by
        obtain ⟨b, hb⟩ := List.exists_mem_of_ne_nil _ hok.a0
        have := (hz b.src).mpr (List.mem_append_right _ (List.mem_flatMap.mpr ⟨b, hb, by simp⟩))
        rw [e] at this
        exact nomatch this
      refine ⟨_, zs.map .str, rfl, .inr rfl, by simpa using hne, by rw [List.length_map]; omega, fun d hd => ?_⟩
      obtain ⟨z0, h0, rfl⟩ := List.mem_map.mp hd
      simp [dPt, dNm]
      exact ⟨pt.names.length, rfl, hok.n3, fun z1 hz1 hw1 => ⟨small_le (by decide), small_le (by decide), small_le (by decide), z0, (hz z0).mp h0, z1, hz1, fun i hi => by
        have := hw1 i hi
        have hM : MG 0 = 1000000000000000000000000000000000000000 := by decide
        rw [hM]
        omega, rfl⟩⟩
    subst e5
    have T5 := tabs_fr T4 f5
    have SI0 : StI pt 0 ⟨z0, z⟩ := ⟨hz0, hzl, hzw⟩
    refine ⟨_, fun d => ∃ l, d = dLd l pt [(⟨z0, z⟩, [])], R5.x, ?_, fun l1 d1 H7 hl1 s7 r7 ⟨l1', e7⟩ => ?_⟩
    · simp [dSt]
      exact ⟨pt, ⟨z0, z⟩, rfl, hok.s3, hok.a5, hz0, hzl, by rw [hzl]; exact hok.n3, fun l => ⟨l, rfl⟩⟩
    subst e7
    have ll : l1' = l1 := by
      unfold dLd Rp at r7
      obtain ⟨_, _, _, _, e1, e2, _⟩ := r7
      cases e1
      exact e2.symm
    subst ll
    have h01 := R5.new hl1
    have R6 : RepZ ⟨K, some q⟩ H H7 _ (ssH (.val (.int i0)) pt l1' ⟨z0, z⟩ [] [] .no .no .no) := (R5.step s7).set 6 r7
    have T6 := tabs_fr T5 (s7.fr R5.pail)
    refine ⟨24, rfl, by decide, by decide, for_range (lo := 0) (n := 24) (fun j σ' H' => ∃ (s : Sta) (r : List Int) (t : List (Sta × List Int)) (x7 x8 x9 : Sl), RepZ ⟨K, some q⟩ H H' σ' (ssH (.val (.int i0)) pt l1' s r t x7 x8 x9) ∧
      LamX.Tabs [(Pt, lamQ)] H' ∧ HsI pt j s r t ∧ nlSl x7 = true ∧ nlSl x8 = true ∧ nlSl x9 = true) ⟨⟨z0, z⟩, [], [], .no, .no, .no, R6, T6, ⟨SI0, (fun _ h => nomatch h), Nat.le_refl _, rfl⟩, rfl, rfl, rfl⟩ (fun j σ11 H11 hj ⟨s, r, t, x7, x8, x9, R11, T11, h11, n7, n8, n9⟩ => ?_) (fun σ11 H11 ⟨s, r, t, x7, x8, x9, R11, T11, h11, n7, n8, n9⟩ => ?_)⟩
    · have R12 : RepZ ⟨K, some q⟩ H H11 _ (ssH (.val (.int i0)) pt l1' s r t (.val (.int (0 + (j : Int)))) x8 x9) := R11.set 7 (d := .int (0 + (j : Int))) (v := .int (0 + (j : Int))) rfl
      generalize hj0 : (0 + (j : Int)) = j0 at R12
      refine ⟨_, fun _ => True, R12.x, ?_, fun bb H12 s12 _ => ?_⟩
      · simp [ssH, ssR]
        exact ⟨4, rfl, by decide, by decide, fun r0 _ _ => by simp⟩
      have R13 := R12.step s12
      have T13 := tabs_fr T11 (s12.fr R12.pail)
      cases bb with
      | true =>
        cases t with
        | nil =>
          have hr0 : r = [] := h11.hr
          subst hr0
          refine z_run R13 (fun ss => ss = ssH (.val (.int i0)) pt l1' s [] [] (.val (.int j0)) (.val dNtu) x9) ?_ fun σ14 H14 ss14 R14 f14 e14 => ?_
          · simp [ssH, ssR]
            refine ⟨small_le (by decide), ok_nil, ok_nil, ?_⟩
            simp [show PyData.eqv (D.lst []).py (D.lst []).py = true from road_ne []]
            exact ⟨small_le (by decide), rfl⟩
          subst e14
          refine z_run R14 (fun ss => ss = ssH (.val (.int i0)) pt l1' s [] [] (.val (.int j0)) (.val dNtu) x9) ?_ fun σ15 H15 ss15 R15 f15 e15 => ?_
          · simp [ssH, ssR]
            refine ⟨small_le (by decide), ok_nil, ok_nil, ?_⟩
            simp [show PyData.eqv (D.lst []).py (D.lst []).py = true from road_ne []]
            exact small_le (by decide)
          subst e15
          refine ev_undo R15 (tabs_fr T13 (f14.trans f15)) h01 (nl_int i0) (nl_sts _) (nl_ints _) (nl_int j0) nl_ntu n9 (fun z => absurd rfl z) fun _ v H16 R16 rv T16 => ?_
          obtain ⟨w8, e8, r8⟩ := R16.x.val (i := 8) rfl
          refine ⟨w8, e8, ne_eval (b := false) R16.pail rv r8 ok_ntu ok_ntu (by rfl) fun H17 s17 => ⟨false, rfl, ?_⟩⟩
          show ite (false = true) _ _
          rw [if_neg (by decide)]
          exact ev_sh (R16.step s17) hpt (i := j + 1) (by omega) (h11.mono (Nat.le_succ _)) fun σ18 H18 R18 f18 => ⟨s, [], [], _, _, _, R18, tabs_fr (tabs_fr T16 (s17.fr R16.pail)) f18, h11.mono (Nat.le_succ _), nl_int j0, nl_ntu, n9⟩
        | cons a t =>
          obtain ⟨s', r'⟩ := a
          have hh := h11.hr
          obtain ⟨⟨k, k1, k2, hrk⟩, hr'⟩ := hh
          subst hrk
          have hB := h11.back
          refine z_run R13 (fun ss => ss = ssH (.val (.int i0)) pt l1' s (r' ++ [k]) ((s', r') :: t) (.val (.int j0)) (.val dBkN) x9) ?_ fun σ14 H14 ss14 R14 f14 e14 => ?_
          · simp only [ssH, ssR]
            simp
            refine ⟨small_le (by decide), ?_, ok_nil, ?_⟩
            · have := ok_road (r' ++ [k]); simpa using this
            have := road_ne (r' ++ [k])
            simp at this
            simp [this]
            exact ⟨small_le (by decide), rfl⟩
          subst e14
          refine z_run R14 (fun ss => ss = ssR (.val (.int i0)) pt (.lst ((s' :: t.map (·.1)).reverse.map dSt)) (.lst (r'.map .int)) (.val (dLd l1' pt ((s, r' ++ [k]) :: (s', r') :: t))) (.val (.int j0)) (.val dBkN) x9) ?_ fun σ15 H15 ss15 R15 f15 e15 => ?_
          · simp only [ssH, ssR]
            simp
            refine ⟨small_le (by decide), ?_, ok_nil, ?_⟩
            · have := ok_road (r' ++ [k]); simpa using this
            have := road_ne (r' ++ [k])
            simp at this
            simp [this]
            exact ⟨small_le (by decide), cut_last2 _ _ _, cut_last _ _⟩
          subst e15
          refine ev_undo R15 (tabs_fr T13 (f14.trans f15)) h01 (nl_int i0) (nl_sts _) (nl_ints _) (nl_int j0) nl_bkn n9 (fun _ v H16 R16 rv T16 => ?_) (fun z => nomatch z)
          obtain ⟨w8, e8, r8⟩ := R16.x.val (i := 8) rfl
          refine ⟨w8, e8, ne_eval (b := false) R16.pail rv r8 ok_bkn ok_bkn (by rfl) fun H17 s17 => ⟨false, rfl, ?_⟩⟩
          show ite (false = true) _ _
          rw [if_neg (by decide)]
          have R17 : RepZ ⟨K, some q⟩ H H17 σ15 (ssH (.val (.int i0)) pt l1' s' r' t (.val (.int j0)) (.val dBkN) x9) := R16.step s17
          exact ev_sh R17 hpt (i := j + 1) (by omega) (hB.mono (Nat.le_succ _)) fun σ18 H18 R18 f18 => ⟨s', r', t, _, _, _, R18, tabs_fr (tabs_fr T16 (s17.fr R16.pail)) f18, hB.mono (Nat.le_succ _), nl_int j0, nl_bkn, n9⟩
      | false =>
        have SF := h11.hs.f hpt
        have hlast : ((s :: t.map (·.1)).reverse.map dSt) = (t.map (·.1)).reverse.map dSt ++ [dSt s] := by simp
        refine z_run R13 (fun ss => ∃ k : Nat, k < pt.arms.length ∧ ss = ssH (.val (.int i0)) pt l1' s r t (.val (.int j0)) x8 (.val (.int k))) ?_ fun σ14 H14 ss14 R14 f14 ⟨k, hk, e14⟩ => ?_
        · simp only [ssH, ssR]
          rw [hlast]
          simp
          refine ⟨_, atI_last _ _, pt, s, rfl, hok.a0, hok.a5, by rw [h11.hs.l]; exact hok.n3, SF.2.2, fun k hk => ⟨k, hk, rfl⟩⟩
        subst e14
        obtain ⟨b, hb⟩ : ∃ b, pt.arms[k]? = some b := ⟨pt.arms[k], by simp [hk]⟩
        have hbm : b ∈ pt.arms := List.mem_of_getElem? hb
        have hat : atI (pt.arms.map dBr) (k : Int) = some (dBr b) := by rw [atI_arms hk, (List.getElem?_eq_some_iff.mp hb).2]
        have T14 := tabs_fr T13 f14
        have hrl := h11.rl
        have htl := h11.hl
        refine ev_take R14 T14 h01 (nl_int i0) (nl_sts _) (nl_ints _) (nl_int j0) n8 SF hb (by omega) (fun hf v H15 R15 rv T15 => ?_) (fun hf v H15 R15 rv T15 => ?_)
        · refine ix0_eval R15.pail rv fun w H16 s16 rw16 => ?_
          cases (show w = _ from rw16)
          unfold tC
          refine eqs_eval (a := ("back" : Str)) (b := ("back" : Str)) (t := true) (by decide) ?_
          refine ⟨true, rfl, ?_⟩
          show ite (true = true) _ _
          rw [if_pos rfl]
          have R16 := R15.step s16
          have HN := h11.next hpt hb
          refine z_run R16 (fun ss => ss = ssH (.val (.int i0)) pt l1' ⟨b.tgt, mvd b s.pt⟩ (r ++ [(k : Int)]) ((s, r) :: t) (.val (.int j0)) x8 (.val (.int k))) ?_ fun σ17 H17 ss17 R17 f17 e17 => ?_
          · simp only [ssH, ssR]
            rw [hlast]
            simp [dPt, dBs, hat]
            have hl3 : s.pt.length ≤ 3 := by rw [h11.hs.l]; exact hok.n3
            have hbo := SF.2.2 b hbm
            exact ⟨_, atI_last _ _, b, s, rfl, hl3, hbo, small_le (by decide), small_le (by omega), small_le (by decide), small_le (by omega), rfl⟩
          subst e17
          exact ev_sh R17 hpt (i := j + 1) (by omega) HN fun σ18 H18 R18 f18 => ⟨_, _, _, _, _, _, R18, tabs_fr (tabs_fr (tabs_fr T15 (s16.fr R15.pail)) f17) f18, HN, nl_int j0, n8, nl_int (k : Int)⟩
        · refine ix0_eval R15.pail rv fun w H16 s16 rw16 => ?_
          cases (show w = _ from rw16)
          unfold tC
          refine eqs_eval (a := ("Stuck" : Str)) (b := ("back" : Str)) (t := false) (by decide) ?_
          refine ⟨false, rfl, ?_⟩
          show ite (false = true) _ _
          rw [if_neg (by decide)]
          exact ev_sh (R15.step s16) hpt (i := j + 1) (by omega) (h11.mono (Nat.le_succ _)) fun σ18 H18 R18 f18 => ⟨_, _, _, _, _, _, R18, tabs_fr (tabs_fr T15 (s16.fr R15.pail)) f18, h11.mono (Nat.le_succ _), nl_int j0, n8, nl_int (k : Int)⟩
    · refine ⟨_, fun d => d = .int r.length, R11.x, ?_, fun d v12 H12 s12 r12 e12 => ?_⟩
      · simp [ssH, ssR]
      subst e12
      cases (show v12 = _ from r12)
      have T12 := tabs_fr T11 (s12.fr R11.pail)
      have hn := rdOk_len h11.hr
      have h24 : t.length ≤ 24 := h11.hl
      refine ⟨r.length, rfl, by omega, by omega, for_range (lo := 0) (n := ((r.length : Nat) : Int).toNat) (fun i σ' H' => ∃ (s2 : Sta) (r2 : List Int) (t2 : List (Sta × List Int)) (x2 : Sl), RepZ ⟨K, some q⟩ H H' σ' (ssH (.val (.int i0)) pt l1' s2 r2 t2 x2 x8 x9) ∧
        LamX.Tabs [(Pt, lamQ)] H' ∧ HsI pt 24 s2 r2 t2 ∧ t2.length + i = t.length ∧ nlSl x2 = true) ⟨s, r, t, x7, R11.step s12, T12, h11, rfl, n7⟩ (fun j σ13 H13 hj ⟨s2, r2, t2, x2, R13, T13, h13, hl13, m7⟩ => ?_) (fun σ13 H13 ⟨s2, r2, t2, x2, R13, T13, h13, hl13, m7⟩ => ?_)⟩
      · have hj : j < r.length := hj
        have R14 : RepZ ⟨K, some q⟩ H H13 _ (ssH (.val (.int i0)) pt l1' s2 r2 t2 (.val (.int (0 + (j : Int)))) x8 x9) := R13.set 7 (d := .int (0 + (j : Int))) (v := .int (0 + (j : Int))) rfl
        generalize hj0 : (0 + (j : Int)) = j0 at R14
        cases t2 with
        | nil => rw [List.length_nil] at hl13; omega
        | cons a t2 =>
          obtain ⟨s', r'⟩ := a
          have hh := h13.hr
          obtain ⟨⟨k, k1, k2, hrk⟩, hr'⟩ := hh
          subst hrk
          have hB := h13.back
          refine z_run R14 (fun ss => ss = ssR (.val (.int i0)) pt (.lst ((s' :: t2.map (·.1)).reverse.map dSt)) (.lst (r'.map .int)) (.val (dLd l1' pt ((s2, r' ++ [k]) :: (s', r') :: t2))) (.val (.int j0)) x8 x9) ?_ fun σ15 H15 ss15 R15 f15 e15 => ?_
          · simp only [ssH, ssR]
            simp
            exact ⟨cut_last2 _ _ _, cut_last _ _⟩
          subst e15
          refine ev_undo0 C8.E0 R15 h01 (nl_int i0) (nl_sts _) (nl_ints _) (nl_int j0) n8 n9 (fun _ H16 R16 k16 => ⟨rfl, false, rfl, ?_⟩) (fun z => nomatch z)
          show ite (false = true) _ _
          rw [if_neg (by decide)]
          have R17 : RepZ ⟨K, some q⟩ H H16 σ15 (ssH (.val (.int i0)) pt l1' s' r' t2 (.val (.int j0)) x8 x9) := R16
          refine ⟨_, fun b => b = false, R17.x, d_sh hpt (Nat.le_refl _) hB rfl, fun b H18 s18 eb => ?_⟩
          subst eb
          show ite (false = true) _ _
          rw [if_neg (by decide)]
          exact ⟨s', r', t2, _, R17.step s18, tabs_fr (k16 _ (tabs_fr T13 f15)) (s18.fr R17.pail), hB, by rw [List.length_cons] at hl13; omega, nl_int j0⟩
      · have hl13 : t2.length + r.length = t.length := hl13
        have e2 : t2 = [] := List.length_eq_zero_iff.mp (by omega)
        subst e2
        have hr0 : r2 = [] := h13.hr
        subst hr0
        refine ev_undo R13 T13 h01 (nl_int i0) (nl_sts _) (nl_ints _) m7 n8 n9 (fun z => absurd rfl z) fun _ v H16 R16 rv T16 => ?_
        refine ⟨_, fun d => d = dNtu, R16.x, ?_, fun d w H17 s17 rw17 e17 => ?_⟩
        · simp [ssH, ssR]
          exact ⟨small_le (by decide), rfl⟩
        subst e17
        refine ne_eval (b := false) (R16.step s17).pail (rv.le (s17.le R16.pail) _ _) rw17 ok_ntu ok_ntu (by rfl) fun H18 s18 => ⟨false, rfl, ?_⟩
        show ite (false = true) _ _
        rw [if_neg (by decide)]
        refine ⟨((R16.step s17).step s18).sub rfl fun i x e => ?_, tabs_fr (tabs_fr T16 (s17.fr R16.pail)) (s18.fr (R16.step s17).pail)⟩
        cases i with
        | zero => exact .inr e
        | succ i =>
          rw [List.getElem?_cons_succ, List.getElem?_replicate] at e
          split at e
          · exact .inl (Option.some.inj e).symm
          · cases e
  · refine ⟨_, ⟨fun _ => False, fun d _ => d = .bl true, fun _ => False, fun _ => False⟩, R1, ?_, ⟨fun _ _ _ _ _ z => z.elim, fun σ' H' ss' d v R' f r e => ?_, fun _ _ _ _ _ z => z.elim, fun _ _ _ _ _ z => z.elim⟩⟩
    · simp
    · subst e
      cases (show v = _ from r)
      exact kk H' (fun b o hb n hne => R'.keep hb n fun z => hne (Option.some.inj z).symm) (tabs_fr T1 f)
end KK
set_option maxRecDepth 100000
set_option maxHeartbeats 4000000
namespace KK
open PySem PySem.Spec PyProof.Rows L2 DL
variable {P : Program} {w : World} {K : PySem.W.Frag} {mg : Str → Option Value} {base : Heap}
def spLaw (K : PySem.W.Frag) (Pt : Addr) : Sp := fun vs H Q _ => ∃ (ns : List Int) (v : V), vs = [v] ∧ Rp ⟨K, none⟩ H (.scr ns) v ∧ ns.length ≤ 1000 ∧ (∀ z ∈ ns, Builtin.Int.intBits z ≤ 1048576) ∧ LamX.Tabs [(Pt, lamQ)] H ∧ ∀ H', Q (.bl true) H'
abbrev N_law : List Str := ["_law_script", "_law_turn_here"]
theorem sc_law : FnScope N_law ["_law_script"] (defScope (top 85)) := ⟨rfl, rfl, rfl, by decide +kernel, rfl, by decide +kernel, by decide +kernel⟩
theorem g_law (E : Fx K mg) (C1 : C8.Cal P w K mg base 1 "_law_begun" (spBegun K) []) {Pt : Addr} (C2 : CalG P w K mg base 13 "_law_right" (spRight K Pt)) {f : Addr} {fd : FuncData} (F : FunD K "law" "law" (defArgs (top 85)) (defBody (top 85)) (defScope (top 85)) [] [] f fd) :
    FnG P w K mg base 15 f fd ["_law_script"] (spLaw K Pt) := by
  refine fn_gen F sc_law (fun vs H Q E ⟨ns, v, e, _⟩ => by rw [e]; rfl) (fun cdv A outer s H vs Q E' hg hr hlk ⟨ns, v, e, rv, hl, hb, hT, kk⟩ => ?_)
  subst e
  have nd := sc_law.nd
  refine ⟨_, PSs.nox (show PSs ((cxOf C8.CX0 P w K mg base N_law "law" (defScope (top 85)) f cdv A outer s H E').nox) (defBody (top 85)) _ from
    pss_one (ps_ret (pe_callB (cr_all rfl) (by rfl) (by exact E.all) bt_all (pa_cons (pe_lc (own := [("_law_turn_here", 1)]) rfl nd (pi_range1 (by rfl) (by exact E.range) (pa_cons (pe_X (p := none) fun G => pd_fn (call_max2 rfl) lc_max2 (by rfl) (by exact E.max) bt_max (ad_cons pd_int (ad_cons (pd_fn (call_min2 rfl) lc_min2 (by rfl) (by exact E.min) bt_min (ad_cons (pd_fn call_len lc_len (by rfl) (by exact E.len) bt_len (ad_cons (pd_var 0) ad_nil)) (ad_cons pd_int ad_nil))) ad_nil))) pa_nil)) (blkOk_by (N := N_law) (sc := defScope (top 85)) (by decide +kernel))
      (fun _ _ _ _ _ => pg_name (i := 1) nd rfl (by first | exact Or.inl rfl | exact Or.inr rfl)) (fun _ _ _ _ _ => pts_nil)
      (fun _ _ _ _ _ => pe_callG C2 hg (hr.mono (by decide)) (pa_cons (C8.pe_c C1 hr (by decide) (by rfl) (pa_cons (pe_var (i := 0) rfl (by first | exact Or.inl rfl | exact Or.inr (Or.inl rfl) | exact Or.inr (Or.inr rfl))) (pa_cons (pe_var (i := 1) rfl (by first | exact Or.inl rfl | exact Or.inr (Or.inl rfl) | exact Or.inr (Or.inr rfl))) pa_nil))) pa_nil))) pa_nil)))), ?_⟩
  have hp0 : PlN ⟨K, none⟩ 0 H := fun q' e => by cases e
  have po : ∀ Hz, PlOk ⟨K, none⟩ Hz := fun Hz q' e => by cases e
  obtain ⟨_, R0, _⟩ := reps_startA (N := N_law) (as := [.val (.scr ns)]) hp0 (.val rv .nil)
  refine ⟨_, fun d => ∃ m : Nat, d = .int m ∧ m ≤ 5, ⟨_, _, R0⟩, ?_, fun d v1 H1 s1 r1 ⟨m, em, hm⟩ => ?_⟩
  · simp [startA]
    by_cases h5 : (5 : Int) < ns.length
    · rw [if_pos h5]
      exact ⟨5, by decide, by decide⟩
    · rw [if_neg h5]
      by_cases h2 : (2 : Int) < ns.length
      · rw [if_pos h2]
        exact ⟨ns.length, rfl, by omega⟩
      · rw [if_neg h2]
        exact ⟨2, rfl, by decide⟩
  subst em
  cases (show v1 = _ from r1)
  have rv1 := rv.le (s1.le (po H)) _ _
  have T1 := tabs_fr hT (s1.fr (po H))
  refine ⟨m, rfl, by omega, by omega, fun D hD => lc_range (lo := 0) (n := (m : Int).toNat) (g := gName 1) (tt := tYes) (vs := [1]) (σ := L2.start N_law [v]) (te := fun σ H Q => (tCons (tCall (spBegun K) [] C8.E0 (tCons (tVar 0) (tCons (tVar 1) tNil))) tNil) σ H fun vs H' => spRight K Pt vs H' Q C8.E0) (Qd := fun H1' => rAll K [.ref D] H1' Q) (fun i H2 => H2 D = some (.lst (List.replicate i (.bl true))) ∧ (∀ b o, H1 b = some o → (∀ ps, o ≠ .tbl ps) → H2 b = some o) ∧ LamX.Tabs [(Pt, lamQ)] H2) ⟨upd_same, fun b o e _ => by rw [upd_ne (ne_of_none e hD)]; exact e, tabs_fr T1 fun b o e _ => by rw [upd_ne (ne_of_none e hD)]; exact e⟩ (fun i H2 hi ⟨a1, a2, a3⟩ => ?_) (fun H2 ⟨a1, a2, a3⟩ => ?_)⟩
  · have hi : i < m := hi
    refine ⟨rfl, ?_⟩
    unfold tYes
    dsimp only
    rw [if_pos rfl]
    have rv2 : Rp ⟨K, none⟩ H2 (.scr ns) v := rv1.mut (fun b o e _ t _ => a2 b o e t) _ _ (by unfold nlD; rfl)
    refine ⟨v, rfl, .int (0 + (i : Int)), rfl, none, ns, i, v, by rw [Int.zero_add]; rfl, (fun q' e => by cases e), rv2, hl, by omega, hb, fun q H3 x y s3 hq h3 hx hy hy1 => ⟨q, x, y, rfl, h3, hx, hy, hy1, tabs_fr a3 (s3.fr (po H2)), fun H4 k4 T4 => ?_⟩⟩
    have n3 : H3 D = some (.lst (List.replicate i (.bl true))) := s3.1 _ _ a1 (fun z => nomatch z)
    have nDq : D ≠ q := ne_of_none a1 hq
    have n4 := k4 _ _ n3 (fun _ z => nomatch z) nDq
    refine ⟨_, n4, ?_, upd_same.trans ?_, fun b o e n => ?_, tabs_k T4 fun b o e n _ => ?_⟩
    · rw [List.length_replicate]
      exact Nat.lt_of_lt_of_le (show i < 5 by omega) (by decide)
    · rw [List.replicate_succ']
    · have e2 := a2 b o e n
      rw [upd_ne (ne_of_none e hD)]
      exact k4 b o (s3.1 _ _ e2 (fun z => nomatch z)) n (ne_of_none e2 hq)
    · rw [upd_ne fun z => by subst z; rw [n4] at e; exact n _ (Option.some.inj e).symm]
      exact e
  · have a1 : H2 D = some (.lst (List.replicate m (.bl true))) := a1
    refine ⟨D, List.replicate m true, rfl, SqL.of (by rw [a1, List.map_replicate]), ?_⟩
    have : (List.replicate m true).all id = true := by simp
    rw [this]
    exact kk _
end KK
set_option maxRecDepth 100000
set_option maxHeartbeats 4000000
/-! Printed by genhook.py: the facts of the head. -/
namespace KK
open PySem PySem.Spec PyProof.Rows L2 DL
def rdB (K : PySem.W.Frag) (C : Addr) (mc : Value) (m : Str) (p : Addr) : Bool := match PySem.W.findCls K (.ref C) mc m with
  | some (.get (.builtin b) (.ref q) .none (.ref D)) => decide (b = "classmethod.__get__") && (decide (q = p) && decide (D = C))
  | _ => false
theorem rdB_ok {K : PySem.W.Frag} {C : Addr} {mc : Value} {m : Str} {p : Addr} (h : rdB K C mc m p = true) : PySem.W.findCls K (.ref C) mc m = some (.get (.builtin "classmethod.__get__") (.ref p) .none (.ref C)) := by
  unfold rdB at h
  split at h
  · rename_i b q D e
    obtain ⟨h1, h⟩ := He.ba h
    obtain ⟨h2, h3⟩ := He.ba h
    have h1 := of_decide_eq_true h1
    have h2 := of_decide_eq_true h2
    have h3 := of_decide_eq_true h3
    subst h1 h2 h3
    exact e
  · cases h
def faL_0 : List He.Fa := [.free "abs", .free "all", .free "any", .free "bool", .str "DIGITS" "0123456789", .str "LETTERS" "abcdefghijklmnopqrstuvwxyz", .int "MOST_BRANCHES" 5, .int "MOST_NUMBER" 1000000, .int "MOST_PLACES" 3, .int "MOST_SAYINGS" 3]
def faL_1 : List He.Fa := [.int "MOST_TESTS" 3, .int "MOST_VARIABLES" 3, .free "divmod", .free "enumerate", .free "int", .free "isinstance", .cls "Stage", .noat "Stage" "state", .noat "Stage" "road", .noat "Stage" "ahead"]
def faL_2 : List He.Fa := [.cls "Lead", .noat "Lead" "led", .noat "Lead" "stage", .free "len", .free "max", .free "min", .glo "Program", .free "range", .free "repr", .free "str"]
def faL_3 : List He.Fa := [.free "sum", .free "tuple", .glo "is_integer", .glo "is_name", .glo "are_integers", .glo "written_integer", .glo "is_form", .glo "is_saying", .glo "is_branch", .glo "wrong_name"]
def faL_4 : List He.Fa := [.glo "wrong_saying", .glo "places_in", .glo "wrong_branch", .mkr "Program", .meth "Program" "__len__", .glo "form_words", .glo "branch_lines", .glo "program_lines", .meth "Program" "__eq__", .glo "text_form"]
def faL_5 : List He.Fa := [.glo "text_saying", .glo "text_branch", .glo "text_program", .glo "value_at", .glo "blocking", .glo "moved", .glo "is_free", .glo "check_program", .glo "check_index", .glo "check_place"]
def faL_6 : List He.Fa := [.glo "check_point", .mkr "Stage", .glo "Stage", .mkr "Lead", .glo "Lead", .glo "_law_any_of", .glo "_law_tags", .glo "_law_words", .glo "_law_arm_lines", .glo "_law_lines"]
def faL_7 : List He.Fa := [.glo "_law_sheet", .glo "_law_spots", .glo "_law_unit", .glo "_law_shift", .glo "_law_little", .glo "_law_ask", .glo "_law_turn", .glo "_law_arm", .glo "_law_small", .glo "_law_value"]
def faL_8 : List He.Fa := [.glo "_law_lets", .glo "_law_behind", .glo "_law_spot", .glo "_law_again", .glo "_law_next", .meth "Lead" "__len__", .meth "Lead" "__bool__", .glo "_law_shows", .glo "Stuck", .glo "WrongValue"]
def faL_9 : List He.Fa := [.glo "WrongName", .glo "NotPossible", .glo "InvalidIndex", .glo "NothingToUndo", .free "ValueError", .free "LookupError", .free "ArithmeticError", .meth "Lead" "take", .glo "_law_answer", .glo "_law_sort"]
def faL_10 : List He.Fa := [.glo "_law_right", .glo "_law_built", .glo "_law_begun", .glo "_law_cast", .glo "branch_parts", .meth "Lead" "undo", .glo "law"]
def faL : List He.Fa := faL_0 ++ (faL_1 ++ (faL_2 ++ (faL_3 ++ (faL_4 ++ (faL_5 ++ (faL_6 ++ (faL_7 ++ (faL_8 ++ (faL_9 ++ (faL_10))))))))))
def fn0 : He.DefD := ⟨("is_integer", none), "is_integer", "is_integer", defArgs (top 24), defBody (top 24), defScope (top 24), [], []⟩
def fn1 : He.DefD := ⟨("is_name", none), "is_name", "is_name", defArgs (top 25), defBody (top 25), defScope (top 25), [], []⟩
def fn2 : He.DefD := ⟨("are_integers", none), "are_integers", "are_integers", defArgs (top 26), defBody (top 26), defScope (top 26), [], []⟩
def fn3 : He.DefD := ⟨("written_integer", none), "written_integer", "written_integer", defArgs (top 27), defBody (top 27), defScope (top 27), [], []⟩
def fn4 : He.DefD := ⟨("is_form", none), "is_form", "is_form", defArgs (top 29), defBody (top 29), defScope (top 29), [], []⟩
def fn5 : He.DefD := ⟨("is_saying", none), "is_saying", "is_saying", defArgs (top 30), defBody (top 30), defScope (top 30), [], []⟩
def fn6 : He.DefD := ⟨("is_branch", none), "is_branch", "is_branch", defArgs (top 31), defBody (top 31), defScope (top 31), [], []⟩
def fn7 : He.DefD := ⟨("wrong_name", none), "wrong_name", "wrong_name", defArgs (top 32), defBody (top 32), defScope (top 32), [], []⟩
def fn8 : He.DefD := ⟨("wrong_saying", none), "wrong_saying", "wrong_saying", defArgs (top 33), defBody (top 33), defScope (top 33), [], []⟩
def fn9 : He.DefD := ⟨("places_in", none), "places_in", "places_in", defArgs (top 34), defBody (top 34), defScope (top 34), [], []⟩
def fn10 : He.DefD := ⟨("wrong_branch", none), "wrong_branch", "wrong_branch", defArgs (top 35), defBody (top 35), defScope (top 35), [], []⟩
def fn11 : He.DefD := ⟨("Program", some "__init__"), "__init__", "Program.__init__", defArgs (meth 38 1), defBody (meth 38 1), defScope (meth 38 1), [], []⟩
def fn12 : He.DefD := ⟨("Program", some "__len__"), "__len__", "Program.__len__", defArgs (meth 38 10), defBody (meth 38 10), defScope (meth 38 10), [], []⟩
def fn13 : He.DefD := ⟨("form_words", none), "form_words", "form_words", defArgs (top 36), defBody (top 36), defScope (top 36), [], []⟩
def fn14 : He.DefD := ⟨("branch_lines", none), "branch_lines", "branch_lines", defArgs (top 37), defBody (top 37), defScope (top 37), [], []⟩
def fn15 : He.DefD := ⟨("program_lines", none), "program_lines", "program_lines", defArgs (top 39), defBody (top 39), defScope (top 39), [], []⟩
def fn16 : He.DefD := ⟨("Program", some "__eq__"), "__eq__", "Program.__eq__", defArgs (meth 38 11), defBody (meth 38 11), defScope (meth 38 11), [], []⟩
def fn17 : He.DefD := ⟨("text_form", none), "text_form", "text_form", defArgs (top 40), defBody (top 40), defScope (top 40), [], []⟩
def fn18 : He.DefD := ⟨("text_saying", none), "text_saying", "text_saying", defArgs (top 41), defBody (top 41), defScope (top 41), [], []⟩
def fn19 : He.DefD := ⟨("text_branch", none), "text_branch", "text_branch", defArgs (top 42), defBody (top 42), defScope (top 42), [], []⟩
def fn20 : He.DefD := ⟨("text_program", none), "text_program", "text_program", defArgs (top 44), defBody (top 44), defScope (top 44), [], []⟩
def fn21 : He.DefD := ⟨("value_at", none), "value_at", "value_at", defArgs (top 45), defBody (top 45), defScope (top 45), [], []⟩
def fn22 : He.DefD := ⟨("blocking", none), "blocking", "blocking", defArgs (top 51), defBody (top 51), defScope (top 51), [], []⟩
def fn23 : He.DefD := ⟨("moved", none), "moved", "moved", defArgs (top 52), defBody (top 52), defScope (top 52), [], []⟩
def fn24 : He.DefD := ⟨("is_free", none), "is_free", "is_free", defArgs (top 53), defBody (top 53), defScope (top 53), [], []⟩
def fn25 : He.DefD := ⟨("check_program", none), "check_program", "check_program", defArgs (top 46), defBody (top 46), defScope (top 46), [], []⟩
def fn26 : He.DefD := ⟨("check_index", none), "check_index", "check_index", defArgs (top 47), defBody (top 47), defScope (top 47), [], []⟩
def fn27 : He.DefD := ⟨("check_place", none), "check_place", "check_place", defArgs (top 48), defBody (top 48), defScope (top 48), [], []⟩
def fn28 : He.DefD := ⟨("check_point", none), "check_point", "check_point", defArgs (top 49), defBody (top 49), defScope (top 49), [], []⟩
def fn29 : He.DefD := ⟨("Stage", some "__init__"), "__init__", "Stage.__init__", defArgs (meth 55 0), defBody (meth 55 0), defScope (meth 55 0), [], []⟩
def fn30 : He.DefD := ⟨("Lead", some "__init__"), "__init__", "Lead.__init__", defArgs (meth 56 0), defBody (meth 56 0), defScope (meth 56 0), [], []⟩
def fn31 : He.DefD := ⟨("_law_any_of", none), "_law_any_of", "_law_any_of", defArgs (top 60), defBody (top 60), defScope (top 60), [], []⟩
def fn32 : He.DefD := ⟨("_law_tags", none), "_law_tags", "_law_tags", defArgs (top 61), defBody (top 61), defScope (top 61), [], []⟩
def fn33 : He.DefD := ⟨("_law_words", none), "_law_words", "_law_words", defArgs (top 62), defBody (top 62), defScope (top 62), [], []⟩
def fn34 : He.DefD := ⟨("_law_arm_lines", none), "_law_arm_lines", "_law_arm_lines", defArgs (top 63), defBody (top 63), defScope (top 63), [], []⟩
def fn35 : He.DefD := ⟨("_law_lines", none), "_law_lines", "_law_lines", defArgs (top 64), defBody (top 64), defScope (top 64), [], []⟩
def fn36 : He.DefD := ⟨("_law_sheet", none), "_law_sheet", "_law_sheet", defArgs (top 65), defBody (top 65), defScope (top 65), [], []⟩
def fn37 : He.DefD := ⟨("_law_spots", none), "_law_spots", "_law_spots", defArgs (top 66), defBody (top 66), defScope (top 66), [], []⟩
def fn38 : He.DefD := ⟨("_law_unit", none), "_law_unit", "_law_unit", defArgs (top 69), defBody (top 69), defScope (top 69), [], []⟩
def fn39 : He.DefD := ⟨("_law_shift", none), "_law_shift", "_law_shift", defArgs (top 70), defBody (top 70), defScope (top 70), [], []⟩
def fn40 : He.DefD := ⟨("_law_little", none), "_law_little", "_law_little", defArgs (top 71), defBody (top 71), defScope (top 71), [], []⟩
def fn41 : He.DefD := ⟨("_law_ask", none), "_law_ask", "_law_ask", defArgs (top 72), defBody (top 72), defScope (top 72), [], []⟩
def fn42 : He.DefD := ⟨("_law_turn", none), "_law_turn", "_law_turn", defArgs (top 73), defBody (top 73), defScope (top 73), [], []⟩
def fn43 : He.DefD := ⟨("_law_arm", none), "_law_arm", "_law_arm", defArgs (top 74), defBody (top 74), defScope (top 74), [], []⟩
def fn44 : He.DefD := ⟨("_law_small", none), "_law_small", "_law_small", defArgs (top 75), defBody (top 75), defScope (top 75), [], []⟩
def fn45 : He.DefD := ⟨("_law_value", none), "_law_value", "_law_value", defArgs (top 76), defBody (top 76), defScope (top 76), [], []⟩
def fn46 : He.DefD := ⟨("_law_lets", none), "_law_lets", "_law_lets", defArgs (top 77), defBody (top 77), defScope (top 77), [], []⟩
def fn47 : He.DefD := ⟨("_law_behind", none), "_law_behind", "_law_behind", defArgs (top 78), defBody (top 78), defScope (top 78), [], []⟩
def fn48 : He.DefD := ⟨("_law_spot", none), "_law_spot", "_law_spot", defArgs (top 79), defBody (top 79), defScope (top 79), [], []⟩
def fn49 : He.DefD := ⟨("_law_again", none), "_law_again", "_law_again", defArgs (top 80), defBody (top 80), defScope (top 80), [], []⟩
def fn50 : He.DefD := ⟨("_law_next", none), "_law_next", "_law_next", defArgs (top 82), defBody (top 82), defScope (top 82), [], []⟩
def fn51 : He.DefD := ⟨("Lead", some "__len__"), "__len__", "Lead.__len__", defArgs (meth 56 11), defBody (meth 56 11), defScope (meth 56 11), [], []⟩
def fn52 : He.DefD := ⟨("Lead", some "__bool__"), "__bool__", "Lead.__bool__", defArgs (meth 56 12), defBody (meth 56 12), defScope (meth 56 12), [], []⟩
def fn53 : He.DefD := ⟨("_law_shows", none), "_law_shows", "_law_shows", defArgs (top 81), defBody (top 81), defScope (top 81), [], []⟩
def fn54 : He.DefD := ⟨("Stuck", some "__init__"), "__init__", "Stuck.__init__", defArgs (meth 13 0), defBody (meth 13 0), defScope (meth 13 0), [], []⟩
def fn55 : He.DefD := ⟨("Lead", some "take"), "take", "Lead.take", defArgs (meth 56 7), defBody (meth 56 7), defScope (meth 56 7), [], []⟩
def fn56 : He.DefD := ⟨("_law_answer", none), "_law_answer", "_law_answer", defArgs (top 68), defBody (top 68), defScope (top 68), [], []⟩
def fn57 : He.DefD := ⟨("_law_sort", none), "_law_sort", "_law_sort", defArgs (top 83), defBody (top 83), defScope (top 83), [], []⟩
def fn58 : He.DefD := ⟨("_law_right", none), "_law_right", "_law_right", defArgs (top 84), defBody (top 84), defScope (top 84), [], []⟩
def fn59 : He.DefD := ⟨("_law_built", none), "_law_built", "_law_built", defArgs (top 67), defBody (top 67), defScope (top 67), [], []⟩
def fn60 : He.DefD := ⟨("_law_begun", none), "_law_begun", "_law_begun", defArgs (top 58), defBody (top 58), defScope (top 58), [], []⟩
def fn61 : He.DefD := ⟨("_law_cast", none), "_law_cast", "_law_cast", defArgs (top 59), defBody (top 59), defScope (top 59), [], []⟩
def fn62 : He.DefD := ⟨("branch_parts", none), "branch_parts", "branch_parts", defArgs (top 43), defBody (top 43), defScope (top 43), [], []⟩
def fn63 : He.DefD := ⟨("Lead", some "undo"), "undo", "Lead.undo", defArgs (meth 56 8), defBody (meth 56 8), defScope (meth 56 8), [], []⟩
def fn64 : He.DefD := ⟨("law", none), "law", "law", defArgs (top 85), defBody (top 85), defScope (top 85), [], []⟩
def fnL_0 : List He.DefD := [fn0, fn1, fn2, fn3, fn4, fn5, fn6, fn7, fn8, fn9]
def fnL_1 : List He.DefD := [fn10, fn11, fn12, fn13, fn14, fn15, fn16, fn17, fn18, fn19]
def fnL_2 : List He.DefD := [fn20, fn21, fn22, fn23, fn24, fn25, fn26, fn27, fn28, fn29]
def fnL_3 : List He.DefD := [fn30, fn31, fn32, fn33, fn34, fn35, fn36, fn37, fn38, fn39]
def fnL_4 : List He.DefD := [fn40, fn41, fn42, fn43, fn44, fn45, fn46, fn47, fn48, fn49]
def fnL_5 : List He.DefD := [fn50, fn51, fn52, fn53, fn54, fn55, fn56, fn57, fn58, fn59]
def fnL_6 : List He.DefD := [fn60, fn61, fn62, fn63, fn64]
def fnL : List He.DefD := fnL_0 ++ (fnL_1 ++ (fnL_2 ++ (fnL_3 ++ (fnL_4 ++ (fnL_5 ++ (fnL_6))))))
def gs0 : GetD := ⟨"Program", "places", "property", "Program.places", meth 38 6⟩
def gs1 : GetD := ⟨"Lead", "place", "property", "Lead.place", meth 56 2⟩
def gs2 : GetD := ⟨"Lead", "point", "property", "Lead.point", meth 56 3⟩
def gs3 : GetD := ⟨"Lead", "taken", "property", "Lead.taken", meth 56 4⟩
def gs4 : GetD := ⟨"Lead", "ready", "property", "Lead.ready", meth 56 5⟩
def gs5 : GetD := ⟨"Lead", "again", "property", "Lead.again", meth 56 6⟩
def gs6 : GetD := ⟨"Lead", "program", "property", "Lead.program", meth 56 1⟩
def gs7 : GetD := ⟨"Program", "read", "classmethod", "Program.read", meth 38 2⟩
def gsL_0 : List GetD := [gs0, gs1, gs2, gs3, gs4, gs5, gs6, gs7]
def gsL : List GetD := gsL_0
def ex0 (K : PySem.W.Frag) : Bool := decide (PySem.W.plainGet K (progC K) Str.empty = true)
def ex1 (K : PySem.W.Frag) : Bool := decide (PySem.W.isClsIn K (progC K) = true)
def ex2 (K : PySem.W.Frag) : Bool := decide (PySem.W.plainOver K (progC K) = true)
def ex3 (K : PySem.W.Frag) : Bool := decide (PySem.W.findIn K (.ref (progC K)) "__setattr__" = some (some (.builtin "object.__setattr__")))
def ex4 (K : PySem.W.Frag) : Bool := decide (PySem.W.findIn K (.ref (progC K)) "__class__" = some (some (.builtin "object.__class__")))
def ex5 (K : PySem.W.Frag) : Bool := decide (PySem.W.specialIn K (.builtin "object.__class__") "__get__" = some (some (.builtin "getset_descriptor.__get__")))
def ex6 (K : PySem.W.Frag) : Bool := decide (PySem.W.takesIn K (.builtin "object.__class__") = some true)
def ex7 (K : PySem.W.Frag) : Bool := decide (PySem.W.mroIn K (progC K) (.type "object") = some true)
def ex8 (K : PySem.W.Frag) : Bool := decide (PySem.W.kitOne K (.ref (progC K)) (.ref (progC K)) = some true)
def ex9 (K : PySem.W.Frag) : Bool := decide (∀ t ∈ ["NoneType", "bool", "int", "str", "tuple", "list"], PySem.W.kitOne K (.type t) (.ref (progC K)) = some false)
def ex10 (K : PySem.W.Frag) : Bool := decide (PySem.W.findIn K (.ref (progC K)) "own_branches" = some (some (.ref (He.ma K (progC K) "own_branches"))))
def ex11 (K : PySem.W.Frag) : Bool := decide (PySem.W.specialIn K (.ref (He.ma K (progC K) "own_branches")) "__get__" = some (some (.builtin "member_descriptor.__get__")))
def ex12 (K : PySem.W.Frag) : Bool := decide (PySem.W.takesIn K (.ref (He.ma K (progC K) "own_branches")) = some true)
def ex13 (K : PySem.W.Frag) : Bool := decide (PySem.W.typeIn K (.ref (He.ma K (progC K) "own_branches")) = some (.type "member_descriptor"))
def ex14 (K : PySem.W.Frag) : Bool := decide (PySem.W.slotIn K (He.ma K (progC K) "own_branches") (progC K) = some 0)
def ex15 (K : PySem.W.Frag) : Bool := decide (PySem.W.findIn K (.ref (progC K)) "own_names" = some (some (.ref (He.ma K (progC K) "own_names"))))
def ex16 (K : PySem.W.Frag) : Bool := decide (PySem.W.specialIn K (.ref (He.ma K (progC K) "own_names")) "__get__" = some (some (.builtin "member_descriptor.__get__")))
def ex17 (K : PySem.W.Frag) : Bool := decide (PySem.W.takesIn K (.ref (He.ma K (progC K) "own_names")) = some true)
def ex18 (K : PySem.W.Frag) : Bool := decide (PySem.W.typeIn K (.ref (He.ma K (progC K) "own_names")) = some (.type "member_descriptor"))
def ex19 (K : PySem.W.Frag) : Bool := decide (PySem.W.slotIn K (He.ma K (progC K) "own_names") (progC K) = some 1)
def ex20 (K : PySem.W.Frag) : Bool := decide (PySem.W.findIn K (.ref (progC K)) "own_sayings" = some (some (.ref (He.ma K (progC K) "own_sayings"))))
def ex21 (K : PySem.W.Frag) : Bool := decide (PySem.W.specialIn K (.ref (He.ma K (progC K) "own_sayings")) "__get__" = some (some (.builtin "member_descriptor.__get__")))
def ex22 (K : PySem.W.Frag) : Bool := decide (PySem.W.takesIn K (.ref (He.ma K (progC K) "own_sayings")) = some true)
def ex23 (K : PySem.W.Frag) : Bool := decide (PySem.W.typeIn K (.ref (He.ma K (progC K) "own_sayings")) = some (.type "member_descriptor"))
def ex24 (K : PySem.W.Frag) : Bool := decide (PySem.W.slotIn K (He.ma K (progC K) "own_sayings") (progC K) = some 2)
def ex25 (K : PySem.W.Frag) : Bool := decide (PySem.W.notFirst K (progC K) (.ref (progC K)) = true)
def ex26 (K : PySem.W.Frag) : Bool := decide (PySem.W.specialIn K (.ref (gs0.p K)) "__get__" = some (some (.builtin "property.__get__")))
def ex27 (K : PySem.W.Frag) : Bool := decide (PySem.W.takesIn K (.ref (gs0.p K)) = some true)
def ex28 (K : PySem.W.Frag) : Bool := decide (PySem.W.specialIn K (.ref (gs1.p K)) "__get__" = some (some (.builtin "property.__get__")))
def ex29 (K : PySem.W.Frag) : Bool := decide (PySem.W.takesIn K (.ref (gs1.p K)) = some true)
def ex30 (K : PySem.W.Frag) : Bool := decide (PySem.W.specialIn K (.ref (gs2.p K)) "__get__" = some (some (.builtin "property.__get__")))
def ex31 (K : PySem.W.Frag) : Bool := decide (PySem.W.takesIn K (.ref (gs2.p K)) = some true)
def ex32 (K : PySem.W.Frag) : Bool := decide (PySem.W.specialIn K (.ref (gs3.p K)) "__get__" = some (some (.builtin "property.__get__")))
def ex33 (K : PySem.W.Frag) : Bool := decide (PySem.W.takesIn K (.ref (gs3.p K)) = some true)
def ex34 (K : PySem.W.Frag) : Bool := decide (PySem.W.specialIn K (.ref (gs4.p K)) "__get__" = some (some (.builtin "property.__get__")))
def ex35 (K : PySem.W.Frag) : Bool := decide (PySem.W.takesIn K (.ref (gs4.p K)) = some true)
def ex36 (K : PySem.W.Frag) : Bool := decide (PySem.W.specialIn K (.ref (gs5.p K)) "__get__" = some (some (.builtin "property.__get__")))
def ex37 (K : PySem.W.Frag) : Bool := decide (PySem.W.takesIn K (.ref (gs5.p K)) = some true)
def ex38 (K : PySem.W.Frag) : Bool := decide (PySem.W.specialIn K (.ref (gs6.p K)) "__get__" = some (some (.builtin "property.__get__")))
def ex39 (K : PySem.W.Frag) : Bool := decide (PySem.W.takesIn K (.ref (gs6.p K)) = some true)
def ex40 (K : PySem.W.Frag) : Bool := decide (excB K (clsA K "Stuck") 1 "ArithmeticError.__new__" [.type "ArithmeticError", .type "Exception", .type "BaseException", .type "object"] = true)
def ex41 (K : PySem.W.Frag) : Bool := decide (PySem.W.findIn K (.ref (clsA K "Stuck")) "__setattr__" = some (some (.builtin "object.__setattr__")))
def ex42 (K : PySem.W.Frag) : Bool := decide (PySem.W.subIn K (.ref (clsA K "Stuck")) (.type "BaseException") = some true)
def ex43 (K : PySem.W.Frag) : Bool := decide (PySem.W.typeIn K (.ref (clsA K "Stuck")) = some (.type "type"))
def ex44 (K : PySem.W.Frag) : Bool := decide (PySem.W.keepIn K (.ref (clsA K "Stuck")) = true)
def ex45 (K : PySem.W.Frag) : Bool := decide ((PySem.W.clsIn K (clsA K "Stuck")).isSome = true)
def ex46 (K : PySem.W.Frag) : Bool := decide (PySem.W.findIn K (.ref (clsA K "Stuck")) "__getattribute__" = some (some (.builtin "BaseException.__getattribute__")))
def ex47 (K : PySem.W.Frag) : Bool := decide (PySem.W.findIn K (.ref (clsA K "Stuck")) "__getattr__" = some none)
def ex48 (K : PySem.W.Frag) : Bool := decide (PySem.W.hasDictIn K (clsA K "Stuck") = true)
def ex49 (K : PySem.W.Frag) : Bool := decide (PySem.W.findIn K (.ref (clsA K "Stuck")) "__class__" = some (some (.builtin "object.__class__")))
def ex50 (K : PySem.W.Frag) : Bool := decide (PySem.W.mroIn K (clsA K "Stuck") (.type "object") = some true)
def ex51 (K : PySem.W.Frag) : Bool := decide (PySem.W.findIn K (.ref (clsA K "Stuck")) "__init__" = some (some (.ref (He.ma K (He.ga K "Stuck") "__init__"))))
def ex52 (K : PySem.W.Frag) : Bool := decide (PySem.W.typeIn K (.ref (He.ma K (He.ga K "Stuck") "__init__")) = some (.type "function"))
def ex53 (K : PySem.W.Frag) : Bool := decide (PySem.W.findIn K (.ref (clsA K "Stuck")) "index" = some none)
def ex54 (K : PySem.W.Frag) : Bool := decide (PySem.W.exmAny K (.ref (clsA K "Stuck")) [.ref (clsA K "WrongValue"), .ref (clsA K "WrongName"), .ref (clsA K "NotPossible")] = some true)
def ex55 (K : PySem.W.Frag) : Bool := decide (PySem.W.kitOne K (.ref (clsA K "Stuck")) (.ref (clsA K "WrongValue")) = some false)
def ex56 (K : PySem.W.Frag) : Bool := decide (PySem.W.kitOne K (.ref (clsA K "Stuck")) (.ref (clsA K "WrongName")) = some false)
def ex57 (K : PySem.W.Frag) : Bool := decide (PySem.W.kitOne K (.ref (clsA K "Stuck")) (.ref (clsA K "NotPossible")) = some true)
def ex58 (K : PySem.W.Frag) : Bool := decide (PySem.W.kitOne K (.ref (clsA K "Stuck")) (.type "ValueError") = some false)
def ex59 (K : PySem.W.Frag) : Bool := decide (PySem.W.kitOne K (.ref (clsA K "Stuck")) (.type "LookupError") = some false)
def ex60 (K : PySem.W.Frag) : Bool := decide (PySem.W.kitOne K (.ref (clsA K "Stuck")) (.type "ArithmeticError") = some true)
def ex61 (K : PySem.W.Frag) : Bool := decide (PySem.W.kitOne K (.ref (clsA K "Stuck")) (.ref (clsA K "InvalidIndex")) = some false)
def ex62 (K : PySem.W.Frag) : Bool := decide (PySem.W.kitOne K (.ref (clsA K "Stuck")) (.ref (clsA K "Stuck")) = some true)
def ex63 (K : PySem.W.Frag) : Bool := decide (PySem.W.kitOne K (.ref (clsA K "Stuck")) (.ref (clsA K "NothingToUndo")) = some false)
def ex64 (K : PySem.W.Frag) : Bool := decide (PySem.W.excIn K (clsA K "NothingToUndo") [.type "ArithmeticError", .type "Exception", .type "BaseException", .type "object"] "ArithmeticError.__new__" = true)
def ex65 (K : PySem.W.Frag) : Bool := decide (PySem.W.subIn K (.ref (clsA K "NothingToUndo")) (.type "BaseException") = some true)
def ex66 (K : PySem.W.Frag) : Bool := decide (PySem.W.subIn K (.ref (clsA K "NothingToUndo")) (.ref (clsA K "NothingToUndo")) = some true)
def ex67 (K : PySem.W.Frag) : Bool := decide (PySem.W.typeIn K (.ref (clsA K "NothingToUndo")) = some (.type "type"))
def ex68 (K : PySem.W.Frag) : Bool := decide ((PySem.W.clsIn K (clsA K "NothingToUndo")).isSome = true)
def ex69 (K : PySem.W.Frag) : Bool := decide (PySem.W.findIn K (.ref (clsA K "NothingToUndo")) "__getattribute__" = some (some (.builtin "BaseException.__getattribute__")))
def ex70 (K : PySem.W.Frag) : Bool := decide (PySem.W.findIn K (.ref (clsA K "NothingToUndo")) "__getattr__" = some none)
def ex71 (K : PySem.W.Frag) : Bool := decide (PySem.W.hasDictIn K (clsA K "NothingToUndo") = true)
def ex72 (K : PySem.W.Frag) : Bool := decide (PySem.W.findIn K (.ref (clsA K "NothingToUndo")) "__class__" = some (some (.builtin "object.__class__")))
def ex73 (K : PySem.W.Frag) : Bool := decide (PySem.W.mroIn K (clsA K "NothingToUndo") (.type "object") = some true)
def ex74 (K : PySem.W.Frag) : Bool := decide (PySem.W.exmAny K (.ref (clsA K "NothingToUndo")) [.ref (clsA K "WrongValue"), .ref (clsA K "WrongName"), .ref (clsA K "NotPossible")] = some true)
def ex75 (K : PySem.W.Frag) : Bool := decide (PySem.W.kitOne K (.ref (clsA K "NothingToUndo")) (.ref (clsA K "WrongValue")) = some false)
def ex76 (K : PySem.W.Frag) : Bool := decide (PySem.W.kitOne K (.ref (clsA K "NothingToUndo")) (.ref (clsA K "WrongName")) = some false)
def ex77 (K : PySem.W.Frag) : Bool := decide (PySem.W.kitOne K (.ref (clsA K "NothingToUndo")) (.ref (clsA K "NotPossible")) = some true)
def ex78 (K : PySem.W.Frag) : Bool := decide (PySem.W.kitOne K (.ref (clsA K "NothingToUndo")) (.type "ValueError") = some false)
def ex79 (K : PySem.W.Frag) : Bool := decide (PySem.W.kitOne K (.ref (clsA K "NothingToUndo")) (.type "LookupError") = some false)
def ex80 (K : PySem.W.Frag) : Bool := decide (PySem.W.kitOne K (.ref (clsA K "NothingToUndo")) (.type "ArithmeticError") = some true)
def ex81 (K : PySem.W.Frag) : Bool := decide (PySem.W.kitOne K (.ref (clsA K "NothingToUndo")) (.ref (clsA K "InvalidIndex")) = some false)
def ex82 (K : PySem.W.Frag) : Bool := decide (PySem.W.kitOne K (.ref (clsA K "NothingToUndo")) (.ref (clsA K "Stuck")) = some false)
def ex83 (K : PySem.W.Frag) : Bool := decide (PySem.W.kitOne K (.ref (clsA K "NothingToUndo")) (.ref (clsA K "NothingToUndo")) = some true)
def ex84 (K : PySem.W.Frag) : Bool := decide (PySem.W.readsIn K (progC K) (.type "type") = true)
def ex85 (K : PySem.W.Frag) : Bool := decide (PySem.W.specialIn K (.ref (progC K)) "__getattribute__" = some (some (.builtin "type.__getattribute__")))
def ex86 (K : PySem.W.Frag) : Bool := decide (rdB K (progC K) (.type "type") "read" (gs7.p K) = true)
def ex87 (K : PySem.W.Frag) : Bool := decide (PySem.W.fnIn K (gs7.g K) = true)
def ex88 (K : PySem.W.Frag) : Bool := decide (PySem.W.mroIn K (ldC K) (.type "object") = some true)
def ex89 (K : PySem.W.Frag) : Bool := decide (PySem.W.findIn K (.ref (ldC K)) "__eq__" = some (some (.builtin "object.__eq__")))
def ex90 (K : PySem.W.Frag) : Bool := decide (PySem.W.findIn K (.ref (ldC K)) "__ne__" = some (some (.builtin "object.__ne__")))
def exL_0 : List (PySem.W.Frag → Bool) := [ex0, ex1, ex2, ex3, ex4, ex5, ex6, ex7, ex8, ex9]
def exL_1 : List (PySem.W.Frag → Bool) := [ex10, ex11, ex12, ex13, ex14, ex15, ex16, ex17, ex18, ex19]
def exL_2 : List (PySem.W.Frag → Bool) := [ex20, ex21, ex22, ex23, ex24, ex25, ex26, ex27, ex28, ex29]
def exL_3 : List (PySem.W.Frag → Bool) := [ex30, ex31, ex32, ex33, ex34, ex35, ex36, ex37, ex38, ex39]
def exL_4 : List (PySem.W.Frag → Bool) := [ex40, ex41, ex42, ex43, ex44, ex45, ex46, ex47, ex48, ex49]
def exL_5 : List (PySem.W.Frag → Bool) := [ex50, ex51, ex52, ex53, ex54, ex55, ex56, ex57, ex58, ex59]
def exL_6 : List (PySem.W.Frag → Bool) := [ex60, ex61, ex62, ex63, ex64, ex65, ex66, ex67, ex68, ex69]
def exL_7 : List (PySem.W.Frag → Bool) := [ex70, ex71, ex72, ex73, ex74, ex75, ex76, ex77, ex78, ex79]
def exL_8 : List (PySem.W.Frag → Bool) := [ex80, ex81, ex82, ex83, ex84, ex85, ex86, ex87, ex88, ex89]
def exL_9 : List (PySem.W.Frag → Bool) := [ex90]
def exL : List (PySem.W.Frag → Bool) := exL_0 ++ (exL_1 ++ (exL_2 ++ (exL_3 ++ (exL_4 ++ (exL_5 ++ (exL_6 ++ (exL_7 ++ (exL_8 ++ (exL_9)))))))))
def exAll (K : PySem.W.Frag) : Bool := exL.all fun f => f K
def tfL : List He.Defn := [("_law_right", none)]
def namesL_0 : List Str := ["_wall", "WrongValue", "InvalidText", "InvalidIndex", "InvalidPlace", "InvalidPoint", "NotProgram", "InvalidNames", "InvalidSayings", "InvalidBranches"]
def namesL_1 : List Str := ["WrongName", "NotPossible", "Stuck", "NothingToUndo", "MOST_VARIABLES", "MOST_PLACES", "MOST_BRANCHES", "MOST_TESTS", "MOST_SAYINGS", "MOST_NUMBER"]
def namesL_2 : List Str := ["DIGITS", "LETTERS", "is_integer", "is_name", "are_integers", "written_integer", "is_form", "is_saying", "is_branch", "wrong_name"]
def namesL_3 : List Str := ["wrong_saying", "places_in", "wrong_branch", "form_words", "branch_lines", "Program", "program_lines", "text_form", "text_saying", "text_branch"]
def namesL_4 : List Str := ["branch_parts", "text_program", "value_at", "check_program", "check_index", "check_place", "check_point", "blocking", "moved", "is_free"]
def namesL_5 : List Str := ["Stage", "Lead", "_law_begun", "_law_cast", "_law_any_of", "_law_tags", "_law_words", "_law_arm_lines", "_law_lines", "_law_sheet"]
def namesL_6 : List Str := ["_law_spots", "_law_built", "_law_answer", "_law_unit", "_law_shift", "_law_little", "_law_ask", "_law_turn", "_law_arm", "_law_small"]
def namesL_7 : List Str := ["_law_value", "_law_lets", "_law_behind", "_law_spot", "_law_again", "_law_shows", "_law_next", "_law_sort", "_law_right"]
def namesL : List Str := namesL_0 ++ (namesL_1 ++ (namesL_2 ++ (namesL_3 ++ (namesL_4 ++ (namesL_5 ++ (namesL_6 ++ (namesL_7)))))))
abbrev SaysK (h : Heap) (K : PySem.W.Frag) : Prop := SaysY faL fnL tfL exAll gsL h K
section
variable {h : Heap} {K : PySem.W.Frag} {mg : Str → Option Value}
theorem x_at (c : SaysK h K) (i : Nat) {f : PySem.W.Frag → Bool} (e : exL[i]? = some f) : f K = true := List.all_eq_true.mp (show (exL.all fun f => f K) = true from c.exs) f (List.mem_of_getElem? e)
theorem x_0 (c : SaysK h K) : PySem.W.plainGet K (progC K) Str.empty = true := of_decide_eq_true (x_at c 0 (f := ex0) rfl)
theorem x_1 (c : SaysK h K) : PySem.W.isClsIn K (progC K) = true := of_decide_eq_true (x_at c 1 (f := ex1) rfl)
theorem x_2 (c : SaysK h K) : PySem.W.plainOver K (progC K) = true := of_decide_eq_true (x_at c 2 (f := ex2) rfl)
theorem x_3 (c : SaysK h K) : PySem.W.findIn K (.ref (progC K)) "__setattr__" = some (some (.builtin "object.__setattr__")) := of_decide_eq_true (x_at c 3 (f := ex3) rfl)
theorem x_4 (c : SaysK h K) : PySem.W.findIn K (.ref (progC K)) "__class__" = some (some (.builtin "object.__class__")) := of_decide_eq_true (x_at c 4 (f := ex4) rfl)
theorem x_5 (c : SaysK h K) : PySem.W.specialIn K (.builtin "object.__class__") "__get__" = some (some (.builtin "getset_descriptor.__get__")) := of_decide_eq_true (x_at c 5 (f := ex5) rfl)
theorem x_6 (c : SaysK h K) : PySem.W.takesIn K (.builtin "object.__class__") = some true := of_decide_eq_true (x_at c 6 (f := ex6) rfl)
theorem x_7 (c : SaysK h K) : PySem.W.mroIn K (progC K) (.type "object") = some true := of_decide_eq_true (x_at c 7 (f := ex7) rfl)
theorem x_8 (c : SaysK h K) : PySem.W.kitOne K (.ref (progC K)) (.ref (progC K)) = some true := of_decide_eq_true (x_at c 8 (f := ex8) rfl)
theorem x_9 (c : SaysK h K) : ∀ t ∈ ["NoneType", "bool", "int", "str", "tuple", "list"], PySem.W.kitOne K (.type t) (.ref (progC K)) = some false := of_decide_eq_true (x_at c 9 (f := ex9) rfl)
theorem x_10 (c : SaysK h K) : PySem.W.findIn K (.ref (progC K)) "own_branches" = some (some (.ref (He.ma K (progC K) "own_branches"))) := of_decide_eq_true (x_at c 10 (f := ex10) rfl)
theorem x_11 (c : SaysK h K) : PySem.W.specialIn K (.ref (He.ma K (progC K) "own_branches")) "__get__" = some (some (.builtin "member_descriptor.__get__")) := of_decide_eq_true (x_at c 11 (f := ex11) rfl)
theorem x_12 (c : SaysK h K) : PySem.W.takesIn K (.ref (He.ma K (progC K) "own_branches")) = some true := of_decide_eq_true (x_at c 12 (f := ex12) rfl)
theorem x_13 (c : SaysK h K) : PySem.W.typeIn K (.ref (He.ma K (progC K) "own_branches")) = some (.type "member_descriptor") := of_decide_eq_true (x_at c 13 (f := ex13) rfl)
theorem x_14 (c : SaysK h K) : PySem.W.slotIn K (He.ma K (progC K) "own_branches") (progC K) = some 0 := of_decide_eq_true (x_at c 14 (f := ex14) rfl)
theorem x_15 (c : SaysK h K) : PySem.W.findIn K (.ref (progC K)) "own_names" = some (some (.ref (He.ma K (progC K) "own_names"))) := of_decide_eq_true (x_at c 15 (f := ex15) rfl)
theorem x_16 (c : SaysK h K) : PySem.W.specialIn K (.ref (He.ma K (progC K) "own_names")) "__get__" = some (some (.builtin "member_descriptor.__get__")) := of_decide_eq_true (x_at c 16 (f := ex16) rfl)
theorem x_17 (c : SaysK h K) : PySem.W.takesIn K (.ref (He.ma K (progC K) "own_names")) = some true := of_decide_eq_true (x_at c 17 (f := ex17) rfl)
theorem x_18 (c : SaysK h K) : PySem.W.typeIn K (.ref (He.ma K (progC K) "own_names")) = some (.type "member_descriptor") := of_decide_eq_true (x_at c 18 (f := ex18) rfl)
theorem x_19 (c : SaysK h K) : PySem.W.slotIn K (He.ma K (progC K) "own_names") (progC K) = some 1 := of_decide_eq_true (x_at c 19 (f := ex19) rfl)
theorem x_20 (c : SaysK h K) : PySem.W.findIn K (.ref (progC K)) "own_sayings" = some (some (.ref (He.ma K (progC K) "own_sayings"))) := of_decide_eq_true (x_at c 20 (f := ex20) rfl)
theorem x_21 (c : SaysK h K) : PySem.W.specialIn K (.ref (He.ma K (progC K) "own_sayings")) "__get__" = some (some (.builtin "member_descriptor.__get__")) := of_decide_eq_true (x_at c 21 (f := ex21) rfl)
theorem x_22 (c : SaysK h K) : PySem.W.takesIn K (.ref (He.ma K (progC K) "own_sayings")) = some true := of_decide_eq_true (x_at c 22 (f := ex22) rfl)
theorem x_23 (c : SaysK h K) : PySem.W.typeIn K (.ref (He.ma K (progC K) "own_sayings")) = some (.type "member_descriptor") := of_decide_eq_true (x_at c 23 (f := ex23) rfl)
theorem x_24 (c : SaysK h K) : PySem.W.slotIn K (He.ma K (progC K) "own_sayings") (progC K) = some 2 := of_decide_eq_true (x_at c 24 (f := ex24) rfl)
theorem x_25 (c : SaysK h K) : PySem.W.notFirst K (progC K) (.ref (progC K)) = true := of_decide_eq_true (x_at c 25 (f := ex25) rfl)
theorem x_26 (c : SaysK h K) : PySem.W.specialIn K (.ref (gs0.p K)) "__get__" = some (some (.builtin "property.__get__")) := of_decide_eq_true (x_at c 26 (f := ex26) rfl)
theorem x_27 (c : SaysK h K) : PySem.W.takesIn K (.ref (gs0.p K)) = some true := of_decide_eq_true (x_at c 27 (f := ex27) rfl)
theorem x_28 (c : SaysK h K) : PySem.W.specialIn K (.ref (gs1.p K)) "__get__" = some (some (.builtin "property.__get__")) := of_decide_eq_true (x_at c 28 (f := ex28) rfl)
theorem x_29 (c : SaysK h K) : PySem.W.takesIn K (.ref (gs1.p K)) = some true := of_decide_eq_true (x_at c 29 (f := ex29) rfl)
theorem x_30 (c : SaysK h K) : PySem.W.specialIn K (.ref (gs2.p K)) "__get__" = some (some (.builtin "property.__get__")) := of_decide_eq_true (x_at c 30 (f := ex30) rfl)
theorem x_31 (c : SaysK h K) : PySem.W.takesIn K (.ref (gs2.p K)) = some true := of_decide_eq_true (x_at c 31 (f := ex31) rfl)
theorem x_32 (c : SaysK h K) : PySem.W.specialIn K (.ref (gs3.p K)) "__get__" = some (some (.builtin "property.__get__")) := of_decide_eq_true (x_at c 32 (f := ex32) rfl)
theorem x_33 (c : SaysK h K) : PySem.W.takesIn K (.ref (gs3.p K)) = some true := of_decide_eq_true (x_at c 33 (f := ex33) rfl)
theorem x_34 (c : SaysK h K) : PySem.W.specialIn K (.ref (gs4.p K)) "__get__" = some (some (.builtin "property.__get__")) := of_decide_eq_true (x_at c 34 (f := ex34) rfl)
theorem x_35 (c : SaysK h K) : PySem.W.takesIn K (.ref (gs4.p K)) = some true := of_decide_eq_true (x_at c 35 (f := ex35) rfl)
theorem x_36 (c : SaysK h K) : PySem.W.specialIn K (.ref (gs5.p K)) "__get__" = some (some (.builtin "property.__get__")) := of_decide_eq_true (x_at c 36 (f := ex36) rfl)
theorem x_37 (c : SaysK h K) : PySem.W.takesIn K (.ref (gs5.p K)) = some true := of_decide_eq_true (x_at c 37 (f := ex37) rfl)
theorem x_38 (c : SaysK h K) : PySem.W.specialIn K (.ref (gs6.p K)) "__get__" = some (some (.builtin "property.__get__")) := of_decide_eq_true (x_at c 38 (f := ex38) rfl)
theorem x_39 (c : SaysK h K) : PySem.W.takesIn K (.ref (gs6.p K)) = some true := of_decide_eq_true (x_at c 39 (f := ex39) rfl)
theorem x_40 (c : SaysK h K) : excB K (clsA K "Stuck") 1 "ArithmeticError.__new__" [.type "ArithmeticError", .type "Exception", .type "BaseException", .type "object"] = true := of_decide_eq_true (x_at c 40 (f := ex40) rfl)
theorem x_41 (c : SaysK h K) : PySem.W.findIn K (.ref (clsA K "Stuck")) "__setattr__" = some (some (.builtin "object.__setattr__")) := of_decide_eq_true (x_at c 41 (f := ex41) rfl)
theorem x_42 (c : SaysK h K) : PySem.W.subIn K (.ref (clsA K "Stuck")) (.type "BaseException") = some true := of_decide_eq_true (x_at c 42 (f := ex42) rfl)
theorem x_43 (c : SaysK h K) : PySem.W.typeIn K (.ref (clsA K "Stuck")) = some (.type "type") := of_decide_eq_true (x_at c 43 (f := ex43) rfl)
theorem x_44 (c : SaysK h K) : PySem.W.keepIn K (.ref (clsA K "Stuck")) = true := of_decide_eq_true (x_at c 44 (f := ex44) rfl)
theorem x_45 (c : SaysK h K) : (PySem.W.clsIn K (clsA K "Stuck")).isSome = true := of_decide_eq_true (x_at c 45 (f := ex45) rfl)
theorem x_46 (c : SaysK h K) : PySem.W.findIn K (.ref (clsA K "Stuck")) "__getattribute__" = some (some (.builtin "BaseException.__getattribute__")) := of_decide_eq_true (x_at c 46 (f := ex46) rfl)
theorem x_47 (c : SaysK h K) : PySem.W.findIn K (.ref (clsA K "Stuck")) "__getattr__" = some none := of_decide_eq_true (x_at c 47 (f := ex47) rfl)
theorem x_48 (c : SaysK h K) : PySem.W.hasDictIn K (clsA K "Stuck") = true := of_decide_eq_true (x_at c 48 (f := ex48) rfl)
theorem x_49 (c : SaysK h K) : PySem.W.findIn K (.ref (clsA K "Stuck")) "__class__" = some (some (.builtin "object.__class__")) := of_decide_eq_true (x_at c 49 (f := ex49) rfl)
theorem x_50 (c : SaysK h K) : PySem.W.mroIn K (clsA K "Stuck") (.type "object") = some true := of_decide_eq_true (x_at c 50 (f := ex50) rfl)
theorem x_51 (c : SaysK h K) : PySem.W.findIn K (.ref (clsA K "Stuck")) "__init__" = some (some (.ref (He.ma K (He.ga K "Stuck") "__init__"))) := of_decide_eq_true (x_at c 51 (f := ex51) rfl)
theorem x_52 (c : SaysK h K) : PySem.W.typeIn K (.ref (He.ma K (He.ga K "Stuck") "__init__")) = some (.type "function") := of_decide_eq_true (x_at c 52 (f := ex52) rfl)
theorem x_53 (c : SaysK h K) : PySem.W.findIn K (.ref (clsA K "Stuck")) "index" = some none := of_decide_eq_true (x_at c 53 (f := ex53) rfl)
theorem x_54 (c : SaysK h K) : PySem.W.exmAny K (.ref (clsA K "Stuck")) [.ref (clsA K "WrongValue"), .ref (clsA K "WrongName"), .ref (clsA K "NotPossible")] = some true := of_decide_eq_true (x_at c 54 (f := ex54) rfl)
theorem x_55 (c : SaysK h K) : PySem.W.kitOne K (.ref (clsA K "Stuck")) (.ref (clsA K "WrongValue")) = some false := of_decide_eq_true (x_at c 55 (f := ex55) rfl)
theorem x_56 (c : SaysK h K) : PySem.W.kitOne K (.ref (clsA K "Stuck")) (.ref (clsA K "WrongName")) = some false := of_decide_eq_true (x_at c 56 (f := ex56) rfl)
theorem x_57 (c : SaysK h K) : PySem.W.kitOne K (.ref (clsA K "Stuck")) (.ref (clsA K "NotPossible")) = some true := of_decide_eq_true (x_at c 57 (f := ex57) rfl)
theorem x_58 (c : SaysK h K) : PySem.W.kitOne K (.ref (clsA K "Stuck")) (.type "ValueError") = some false := of_decide_eq_true (x_at c 58 (f := ex58) rfl)
theorem x_59 (c : SaysK h K) : PySem.W.kitOne K (.ref (clsA K "Stuck")) (.type "LookupError") = some false := of_decide_eq_true (x_at c 59 (f := ex59) rfl)
theorem x_60 (c : SaysK h K) : PySem.W.kitOne K (.ref (clsA K "Stuck")) (.type "ArithmeticError") = some true := of_decide_eq_true (x_at c 60 (f := ex60) rfl)
theorem x_61 (c : SaysK h K) : PySem.W.kitOne K (.ref (clsA K "Stuck")) (.ref (clsA K "InvalidIndex")) = some false := of_decide_eq_true (x_at c 61 (f := ex61) rfl)
theorem x_62 (c : SaysK h K) : PySem.W.kitOne K (.ref (clsA K "Stuck")) (.ref (clsA K "Stuck")) = some true := of_decide_eq_true (x_at c 62 (f := ex62) rfl)
theorem x_63 (c : SaysK h K) : PySem.W.kitOne K (.ref (clsA K "Stuck")) (.ref (clsA K "NothingToUndo")) = some false := of_decide_eq_true (x_at c 63 (f := ex63) rfl)
theorem x_64 (c : SaysK h K) : PySem.W.excIn K (clsA K "NothingToUndo") [.type "ArithmeticError", .type "Exception", .type "BaseException", .type "object"] "ArithmeticError.__new__" = true := of_decide_eq_true (x_at c 64 (f := ex64) rfl)
theorem x_65 (c : SaysK h K) : PySem.W.subIn K (.ref (clsA K "NothingToUndo")) (.type "BaseException") = some true := of_decide_eq_true (x_at c 65 (f := ex65) rfl)
theorem x_66 (c : SaysK h K) : PySem.W.subIn K (.ref (clsA K "NothingToUndo")) (.ref (clsA K "NothingToUndo")) = some true := of_decide_eq_true (x_at c 66 (f := ex66) rfl)
theorem x_67 (c : SaysK h K) : PySem.W.typeIn K (.ref (clsA K "NothingToUndo")) = some (.type "type") := of_decide_eq_true (x_at c 67 (f := ex67) rfl)
theorem x_68 (c : SaysK h K) : (PySem.W.clsIn K (clsA K "NothingToUndo")).isSome = true := of_decide_eq_true (x_at c 68 (f := ex68) rfl)
theorem x_69 (c : SaysK h K) : PySem.W.findIn K (.ref (clsA K "NothingToUndo")) "__getattribute__" = some (some (.builtin "BaseException.__getattribute__")) := of_decide_eq_true (x_at c 69 (f := ex69) rfl)
theorem x_70 (c : SaysK h K) : PySem.W.findIn K (.ref (clsA K "NothingToUndo")) "__getattr__" = some none := of_decide_eq_true (x_at c 70 (f := ex70) rfl)
theorem x_71 (c : SaysK h K) : PySem.W.hasDictIn K (clsA K "NothingToUndo") = true := of_decide_eq_true (x_at c 71 (f := ex71) rfl)
theorem x_72 (c : SaysK h K) : PySem.W.findIn K (.ref (clsA K "NothingToUndo")) "__class__" = some (some (.builtin "object.__class__")) := of_decide_eq_true (x_at c 72 (f := ex72) rfl)
theorem x_73 (c : SaysK h K) : PySem.W.mroIn K (clsA K "NothingToUndo") (.type "object") = some true := of_decide_eq_true (x_at c 73 (f := ex73) rfl)
theorem x_74 (c : SaysK h K) : PySem.W.exmAny K (.ref (clsA K "NothingToUndo")) [.ref (clsA K "WrongValue"), .ref (clsA K "WrongName"), .ref (clsA K "NotPossible")] = some true := of_decide_eq_true (x_at c 74 (f := ex74) rfl)
theorem x_75 (c : SaysK h K) : PySem.W.kitOne K (.ref (clsA K "NothingToUndo")) (.ref (clsA K "WrongValue")) = some false := of_decide_eq_true (x_at c 75 (f := ex75) rfl)
theorem x_76 (c : SaysK h K) : PySem.W.kitOne K (.ref (clsA K "NothingToUndo")) (.ref (clsA K "WrongName")) = some false := of_decide_eq_true (x_at c 76 (f := ex76) rfl)
theorem x_77 (c : SaysK h K) : PySem.W.kitOne K (.ref (clsA K "NothingToUndo")) (.ref (clsA K "NotPossible")) = some true := of_decide_eq_true (x_at c 77 (f := ex77) rfl)
theorem x_78 (c : SaysK h K) : PySem.W.kitOne K (.ref (clsA K "NothingToUndo")) (.type "ValueError") = some false := of_decide_eq_true (x_at c 78 (f := ex78) rfl)
theorem x_79 (c : SaysK h K) : PySem.W.kitOne K (.ref (clsA K "NothingToUndo")) (.type "LookupError") = some false := of_decide_eq_true (x_at c 79 (f := ex79) rfl)
theorem x_80 (c : SaysK h K) : PySem.W.kitOne K (.ref (clsA K "NothingToUndo")) (.type "ArithmeticError") = some true := of_decide_eq_true (x_at c 80 (f := ex80) rfl)
theorem x_81 (c : SaysK h K) : PySem.W.kitOne K (.ref (clsA K "NothingToUndo")) (.ref (clsA K "InvalidIndex")) = some false := of_decide_eq_true (x_at c 81 (f := ex81) rfl)
theorem x_82 (c : SaysK h K) : PySem.W.kitOne K (.ref (clsA K "NothingToUndo")) (.ref (clsA K "Stuck")) = some false := of_decide_eq_true (x_at c 82 (f := ex82) rfl)
theorem x_83 (c : SaysK h K) : PySem.W.kitOne K (.ref (clsA K "NothingToUndo")) (.ref (clsA K "NothingToUndo")) = some true := of_decide_eq_true (x_at c 83 (f := ex83) rfl)
theorem x_84 (c : SaysK h K) : PySem.W.readsIn K (progC K) (.type "type") = true := of_decide_eq_true (x_at c 84 (f := ex84) rfl)
theorem x_85 (c : SaysK h K) : PySem.W.specialIn K (.ref (progC K)) "__getattribute__" = some (some (.builtin "type.__getattribute__")) := of_decide_eq_true (x_at c 85 (f := ex85) rfl)
theorem x_86 (c : SaysK h K) : rdB K (progC K) (.type "type") "read" (gs7.p K) = true := of_decide_eq_true (x_at c 86 (f := ex86) rfl)
theorem x_87 (c : SaysK h K) : PySem.W.fnIn K (gs7.g K) = true := of_decide_eq_true (x_at c 87 (f := ex87) rfl)
theorem x_88 (c : SaysK h K) : PySem.W.mroIn K (ldC K) (.type "object") = some true := of_decide_eq_true (x_at c 88 (f := ex88) rfl)
theorem x_89 (c : SaysK h K) : PySem.W.findIn K (.ref (ldC K)) "__eq__" = some (some (.builtin "object.__eq__")) := of_decide_eq_true (x_at c 89 (f := ex89) rfl)
theorem x_90 (c : SaysK h K) : PySem.W.findIn K (.ref (ldC K)) "__ne__" = some (some (.builtin "object.__ne__")) := of_decide_eq_true (x_at c 90 (f := ex90) rfl)
theorem fx_abs (X : K.In h) (G : h.Ns mainGlobals mg) (c : SaysK h K) : mg "abs" = none := He.free_ok X G (c.d.fact 0 (f := .free "abs") rfl)
theorem fx_all (X : K.In h) (G : h.Ns mainGlobals mg) (c : SaysK h K) : mg "all" = none := He.free_ok X G (c.d.fact 1 (f := .free "all") rfl)
theorem fx_any (X : K.In h) (G : h.Ns mainGlobals mg) (c : SaysK h K) : mg "any" = none := He.free_ok X G (c.d.fact 2 (f := .free "any") rfl)
theorem fx_bool (X : K.In h) (G : h.Ns mainGlobals mg) (c : SaysK h K) : mg "bool" = none := He.free_ok X G (c.d.fact 3 (f := .free "bool") rfl)
theorem fx_c_DIGITS (X : K.In h) (G : h.Ns mainGlobals mg) (c : SaysK h K) : ∃ t, mg "DIGITS" = some (.str "0123456789" t) := He.str_ok X G (c.d.fact 4 (f := .str "DIGITS" "0123456789") rfl)
theorem fx_c_LETTERS (X : K.In h) (G : h.Ns mainGlobals mg) (c : SaysK h K) : ∃ t, mg "LETTERS" = some (.str "abcdefghijklmnopqrstuvwxyz" t) := He.str_ok X G (c.d.fact 5 (f := .str "LETTERS" "abcdefghijklmnopqrstuvwxyz") rfl)
theorem fx_c_MOST_BRANCHES (X : K.In h) (G : h.Ns mainGlobals mg) (c : SaysK h K) : ∃ t, mg "MOST_BRANCHES" = some (.int 5 t) := He.int_ok X G (c.d.fact 6 (f := .int "MOST_BRANCHES" 5) rfl)
theorem fx_c_MOST_NUMBER (X : K.In h) (G : h.Ns mainGlobals mg) (c : SaysK h K) : ∃ t, mg "MOST_NUMBER" = some (.int 1000000 t) := He.int_ok X G (c.d.fact 7 (f := .int "MOST_NUMBER" 1000000) rfl)
theorem fx_c_MOST_PLACES (X : K.In h) (G : h.Ns mainGlobals mg) (c : SaysK h K) : ∃ t, mg "MOST_PLACES" = some (.int 3 t) := He.int_ok X G (c.d.fact 8 (f := .int "MOST_PLACES" 3) rfl)
theorem fx_c_MOST_SAYINGS (X : K.In h) (G : h.Ns mainGlobals mg) (c : SaysK h K) : ∃ t, mg "MOST_SAYINGS" = some (.int 3 t) := He.int_ok X G (c.d.fact 9 (f := .int "MOST_SAYINGS" 3) rfl)
theorem fx_c_MOST_TESTS (X : K.In h) (G : h.Ns mainGlobals mg) (c : SaysK h K) : ∃ t, mg "MOST_TESTS" = some (.int 3 t) := He.int_ok X G (c.d.fact 10 (f := .int "MOST_TESTS" 3) rfl)
theorem fx_c_MOST_VARIABLES (X : K.In h) (G : h.Ns mainGlobals mg) (c : SaysK h K) : ∃ t, mg "MOST_VARIABLES" = some (.int 3 t) := He.int_ok X G (c.d.fact 11 (f := .int "MOST_VARIABLES" 3) rfl)
theorem fx_divmod (X : K.In h) (G : h.Ns mainGlobals mg) (c : SaysK h K) : mg "divmod" = none := He.free_ok X G (c.d.fact 12 (f := .free "divmod") rfl)
theorem fx_enumerate (X : K.In h) (G : h.Ns mainGlobals mg) (c : SaysK h K) : mg "enumerate" = none := He.free_ok X G (c.d.fact 13 (f := .free "enumerate") rfl)
theorem fx_int (X : K.In h) (G : h.Ns mainGlobals mg) (c : SaysK h K) : mg "int" = none := He.free_ok X G (c.d.fact 14 (f := .free "int") rfl)
theorem fx_isinstance (X : K.In h) (G : h.Ns mainGlobals mg) (c : SaysK h K) : mg "isinstance" = none := He.free_ok X G (c.d.fact 15 (f := .free "isinstance") rfl)
theorem fx_ld (X : K.In h) (G : h.Ns mainGlobals mg) (c : SaysK h K) : LdFx K := ⟨(by rw [show stgC K = He.ga K "Stage" from clsA_ga K "Stage"]; exact He.cls_ok (c.d.fact 16 (f := .cls "Stage") rfl)), (by rw [show stgC K = He.ga K "Stage" from clsA_ga K "Stage"]; exact He.noat_ok (c.d.fact 17 (f := .noat "Stage" "state") rfl)), (by rw [show stgC K = He.ga K "Stage" from clsA_ga K "Stage"]; exact He.noat_ok (c.d.fact 18 (f := .noat "Stage" "road") rfl)), (by rw [show stgC K = He.ga K "Stage" from clsA_ga K "Stage"]; exact He.noat_ok (c.d.fact 19 (f := .noat "Stage" "ahead") rfl)), (by rw [show ldC K = He.ga K "Lead" from clsA_ga K "Lead"]; exact He.cls_ok (c.d.fact 20 (f := .cls "Lead") rfl)), (by rw [show ldC K = He.ga K "Lead" from clsA_ga K "Lead"]; exact He.noat_ok (c.d.fact 21 (f := .noat "Lead" "led") rfl)), (by rw [show ldC K = He.ga K "Lead" from clsA_ga K "Lead"]; exact He.noat_ok (c.d.fact 22 (f := .noat "Lead" "stage") rfl))⟩
theorem fx_len (X : K.In h) (G : h.Ns mainGlobals mg) (c : SaysK h K) : mg "len" = none := He.free_ok X G (c.d.fact 23 (f := .free "len") rfl)
theorem fx_max (X : K.In h) (G : h.Ns mainGlobals mg) (c : SaysK h K) : mg "max" = none := He.free_ok X G (c.d.fact 24 (f := .free "max") rfl)
theorem fx_min (X : K.In h) (G : h.Ns mainGlobals mg) (c : SaysK h K) : mg "min" = none := He.free_ok X G (c.d.fact 25 (f := .free "min") rfl)
theorem fx_pr (X : K.In h) (G : h.Ns mainGlobals mg) (c : SaysK h K) : PrFx K := ⟨⟨(x_0 c), (x_1 c), (x_2 c), (x_3 c)⟩, ⟨He.ma K (progC K) "own_branches", (x_10 c), (x_11 c), (x_12 c), (x_13 c), (x_14 c), by decide⟩, ⟨He.ma K (progC K) "own_names", (x_15 c), (x_16 c), (x_17 c), (x_18 c), (x_19 c), by decide⟩, ⟨He.ma K (progC K) "own_sayings", (x_20 c), (x_21 c), (x_22 c), (x_23 c), (x_24 c), by decide⟩, ⟨(x_4 c), (x_5 c), (x_6 c), (x_7 c)⟩, (x_8 c), (x_9 c)⟩
theorem fx_mpr (X : K.In h) (G : h.Ns mainGlobals mg) (c : SaysK h K) : mg "Program" = some (.ref (progC K)) := by
    rw [show progC K = He.ga K "Program" from progC_ga K]
    exact He.glo_ok X G (c.d.fact 26 (f := .glo "Program") rfl)
theorem fx_range (X : K.In h) (G : h.Ns mainGlobals mg) (c : SaysK h K) : mg "range" = none := He.free_ok X G (c.d.fact 27 (f := .free "range") rfl)
theorem fx_repr (X : K.In h) (G : h.Ns mainGlobals mg) (c : SaysK h K) : mg "repr" = none := He.free_ok X G (c.d.fact 28 (f := .free "repr") rfl)
theorem fx_str (X : K.In h) (G : h.Ns mainGlobals mg) (c : SaysK h K) : mg "str" = none := He.free_ok X G (c.d.fact 29 (f := .free "str") rfl)
theorem fx_sum (X : K.In h) (G : h.Ns mainGlobals mg) (c : SaysK h K) : mg "sum" = none := He.free_ok X G (c.d.fact 30 (f := .free "sum") rfl)
theorem fx_tuple (X : K.In h) (G : h.Ns mainGlobals mg) (c : SaysK h K) : mg "tuple" = none := He.free_ok X G (c.d.fact 31 (f := .free "tuple") rfl)
theorem fx_nf (X : K.In h) (G : h.Ns mainGlobals mg) (c : SaysK h K) : PySem.W.notFirst K (progC K) (.ref (progC K)) = true := (x_25 c)
theorem fx_f_is_integer (X : K.In h) (G : h.Ns mainGlobals mg) (c : SaysK h K) : DefK K mg "is_integer" (top 24) := let ⟨fd, h⟩ := c.d.def_ 0 (d := fn0) rfl; ⟨_, fd, h, He.glo_ok X G (c.d.fact 32 (f := .glo "is_integer") rfl)⟩
theorem fx_f_is_name (X : K.In h) (G : h.Ns mainGlobals mg) (c : SaysK h K) : DefK K mg "is_name" (top 25) := let ⟨fd, h⟩ := c.d.def_ 1 (d := fn1) rfl; ⟨_, fd, h, He.glo_ok X G (c.d.fact 33 (f := .glo "is_name") rfl)⟩
theorem fx_f_are_integers (X : K.In h) (G : h.Ns mainGlobals mg) (c : SaysK h K) : DefK K mg "are_integers" (top 26) := let ⟨fd, h⟩ := c.d.def_ 2 (d := fn2) rfl; ⟨_, fd, h, He.glo_ok X G (c.d.fact 34 (f := .glo "are_integers") rfl)⟩
theorem fx_f_written_integer (X : K.In h) (G : h.Ns mainGlobals mg) (c : SaysK h K) : DefK K mg "written_integer" (top 27) := let ⟨fd, h⟩ := c.d.def_ 3 (d := fn3) rfl; ⟨_, fd, h, He.glo_ok X G (c.d.fact 35 (f := .glo "written_integer") rfl)⟩
theorem fx_f_is_form (X : K.In h) (G : h.Ns mainGlobals mg) (c : SaysK h K) : DefK K mg "is_form" (top 29) := let ⟨fd, h⟩ := c.d.def_ 4 (d := fn4) rfl; ⟨_, fd, h, He.glo_ok X G (c.d.fact 36 (f := .glo "is_form") rfl)⟩
theorem fx_f_is_saying (X : K.In h) (G : h.Ns mainGlobals mg) (c : SaysK h K) : DefK K mg "is_saying" (top 30) := let ⟨fd, h⟩ := c.d.def_ 5 (d := fn5) rfl; ⟨_, fd, h, He.glo_ok X G (c.d.fact 37 (f := .glo "is_saying") rfl)⟩
theorem fx_f_is_branch (X : K.In h) (G : h.Ns mainGlobals mg) (c : SaysK h K) : DefK K mg "is_branch" (top 31) := let ⟨fd, h⟩ := c.d.def_ 6 (d := fn6) rfl; ⟨_, fd, h, He.glo_ok X G (c.d.fact 38 (f := .glo "is_branch") rfl)⟩
theorem fx_f_wrong_name (X : K.In h) (G : h.Ns mainGlobals mg) (c : SaysK h K) : DefK K mg "wrong_name" (top 32) := let ⟨fd, h⟩ := c.d.def_ 7 (d := fn7) rfl; ⟨_, fd, h, He.glo_ok X G (c.d.fact 39 (f := .glo "wrong_name") rfl)⟩
theorem fx_f_wrong_saying (X : K.In h) (G : h.Ns mainGlobals mg) (c : SaysK h K) : DefK K mg "wrong_saying" (top 33) := let ⟨fd, h⟩ := c.d.def_ 8 (d := fn8) rfl; ⟨_, fd, h, He.glo_ok X G (c.d.fact 40 (f := .glo "wrong_saying") rfl)⟩
theorem fx_f_places_in (X : K.In h) (G : h.Ns mainGlobals mg) (c : SaysK h K) : DefK K mg "places_in" (top 34) := let ⟨fd, h⟩ := c.d.def_ 9 (d := fn9) rfl; ⟨_, fd, h, He.glo_ok X G (c.d.fact 41 (f := .glo "places_in") rfl)⟩
theorem fx_p_Program__places (X : K.In h) (G : h.Ns mainGlobals mg) (c : SaysK h K) : PrpK K (progC K) "places" "Program.places" (meth 38 6) := by
    have g := c.get gs0 (List.mem_of_getElem? (i := 0) rfl)
    obtain ⟨fd, h⟩ := g.fn
    refine ⟨_, _, fd, ⟨?_, (x_26 c), (x_27 c), g.rec_⟩, h⟩
    rw [show progC K = He.ga K "Program" from progC_ga K]
    exact g.at_
theorem fx_f_wrong_branch (X : K.In h) (G : h.Ns mainGlobals mg) (c : SaysK h K) : DefK K mg "wrong_branch" (top 35) := let ⟨fd, h⟩ := c.d.def_ 10 (d := fn10) rfl; ⟨_, fd, h, He.glo_ok X G (c.d.fact 42 (f := .glo "wrong_branch") rfl)⟩
theorem fx_i_Program (X : K.In h) (G : h.Ns mainGlobals mg) (c : SaysK h K) : IniK K (progC K) "Program.__init__" (meth 38 1) := by
    obtain ⟨fd, h⟩ := c.d.def_ 11 (d := fn11) rfl
    rw [show progC K = He.ga K "Program" from progC_ga K]
    exact ⟨_, fd, h, He.mkr_ok (c.d.fact 43 (f := .mkr "Program") rfl)⟩
theorem fx_g_Program (X : K.In h) (G : h.Ns mainGlobals mg) (c : SaysK h K) : mg "Program" = some (.ref (progC K)) := by
    rw [show progC K = He.ga K "Program" from progC_ga K]
    exact He.glo_ok X G (c.d.fact 26 (f := .glo "Program") rfl)
theorem fx_m_Program____len__ (X : K.In h) (G : h.Ns mainGlobals mg) (c : SaysK h K) : MetK K (progC K) "__len__" "Program.__len__" (meth 38 10) := by
    obtain ⟨fd, h⟩ := c.d.def_ 12 (d := fn12) rfl
    have k := He.meth_ok (c.d.fact 44 (f := .meth "Program" "__len__") rfl)
    rw [show progC K = He.ga K "Program" from progC_ga K]
    exact ⟨_, fd, h, k.at_, k.fn⟩
theorem fx_f_form_words (X : K.In h) (G : h.Ns mainGlobals mg) (c : SaysK h K) : DefK K mg "form_words" (top 36) := let ⟨fd, h⟩ := c.d.def_ 13 (d := fn13) rfl; ⟨_, fd, h, He.glo_ok X G (c.d.fact 45 (f := .glo "form_words") rfl)⟩
theorem fx_f_branch_lines (X : K.In h) (G : h.Ns mainGlobals mg) (c : SaysK h K) : DefK K mg "branch_lines" (top 37) := let ⟨fd, h⟩ := c.d.def_ 14 (d := fn14) rfl; ⟨_, fd, h, He.glo_ok X G (c.d.fact 46 (f := .glo "branch_lines") rfl)⟩
theorem fx_f_program_lines (X : K.In h) (G : h.Ns mainGlobals mg) (c : SaysK h K) : DefK K mg "program_lines" (top 39) := let ⟨fd, h⟩ := c.d.def_ 15 (d := fn15) rfl; ⟨_, fd, h, He.glo_ok X G (c.d.fact 47 (f := .glo "program_lines") rfl)⟩
theorem fx_m_Program____eq__ (X : K.In h) (G : h.Ns mainGlobals mg) (c : SaysK h K) : MetK K (progC K) "__eq__" "Program.__eq__" (meth 38 11) := by
    obtain ⟨fd, h⟩ := c.d.def_ 16 (d := fn16) rfl
    have k := He.meth_ok (c.d.fact 48 (f := .meth "Program" "__eq__") rfl)
    rw [show progC K = He.ga K "Program" from progC_ga K]
    exact ⟨_, fd, h, k.at_, k.fn⟩
theorem fx_f_text_form (X : K.In h) (G : h.Ns mainGlobals mg) (c : SaysK h K) : DefK K mg "text_form" (top 40) := let ⟨fd, h⟩ := c.d.def_ 17 (d := fn17) rfl; ⟨_, fd, h, He.glo_ok X G (c.d.fact 49 (f := .glo "text_form") rfl)⟩
theorem fx_f_text_saying (X : K.In h) (G : h.Ns mainGlobals mg) (c : SaysK h K) : DefK K mg "text_saying" (top 41) := let ⟨fd, h⟩ := c.d.def_ 18 (d := fn18) rfl; ⟨_, fd, h, He.glo_ok X G (c.d.fact 50 (f := .glo "text_saying") rfl)⟩
theorem fx_f_text_branch (X : K.In h) (G : h.Ns mainGlobals mg) (c : SaysK h K) : DefK K mg "text_branch" (top 42) := let ⟨fd, h⟩ := c.d.def_ 19 (d := fn19) rfl; ⟨_, fd, h, He.glo_ok X G (c.d.fact 51 (f := .glo "text_branch") rfl)⟩
theorem fx_f_text_program (X : K.In h) (G : h.Ns mainGlobals mg) (c : SaysK h K) : DefK K mg "text_program" (top 44) := let ⟨fd, h⟩ := c.d.def_ 20 (d := fn20) rfl; ⟨_, fd, h, He.glo_ok X G (c.d.fact 52 (f := .glo "text_program") rfl)⟩
theorem fx_f_value_at (X : K.In h) (G : h.Ns mainGlobals mg) (c : SaysK h K) : DefK K mg "value_at" (top 45) := let ⟨fd, h⟩ := c.d.def_ 21 (d := fn21) rfl; ⟨_, fd, h, He.glo_ok X G (c.d.fact 53 (f := .glo "value_at") rfl)⟩
theorem fx_f_blocking (X : K.In h) (G : h.Ns mainGlobals mg) (c : SaysK h K) : DefK K mg "blocking" (top 51) := let ⟨fd, h⟩ := c.d.def_ 22 (d := fn22) rfl; ⟨_, fd, h, He.glo_ok X G (c.d.fact 54 (f := .glo "blocking") rfl)⟩
theorem fx_f_moved (X : K.In h) (G : h.Ns mainGlobals mg) (c : SaysK h K) : DefK K mg "moved" (top 52) := let ⟨fd, h⟩ := c.d.def_ 23 (d := fn23) rfl; ⟨_, fd, h, He.glo_ok X G (c.d.fact 55 (f := .glo "moved") rfl)⟩
theorem fx_f_is_free (X : K.In h) (G : h.Ns mainGlobals mg) (c : SaysK h K) : DefK K mg "is_free" (top 53) := let ⟨fd, h⟩ := c.d.def_ 24 (d := fn24) rfl; ⟨_, fd, h, He.glo_ok X G (c.d.fact 56 (f := .glo "is_free") rfl)⟩
theorem fx_f_check_program (X : K.In h) (G : h.Ns mainGlobals mg) (c : SaysK h K) : DefK K mg "check_program" (top 46) := let ⟨fd, h⟩ := c.d.def_ 25 (d := fn25) rfl; ⟨_, fd, h, He.glo_ok X G (c.d.fact 57 (f := .glo "check_program") rfl)⟩
theorem fx_f_check_index (X : K.In h) (G : h.Ns mainGlobals mg) (c : SaysK h K) : DefK K mg "check_index" (top 47) := let ⟨fd, h⟩ := c.d.def_ 26 (d := fn26) rfl; ⟨_, fd, h, He.glo_ok X G (c.d.fact 58 (f := .glo "check_index") rfl)⟩
theorem fx_f_check_place (X : K.In h) (G : h.Ns mainGlobals mg) (c : SaysK h K) : DefK K mg "check_place" (top 48) := let ⟨fd, h⟩ := c.d.def_ 27 (d := fn27) rfl; ⟨_, fd, h, He.glo_ok X G (c.d.fact 59 (f := .glo "check_place") rfl)⟩
theorem fx_f_check_point (X : K.In h) (G : h.Ns mainGlobals mg) (c : SaysK h K) : DefK K mg "check_point" (top 49) := let ⟨fd, h⟩ := c.d.def_ 28 (d := fn28) rfl; ⟨_, fd, h, He.glo_ok X G (c.d.fact 60 (f := .glo "check_point") rfl)⟩
theorem fx_i_Stage (X : K.In h) (G : h.Ns mainGlobals mg) (c : SaysK h K) : IniK K (stgC K) "Stage.__init__" (meth 55 0) := by
    obtain ⟨fd, h⟩ := c.d.def_ 29 (d := fn29) rfl
    rw [show stgC K = He.ga K "Stage" from clsA_ga K "Stage"]
    exact ⟨_, fd, h, He.mkr_ok (c.d.fact 61 (f := .mkr "Stage") rfl)⟩
theorem fx_g_Stage (X : K.In h) (G : h.Ns mainGlobals mg) (c : SaysK h K) : mg "Stage" = some (.ref (stgC K)) := by
    rw [show stgC K = He.ga K "Stage" from clsA_ga K "Stage"]
    exact He.glo_ok X G (c.d.fact 62 (f := .glo "Stage") rfl)
theorem fx_i_Lead (X : K.In h) (G : h.Ns mainGlobals mg) (c : SaysK h K) : IniK K (ldC K) "Lead.__init__" (meth 56 0) := by
    obtain ⟨fd, h⟩ := c.d.def_ 30 (d := fn30) rfl
    rw [show ldC K = He.ga K "Lead" from clsA_ga K "Lead"]
    exact ⟨_, fd, h, He.mkr_ok (c.d.fact 63 (f := .mkr "Lead") rfl)⟩
theorem fx_g_Lead (X : K.In h) (G : h.Ns mainGlobals mg) (c : SaysK h K) : mg "Lead" = some (.ref (ldC K)) := by
    rw [show ldC K = He.ga K "Lead" from clsA_ga K "Lead"]
    exact He.glo_ok X G (c.d.fact 64 (f := .glo "Lead") rfl)
theorem fx_f__law_any_of (X : K.In h) (G : h.Ns mainGlobals mg) (c : SaysK h K) : DefK K mg "_law_any_of" (top 60) := let ⟨fd, h⟩ := c.d.def_ 31 (d := fn31) rfl; ⟨_, fd, h, He.glo_ok X G (c.d.fact 65 (f := .glo "_law_any_of") rfl)⟩
theorem fx_f__law_tags (X : K.In h) (G : h.Ns mainGlobals mg) (c : SaysK h K) : DefK K mg "_law_tags" (top 61) := let ⟨fd, h⟩ := c.d.def_ 32 (d := fn32) rfl; ⟨_, fd, h, He.glo_ok X G (c.d.fact 66 (f := .glo "_law_tags") rfl)⟩
theorem fx_f__law_words (X : K.In h) (G : h.Ns mainGlobals mg) (c : SaysK h K) : DefK K mg "_law_words" (top 62) := let ⟨fd, h⟩ := c.d.def_ 33 (d := fn33) rfl; ⟨_, fd, h, He.glo_ok X G (c.d.fact 67 (f := .glo "_law_words") rfl)⟩
theorem fx_f__law_arm_lines (X : K.In h) (G : h.Ns mainGlobals mg) (c : SaysK h K) : DefK K mg "_law_arm_lines" (top 63) := let ⟨fd, h⟩ := c.d.def_ 34 (d := fn34) rfl; ⟨_, fd, h, He.glo_ok X G (c.d.fact 68 (f := .glo "_law_arm_lines") rfl)⟩
theorem fx_f__law_lines (X : K.In h) (G : h.Ns mainGlobals mg) (c : SaysK h K) : DefK K mg "_law_lines" (top 64) := let ⟨fd, h⟩ := c.d.def_ 35 (d := fn35) rfl; ⟨_, fd, h, He.glo_ok X G (c.d.fact 69 (f := .glo "_law_lines") rfl)⟩
theorem fx_f__law_sheet (X : K.In h) (G : h.Ns mainGlobals mg) (c : SaysK h K) : DefK K mg "_law_sheet" (top 65) := let ⟨fd, h⟩ := c.d.def_ 36 (d := fn36) rfl; ⟨_, fd, h, He.glo_ok X G (c.d.fact 70 (f := .glo "_law_sheet") rfl)⟩
theorem fx_f__law_spots (X : K.In h) (G : h.Ns mainGlobals mg) (c : SaysK h K) : DefK K mg "_law_spots" (top 66) := let ⟨fd, h⟩ := c.d.def_ 37 (d := fn37) rfl; ⟨_, fd, h, He.glo_ok X G (c.d.fact 71 (f := .glo "_law_spots") rfl)⟩
theorem fx_f__law_unit (X : K.In h) (G : h.Ns mainGlobals mg) (c : SaysK h K) : DefK K mg "_law_unit" (top 69) := let ⟨fd, h⟩ := c.d.def_ 38 (d := fn38) rfl; ⟨_, fd, h, He.glo_ok X G (c.d.fact 72 (f := .glo "_law_unit") rfl)⟩
theorem fx_f__law_shift (X : K.In h) (G : h.Ns mainGlobals mg) (c : SaysK h K) : DefK K mg "_law_shift" (top 70) := let ⟨fd, h⟩ := c.d.def_ 39 (d := fn39) rfl; ⟨_, fd, h, He.glo_ok X G (c.d.fact 73 (f := .glo "_law_shift") rfl)⟩
theorem fx_f__law_little (X : K.In h) (G : h.Ns mainGlobals mg) (c : SaysK h K) : DefK K mg "_law_little" (top 71) := let ⟨fd, h⟩ := c.d.def_ 40 (d := fn40) rfl; ⟨_, fd, h, He.glo_ok X G (c.d.fact 74 (f := .glo "_law_little") rfl)⟩
theorem fx_f__law_ask (X : K.In h) (G : h.Ns mainGlobals mg) (c : SaysK h K) : DefK K mg "_law_ask" (top 72) := let ⟨fd, h⟩ := c.d.def_ 41 (d := fn41) rfl; ⟨_, fd, h, He.glo_ok X G (c.d.fact 75 (f := .glo "_law_ask") rfl)⟩
theorem fx_f__law_turn (X : K.In h) (G : h.Ns mainGlobals mg) (c : SaysK h K) : DefK K mg "_law_turn" (top 73) := let ⟨fd, h⟩ := c.d.def_ 42 (d := fn42) rfl; ⟨_, fd, h, He.glo_ok X G (c.d.fact 76 (f := .glo "_law_turn") rfl)⟩
theorem fx_f__law_arm (X : K.In h) (G : h.Ns mainGlobals mg) (c : SaysK h K) : DefK K mg "_law_arm" (top 74) := let ⟨fd, h⟩ := c.d.def_ 43 (d := fn43) rfl; ⟨_, fd, h, He.glo_ok X G (c.d.fact 77 (f := .glo "_law_arm") rfl)⟩
theorem fx_f__law_small (X : K.In h) (G : h.Ns mainGlobals mg) (c : SaysK h K) : DefK K mg "_law_small" (top 75) := let ⟨fd, h⟩ := c.d.def_ 44 (d := fn44) rfl; ⟨_, fd, h, He.glo_ok X G (c.d.fact 78 (f := .glo "_law_small") rfl)⟩
theorem fx_f__law_value (X : K.In h) (G : h.Ns mainGlobals mg) (c : SaysK h K) : DefK K mg "_law_value" (top 76) := let ⟨fd, h⟩ := c.d.def_ 45 (d := fn45) rfl; ⟨_, fd, h, He.glo_ok X G (c.d.fact 79 (f := .glo "_law_value") rfl)⟩
theorem fx_f__law_lets (X : K.In h) (G : h.Ns mainGlobals mg) (c : SaysK h K) : DefK K mg "_law_lets" (top 77) := let ⟨fd, h⟩ := c.d.def_ 46 (d := fn46) rfl; ⟨_, fd, h, He.glo_ok X G (c.d.fact 80 (f := .glo "_law_lets") rfl)⟩
theorem fx_f__law_behind (X : K.In h) (G : h.Ns mainGlobals mg) (c : SaysK h K) : DefK K mg "_law_behind" (top 78) := let ⟨fd, h⟩ := c.d.def_ 47 (d := fn47) rfl; ⟨_, fd, h, He.glo_ok X G (c.d.fact 81 (f := .glo "_law_behind") rfl)⟩
theorem fx_f__law_spot (X : K.In h) (G : h.Ns mainGlobals mg) (c : SaysK h K) : DefK K mg "_law_spot" (top 79) := let ⟨fd, h⟩ := c.d.def_ 48 (d := fn48) rfl; ⟨_, fd, h, He.glo_ok X G (c.d.fact 82 (f := .glo "_law_spot") rfl)⟩
theorem fx_f__law_again (X : K.In h) (G : h.Ns mainGlobals mg) (c : SaysK h K) : DefK K mg "_law_again" (top 80) := let ⟨fd, h⟩ := c.d.def_ 49 (d := fn49) rfl; ⟨_, fd, h, He.glo_ok X G (c.d.fact 83 (f := .glo "_law_again") rfl)⟩
theorem fx_f__law_next (X : K.In h) (G : h.Ns mainGlobals mg) (c : SaysK h K) : DefK K mg "_law_next" (top 82) := let ⟨fd, h⟩ := c.d.def_ 50 (d := fn50) rfl; ⟨_, fd, h, He.glo_ok X G (c.d.fact 84 (f := .glo "_law_next") rfl)⟩
theorem fx_p_Lead__place (X : K.In h) (G : h.Ns mainGlobals mg) (c : SaysK h K) : PrpK K (ldC K) "place" "Lead.place" (meth 56 2) := by
    have g := c.get gs1 (List.mem_of_getElem? (i := 1) rfl)
    obtain ⟨fd, h⟩ := g.fn
    refine ⟨_, _, fd, ⟨?_, (x_28 c), (x_29 c), g.rec_⟩, h⟩
    rw [show ldC K = He.ga K "Lead" from clsA_ga K "Lead"]
    exact g.at_
theorem fx_p_Lead__point (X : K.In h) (G : h.Ns mainGlobals mg) (c : SaysK h K) : PrpK K (ldC K) "point" "Lead.point" (meth 56 3) := by
    have g := c.get gs2 (List.mem_of_getElem? (i := 2) rfl)
    obtain ⟨fd, h⟩ := g.fn
    refine ⟨_, _, fd, ⟨?_, (x_30 c), (x_31 c), g.rec_⟩, h⟩
    rw [show ldC K = He.ga K "Lead" from clsA_ga K "Lead"]
    exact g.at_
theorem fx_p_Lead__taken (X : K.In h) (G : h.Ns mainGlobals mg) (c : SaysK h K) : PrpK K (ldC K) "taken" "Lead.taken" (meth 56 4) := by
    have g := c.get gs3 (List.mem_of_getElem? (i := 3) rfl)
    obtain ⟨fd, h⟩ := g.fn
    refine ⟨_, _, fd, ⟨?_, (x_32 c), (x_33 c), g.rec_⟩, h⟩
    rw [show ldC K = He.ga K "Lead" from clsA_ga K "Lead"]
    exact g.at_
theorem fx_p_Lead__ready (X : K.In h) (G : h.Ns mainGlobals mg) (c : SaysK h K) : PrpK K (ldC K) "ready" "Lead.ready" (meth 56 5) := by
    have g := c.get gs4 (List.mem_of_getElem? (i := 4) rfl)
    obtain ⟨fd, h⟩ := g.fn
    refine ⟨_, _, fd, ⟨?_, (x_34 c), (x_35 c), g.rec_⟩, h⟩
    rw [show ldC K = He.ga K "Lead" from clsA_ga K "Lead"]
    exact g.at_
theorem fx_p_Lead__again (X : K.In h) (G : h.Ns mainGlobals mg) (c : SaysK h K) : PrpK K (ldC K) "again" "Lead.again" (meth 56 6) := by
    have g := c.get gs5 (List.mem_of_getElem? (i := 5) rfl)
    obtain ⟨fd, h⟩ := g.fn
    refine ⟨_, _, fd, ⟨?_, (x_36 c), (x_37 c), g.rec_⟩, h⟩
    rw [show ldC K = He.ga K "Lead" from clsA_ga K "Lead"]
    exact g.at_
theorem fx_p_Lead__program (X : K.In h) (G : h.Ns mainGlobals mg) (c : SaysK h K) : PrpK K (ldC K) "program" "Lead.program" (meth 56 1) := by
    have g := c.get gs6 (List.mem_of_getElem? (i := 6) rfl)
    obtain ⟨fd, h⟩ := g.fn
    refine ⟨_, _, fd, ⟨?_, (x_38 c), (x_39 c), g.rec_⟩, h⟩
    rw [show ldC K = He.ga K "Lead" from clsA_ga K "Lead"]
    exact g.at_
theorem fx_m_Lead____len__ (X : K.In h) (G : h.Ns mainGlobals mg) (c : SaysK h K) : MetK K (ldC K) "__len__" "Lead.__len__" (meth 56 11) := by
    obtain ⟨fd, h⟩ := c.d.def_ 51 (d := fn51) rfl
    have k := He.meth_ok (c.d.fact 85 (f := .meth "Lead" "__len__") rfl)
    rw [show ldC K = He.ga K "Lead" from clsA_ga K "Lead"]
    exact ⟨_, fd, h, k.at_, k.fn⟩
theorem fx_m_Lead____bool__ (X : K.In h) (G : h.Ns mainGlobals mg) (c : SaysK h K) : MetK K (ldC K) "__bool__" "Lead.__bool__" (meth 56 12) := by
    obtain ⟨fd, h⟩ := c.d.def_ 52 (d := fn52) rfl
    have k := He.meth_ok (c.d.fact 86 (f := .meth "Lead" "__bool__") rfl)
    rw [show ldC K = He.ga K "Lead" from clsA_ga K "Lead"]
    exact ⟨_, fd, h, k.at_, k.fn⟩
theorem fx_f__law_shows (X : K.In h) (G : h.Ns mainGlobals mg) (c : SaysK h K) : DefK K mg "_law_shows" (top 81) := let ⟨fd, h⟩ := c.d.def_ 53 (d := fn53) rfl; ⟨_, fd, h, He.glo_ok X G (c.d.fact 87 (f := .glo "_law_shows") rfl)⟩
theorem fx_exS (X : K.In h) (G : h.Ns mainGlobals mg) (c : SaysK h K) : ExK K (clsA K "Stuck") "ArithmeticError.__new__" [.type "ArithmeticError", .type "Exception", .type "BaseException", .type "object"] := ⟨excB_ok (x_40 c), (x_41 c), (x_42 c), (x_43 c), (x_44 c)⟩
theorem fx_exQ (X : K.In h) (G : h.Ns mainGlobals mg) (c : SaysK h K) : ExcQ K (clsA K "Stuck") := ⟨(x_45 c), (x_46 c), (x_47 c), (x_42 c), (x_48 c), (x_49 c), (x_5 c), (x_6 c), (x_50 c)⟩
theorem fx_exi (X : K.In h) (G : h.Ns mainGlobals mg) (c : SaysK h K) : ∃ f fd, FunD K "__init__" "Stuck.__init__" (defArgs (meth 13 0)) (defBody (meth 13 0)) (defScope (meth 13 0)) [] [] f fd ∧ PySem.W.findIn K (.ref (clsA K "Stuck")) "__init__" = some (some (.ref f)) ∧ PySem.W.typeIn K (.ref f) = some (.type "function") := by
    obtain ⟨fd, h⟩ := c.d.def_ 54 (d := fn54) rfl
    exact ⟨_, fd, h, (x_51 c), (x_52 c)⟩
theorem fx_exn (X : K.In h) (G : h.Ns mainGlobals mg) (c : SaysK h K) : PySem.W.findIn K (.ref (clsA K "Stuck")) "index" = some none := (x_53 c)
theorem fx_gS (X : K.In h) (G : h.Ns mainGlobals mg) (c : SaysK h K) : mg "Stuck" = some (.ref (clsA K "Stuck")) := by
    rw [show clsA K "Stuck" = He.ga K "Stuck" from clsA_ga K "Stuck"]
    exact He.glo_ok X G (c.d.fact 88 (f := .glo "Stuck") rfl)
theorem fx_gWV (X : K.In h) (G : h.Ns mainGlobals mg) (c : SaysK h K) : mg "WrongValue" = some (.ref (clsA K "WrongValue")) := by
    rw [show clsA K "WrongValue" = He.ga K "WrongValue" from clsA_ga K "WrongValue"]
    exact He.glo_ok X G (c.d.fact 89 (f := .glo "WrongValue") rfl)
theorem fx_gWN (X : K.In h) (G : h.Ns mainGlobals mg) (c : SaysK h K) : mg "WrongName" = some (.ref (clsA K "WrongName")) := by
    rw [show clsA K "WrongName" = He.ga K "WrongName" from clsA_ga K "WrongName"]
    exact He.glo_ok X G (c.d.fact 90 (f := .glo "WrongName") rfl)
theorem fx_gNP (X : K.In h) (G : h.Ns mainGlobals mg) (c : SaysK h K) : mg "NotPossible" = some (.ref (clsA K "NotPossible")) := by
    rw [show clsA K "NotPossible" = He.ga K "NotPossible" from clsA_ga K "NotPossible"]
    exact He.glo_ok X G (c.d.fact 91 (f := .glo "NotPossible") rfl)
theorem fx_gII (X : K.In h) (G : h.Ns mainGlobals mg) (c : SaysK h K) : mg "InvalidIndex" = some (.ref (clsA K "InvalidIndex")) := by
    rw [show clsA K "InvalidIndex" = He.ga K "InvalidIndex" from clsA_ga K "InvalidIndex"]
    exact He.glo_ok X G (c.d.fact 92 (f := .glo "InvalidIndex") rfl)
theorem fx_gNU (X : K.In h) (G : h.Ns mainGlobals mg) (c : SaysK h K) : mg "NothingToUndo" = some (.ref (clsA K "NothingToUndo")) := by
    rw [show clsA K "NothingToUndo" = He.ga K "NothingToUndo" from clsA_ga K "NothingToUndo"]
    exact He.glo_ok X G (c.d.fact 93 (f := .glo "NothingToUndo") rfl)
theorem fx_fVE (X : K.In h) (G : h.Ns mainGlobals mg) (c : SaysK h K) : mg "ValueError" = none := He.free_ok X G (c.d.fact 94 (f := .free "ValueError") rfl)
theorem fx_fLE (X : K.In h) (G : h.Ns mainGlobals mg) (c : SaysK h K) : mg "LookupError" = none := He.free_ok X G (c.d.fact 95 (f := .free "LookupError") rfl)
theorem fx_fAE (X : K.In h) (G : h.Ns mainGlobals mg) (c : SaysK h K) : mg "ArithmeticError" = none := He.free_ok X G (c.d.fact 96 (f := .free "ArithmeticError") rfl)
theorem fx_ex3 (X : K.In h) (G : h.Ns mainGlobals mg) (c : SaysK h K) : PySem.W.exmAny K (.ref (clsA K "Stuck")) [.ref (clsA K "WrongValue"), .ref (clsA K "WrongName"), .ref (clsA K "NotPossible")] = some true := (x_54 c)
theorem fx_k1 (X : K.In h) (G : h.Ns mainGlobals mg) (c : SaysK h K) : PySem.W.kitOne K (.ref (clsA K "Stuck")) (.ref (clsA K "WrongValue")) = some false := (x_55 c)
theorem fx_k2 (X : K.In h) (G : h.Ns mainGlobals mg) (c : SaysK h K) : PySem.W.kitOne K (.ref (clsA K "Stuck")) (.ref (clsA K "WrongName")) = some false := (x_56 c)
theorem fx_k3 (X : K.In h) (G : h.Ns mainGlobals mg) (c : SaysK h K) : PySem.W.kitOne K (.ref (clsA K "Stuck")) (.ref (clsA K "NotPossible")) = some true := (x_57 c)
theorem fx_k4 (X : K.In h) (G : h.Ns mainGlobals mg) (c : SaysK h K) : PySem.W.kitOne K (.ref (clsA K "Stuck")) (.type "ValueError") = some false := (x_58 c)
theorem fx_k5 (X : K.In h) (G : h.Ns mainGlobals mg) (c : SaysK h K) : PySem.W.kitOne K (.ref (clsA K "Stuck")) (.type "LookupError") = some false := (x_59 c)
theorem fx_k6 (X : K.In h) (G : h.Ns mainGlobals mg) (c : SaysK h K) : PySem.W.kitOne K (.ref (clsA K "Stuck")) (.type "ArithmeticError") = some true := (x_60 c)
theorem fx_k7 (X : K.In h) (G : h.Ns mainGlobals mg) (c : SaysK h K) : PySem.W.kitOne K (.ref (clsA K "Stuck")) (.ref (clsA K "InvalidIndex")) = some false := (x_61 c)
theorem fx_k8 (X : K.In h) (G : h.Ns mainGlobals mg) (c : SaysK h K) : PySem.W.kitOne K (.ref (clsA K "Stuck")) (.ref (clsA K "Stuck")) = some true := (x_62 c)
theorem fx_k9 (X : K.In h) (G : h.Ns mainGlobals mg) (c : SaysK h K) : PySem.W.kitOne K (.ref (clsA K "Stuck")) (.ref (clsA K "NothingToUndo")) = some false := (x_63 c)
theorem fx_d_take (X : K.In h) (G : h.Ns mainGlobals mg) (c : SaysK h K) : ∃ f fd, FunD K "take" "Lead.take" (defArgs (meth 56 7)) (defBody (meth 56 7)) (defScope (meth 56 7)) [] [] f fd ∧ Meth K (ldC K) "take" f := by
    obtain ⟨fd, h⟩ := c.d.def_ 55 (d := fn55) rfl
    rw [show ldC K = He.ga K "Lead" from clsA_ga K "Lead"]
    exact ⟨_, fd, h, He.meth_ok (c.d.fact 97 (f := .meth "Lead" "take") rfl)⟩
theorem fx_d_answer (X : K.In h) (G : h.Ns mainGlobals mg) (c : SaysK h K) : DefK K mg "_law_answer" (top 68) := let ⟨fd, h⟩ := c.d.def_ 56 (d := fn56) rfl; ⟨_, fd, h, He.glo_ok X G (c.d.fact 98 (f := .glo "_law_answer") rfl)⟩
theorem fx_d_sort (X : K.In h) (G : h.Ns mainGlobals mg) (c : SaysK h K) : DefK K mg "_law_sort" (top 83) := let ⟨fd, h⟩ := c.d.def_ 57 (d := fn57) rfl; ⟨_, fd, h, He.glo_ok X G (c.d.fact 99 (f := .glo "_law_sort") rfl)⟩
theorem fx_d_right (X : K.In h) (G : h.Ns mainGlobals mg) (c : SaysK h K) : DefK K mg "_law_right" (top 84) := let ⟨fd, h⟩ := c.d.def_ 58 (d := fn58) rfl; ⟨_, fd, h, He.glo_ok X G (c.d.fact 100 (f := .glo "_law_right") rfl)⟩
theorem fx_d_built (X : K.In h) (G : h.Ns mainGlobals mg) (c : SaysK h K) : DefK K mg "_law_built" (top 67) := let ⟨fd, h⟩ := c.d.def_ 59 (d := fn59) rfl; ⟨_, fd, h, He.glo_ok X G (c.d.fact 101 (f := .glo "_law_built") rfl)⟩
theorem fx_d_begun (X : K.In h) (G : h.Ns mainGlobals mg) (c : SaysK h K) : DefK K mg "_law_begun" (top 58) := let ⟨fd, h⟩ := c.d.def_ 60 (d := fn60) rfl; ⟨_, fd, h, He.glo_ok X G (c.d.fact 102 (f := .glo "_law_begun") rfl)⟩
theorem fx_d_cast (X : K.In h) (G : h.Ns mainGlobals mg) (c : SaysK h K) : DefK K mg "_law_cast" (top 59) := let ⟨fd, h⟩ := c.d.def_ 61 (d := fn61) rfl; ⟨_, fd, h, He.glo_ok X G (c.d.fact 103 (f := .glo "_law_cast") rfl)⟩
theorem fx_d_parts (X : K.In h) (G : h.Ns mainGlobals mg) (c : SaysK h K) : DefK K mg "branch_parts" (top 43) := let ⟨fd, h⟩ := c.d.def_ 62 (d := fn62) rfl; ⟨_, fd, h, He.glo_ok X G (c.d.fact 104 (f := .glo "branch_parts") rfl)⟩
theorem fx_d_undo (X : K.In h) (G : h.Ns mainGlobals mg) (c : SaysK h K) : ∃ f fd, FunD K "undo" "Lead.undo" (defArgs (meth 56 8)) (defBody (meth 56 8)) (defScope (meth 56 8)) [] [] f fd ∧ Meth K (ldC K) "undo" f := by
    obtain ⟨fd, h⟩ := c.d.def_ 63 (d := fn63) rfl
    rw [show ldC K = He.ga K "Lead" from clsA_ga K "Lead"]
    exact ⟨_, fd, h, He.meth_ok (c.d.fact 105 (f := .meth "Lead" "undo") rfl)⟩
theorem fx_nX (X : K.In h) (G : h.Ns mainGlobals mg) (c : SaysK h K) : PySem.W.excIn K (clsA K "NothingToUndo") [.type "ArithmeticError", .type "Exception", .type "BaseException", .type "object"] "ArithmeticError.__new__" = true := (x_64 c)
theorem fx_nB (X : K.In h) (G : h.Ns mainGlobals mg) (c : SaysK h K) : PySem.W.subIn K (.ref (clsA K "NothingToUndo")) (.type "BaseException") = some true := (x_65 c)
theorem fx_nS (X : K.In h) (G : h.Ns mainGlobals mg) (c : SaysK h K) : PySem.W.subIn K (.ref (clsA K "NothingToUndo")) (.ref (clsA K "NothingToUndo")) = some true := (x_66 c)
theorem fx_nT (X : K.In h) (G : h.Ns mainGlobals mg) (c : SaysK h K) : PySem.W.typeIn K (.ref (clsA K "NothingToUndo")) = some (.type "type") := (x_67 c)
theorem fx_nQ (X : K.In h) (G : h.Ns mainGlobals mg) (c : SaysK h K) : ExcQ K (clsA K "NothingToUndo") := ⟨(x_68 c), (x_69 c), (x_70 c), (x_65 c), (x_71 c), (x_72 c), (x_5 c), (x_6 c), (x_73 c)⟩
theorem fx_nx3 (X : K.In h) (G : h.Ns mainGlobals mg) (c : SaysK h K) : PySem.W.exmAny K (.ref (clsA K "NothingToUndo")) [.ref (clsA K "WrongValue"), .ref (clsA K "WrongName"), .ref (clsA K "NotPossible")] = some true := (x_74 c)
theorem fx_n1 (X : K.In h) (G : h.Ns mainGlobals mg) (c : SaysK h K) : PySem.W.kitOne K (.ref (clsA K "NothingToUndo")) (.ref (clsA K "WrongValue")) = some false := (x_75 c)
theorem fx_n2 (X : K.In h) (G : h.Ns mainGlobals mg) (c : SaysK h K) : PySem.W.kitOne K (.ref (clsA K "NothingToUndo")) (.ref (clsA K "WrongName")) = some false := (x_76 c)
theorem fx_n3 (X : K.In h) (G : h.Ns mainGlobals mg) (c : SaysK h K) : PySem.W.kitOne K (.ref (clsA K "NothingToUndo")) (.ref (clsA K "NotPossible")) = some true := (x_77 c)
theorem fx_n4 (X : K.In h) (G : h.Ns mainGlobals mg) (c : SaysK h K) : PySem.W.kitOne K (.ref (clsA K "NothingToUndo")) (.type "ValueError") = some false := (x_78 c)
theorem fx_n5 (X : K.In h) (G : h.Ns mainGlobals mg) (c : SaysK h K) : PySem.W.kitOne K (.ref (clsA K "NothingToUndo")) (.type "LookupError") = some false := (x_79 c)
theorem fx_n6 (X : K.In h) (G : h.Ns mainGlobals mg) (c : SaysK h K) : PySem.W.kitOne K (.ref (clsA K "NothingToUndo")) (.type "ArithmeticError") = some true := (x_80 c)
theorem fx_n7 (X : K.In h) (G : h.Ns mainGlobals mg) (c : SaysK h K) : PySem.W.kitOne K (.ref (clsA K "NothingToUndo")) (.ref (clsA K "InvalidIndex")) = some false := (x_81 c)
theorem fx_n8 (X : K.In h) (G : h.Ns mainGlobals mg) (c : SaysK h K) : PySem.W.kitOne K (.ref (clsA K "NothingToUndo")) (.ref (clsA K "Stuck")) = some false := (x_82 c)
theorem fx_n9 (X : K.In h) (G : h.Ns mainGlobals mg) (c : SaysK h K) : PySem.W.kitOne K (.ref (clsA K "NothingToUndo")) (.ref (clsA K "NothingToUndo")) = some true := (x_83 c)
theorem factsX (X : K.In h) (G : h.Ns mainGlobals mg) (c : SaysK h K) : Fx K mg where
  abs := fx_abs X G c
  all := fx_all X G c
  any := fx_any X G c
  bool := fx_bool X G c
  c_DIGITS := fx_c_DIGITS X G c
  c_LETTERS := fx_c_LETTERS X G c
  c_MOST_BRANCHES := fx_c_MOST_BRANCHES X G c
  c_MOST_NUMBER := fx_c_MOST_NUMBER X G c
  c_MOST_PLACES := fx_c_MOST_PLACES X G c
  c_MOST_SAYINGS := fx_c_MOST_SAYINGS X G c
  c_MOST_TESTS := fx_c_MOST_TESTS X G c
  c_MOST_VARIABLES := fx_c_MOST_VARIABLES X G c
  divmod := fx_divmod X G c
  enumerate := fx_enumerate X G c
  int := fx_int X G c
  isinstance := fx_isinstance X G c
  ld := fx_ld X G c
  len := fx_len X G c
  max := fx_max X G c
  min := fx_min X G c
  pr := fx_pr X G c
  mpr := fx_mpr X G c
  range := fx_range X G c
  repr := fx_repr X G c
  str := fx_str X G c
  sum := fx_sum X G c
  tuple := fx_tuple X G c
  nf := fx_nf X G c
  f_is_integer := fx_f_is_integer X G c
  f_is_name := fx_f_is_name X G c
  f_are_integers := fx_f_are_integers X G c
  f_written_integer := fx_f_written_integer X G c
  f_is_form := fx_f_is_form X G c
  f_is_saying := fx_f_is_saying X G c
  f_is_branch := fx_f_is_branch X G c
  f_wrong_name := fx_f_wrong_name X G c
  f_wrong_saying := fx_f_wrong_saying X G c
  f_places_in := fx_f_places_in X G c
  p_Program__places := fx_p_Program__places X G c
  f_wrong_branch := fx_f_wrong_branch X G c
  i_Program := fx_i_Program X G c
  g_Program := fx_g_Program X G c
  m_Program____len__ := fx_m_Program____len__ X G c
  f_form_words := fx_f_form_words X G c
  f_branch_lines := fx_f_branch_lines X G c
  f_program_lines := fx_f_program_lines X G c
  m_Program____eq__ := fx_m_Program____eq__ X G c
  f_text_form := fx_f_text_form X G c
  f_text_saying := fx_f_text_saying X G c
  f_text_branch := fx_f_text_branch X G c
  f_text_program := fx_f_text_program X G c
  f_value_at := fx_f_value_at X G c
  f_blocking := fx_f_blocking X G c
  f_moved := fx_f_moved X G c
  f_is_free := fx_f_is_free X G c
  f_check_program := fx_f_check_program X G c
  f_check_index := fx_f_check_index X G c
  f_check_place := fx_f_check_place X G c
  f_check_point := fx_f_check_point X G c
  i_Stage := fx_i_Stage X G c
  g_Stage := fx_g_Stage X G c
  i_Lead := fx_i_Lead X G c
  g_Lead := fx_g_Lead X G c
  f__law_any_of := fx_f__law_any_of X G c
  f__law_tags := fx_f__law_tags X G c
  f__law_words := fx_f__law_words X G c
  f__law_arm_lines := fx_f__law_arm_lines X G c
  f__law_lines := fx_f__law_lines X G c
  f__law_sheet := fx_f__law_sheet X G c
  f__law_spots := fx_f__law_spots X G c
  f__law_unit := fx_f__law_unit X G c
  f__law_shift := fx_f__law_shift X G c
  f__law_little := fx_f__law_little X G c
  f__law_ask := fx_f__law_ask X G c
  f__law_turn := fx_f__law_turn X G c
  f__law_arm := fx_f__law_arm X G c
  f__law_small := fx_f__law_small X G c
  f__law_value := fx_f__law_value X G c
  f__law_lets := fx_f__law_lets X G c
  f__law_behind := fx_f__law_behind X G c
  f__law_spot := fx_f__law_spot X G c
  f__law_again := fx_f__law_again X G c
  f__law_next := fx_f__law_next X G c
  p_Lead__place := fx_p_Lead__place X G c
  p_Lead__point := fx_p_Lead__point X G c
  p_Lead__taken := fx_p_Lead__taken X G c
  p_Lead__ready := fx_p_Lead__ready X G c
  p_Lead__again := fx_p_Lead__again X G c
  p_Lead__program := fx_p_Lead__program X G c
  m_Lead____len__ := fx_m_Lead____len__ X G c
  m_Lead____bool__ := fx_m_Lead____bool__ X G c
  f__law_shows := fx_f__law_shows X G c
  exS := fx_exS X G c
  exQ := fx_exQ X G c
  exi := fx_exi X G c
  exn := fx_exn X G c
  gS := fx_gS X G c
  gWV := fx_gWV X G c
  gWN := fx_gWN X G c
  gNP := fx_gNP X G c
  gII := fx_gII X G c
  gNU := fx_gNU X G c
  fVE := fx_fVE X G c
  fLE := fx_fLE X G c
  fAE := fx_fAE X G c
  ex3 := fx_ex3 X G c
  k1 := fx_k1 X G c
  k2 := fx_k2 X G c
  k3 := fx_k3 X G c
  k4 := fx_k4 X G c
  k5 := fx_k5 X G c
  k6 := fx_k6 X G c
  k7 := fx_k7 X G c
  k8 := fx_k8 X G c
  k9 := fx_k9 X G c
  d_take := fx_d_take X G c
  d_answer := fx_d_answer X G c
  d_sort := fx_d_sort X G c
  d_right := fx_d_right X G c
  d_built := fx_d_built X G c
  d_begun := fx_d_begun X G c
  d_cast := fx_d_cast X G c
  d_parts := fx_d_parts X G c
  d_undo := fx_d_undo X G c
  nX := fx_nX X G c
  nB := fx_nB X G c
  nS := fx_nS X G c
  nT := fx_nT X G c
  nQ := fx_nQ X G c
  nx3 := fx_nx3 X G c
  n1 := fx_n1 X G c
  n2 := fx_n2 X G c
  n3 := fx_n3 X G c
  n4 := fx_n4 X G c
  n5 := fx_n5 X G c
  n6 := fx_n6 X G c
  n7 := fx_n7 X G c
  n8 := fx_n8 X G c
  n9 := fx_n9 X G c
theorem factsY (X : K.In h) (G : h.Ns mainGlobals mg) (c : SaysK h K) : Fy K where
  rd := by
    have g := c.get gs7 (List.mem_of_getElem? (i := 7) rfl)
    obtain ⟨fd, h⟩ := g.fn
    exact ⟨.type "type", gs7.p K, gs7.g K, fd, h, ⟨(x_84 c), (x_85 c)⟩, ⟨(rdB_ok (x_86 c)), g.rec_, (x_87 c)⟩⟩
  cmp := ⟨(x_88 c), (x_89 c), (x_90 c)⟩
theorem law_d (X : K.In h) (G : h.Ns mainGlobals mg) (c : SaysK h K) : (∃ fd, FunD K "law" "law" (defArgs (top 85)) (defBody (top 85)) (defScope (top 85)) [] [] (He.ga K "law") fd) ∧ mg "law" = some (.ref (He.ga K "law")) ∧ mg "_law_right" = some (.ref (He.ga K "_law_right")) := ⟨c.d.def_ 64 (d := fn64) rfl, He.glo_ok X G (c.d.fact 106 (f := .glo "law") rfl), He.glo_ok X G (c.d.fact 100 (f := .glo "_law_right") rfl)⟩
end
end KK
set_option maxRecDepth 100000
set_option maxHeartbeats 0
namespace KK
open PySem PySem.Spec PyProof.Rows L2 DL
abbrev RR : PySem.W.OpenRow := PySem.W.OpenLaw.row PySem.Challenge.rw_fallranks_k57_whole_leads_taken_back
abbrev hk : PySem.W.Hook := hookY faL fnL tfL exAll gsL
def ob (s : PySem.W.SharedT) : AlY := obsY faL fnL tfL exAll gsL (HandSHeadRun.getT s)
theorem ob_eq (s : PySem.W.SharedT) : ob s = hk.obs s.abs := obsY_eq (HandSHeadRun.getT_eq s)
theorem run (w : World) : HandSHeadRun.RunEq RR (PySem.W.view RR.prog [85]) hk ob 20000 namesL w := by
  intro os
  kernel_rfl
end KK
set_option maxRecDepth 100000
set_option maxHeartbeats 4000000
namespace KK
open PySem PySem.Spec PyProof.Rows L2 DL
/-- the law, from the facts of the module -/
theorem law_fn {P : Program} {w : World} {K : PySem.W.Frag} {mg : Str → Option Value} {base : Heap} (E : Fx K mg) (Y : Fy K) {c Pt : Addr} (TB : LamX.TabB base mg c Pt) (hcd : ∀ f (oc : Value) (od : Option Addr) (osl : Array (Option Value)) (gd : FuncData), mg "_law_right" = some (.ref f) → K.lookup f = some ⟨oc, od, .func gd, osl⟩ → gd.code = .ref c)
    {f : Addr} {fd : FuncData} (F : FunD K "law" "law" (defArgs (top 85)) (defBody (top 85)) (defScope (top 85)) [] [] f fd) : FnG P w K mg base 15 f fd ["_law_script"] (spLaw K Pt) := by
  have C_is_integer := c_is_integer (P := P) (w := w) (base := base) E 
  have C_is_name := c_is_name (P := P) (w := w) (base := base) E 
  have C_are_integers := c_are_integers (P := P) (w := w) (base := base) E C_is_integer
  have C_written_integer := c_written_integer (P := P) (w := w) (base := base) E 
  have C_is_form := c_is_form (P := P) (w := w) (base := base) E C_are_integers
  have C_is_saying := c_is_saying (P := P) (w := w) (base := base) E C_is_name C_is_form
  have C_is_branch := c_is_branch (P := P) (w := w) (base := base) E C_is_name C_is_form
  have C_wrong_name := c_wrong_name (P := P) (w := w) (base := base) E C_is_name
  have C_wrong_saying := c_wrong_saying (P := P) (w := w) (base := base) E C_is_saying
  have C_places_in := c_places_in (P := P) (w := w) (base := base) E 
  have C_Program__places := c_Program__places (P := P) (w := w) (base := base) E C_places_in
  have C_wrong_branch := c_wrong_branch (P := P) (w := w) (base := base) E C_is_branch C_places_in
  have C_Program____len__ := c_Program____len__ (P := P) (w := w) (base := base) E 
  have C_form_words := c_form_words (P := P) (w := w) (base := base) E 
  have C_branch_lines := c_branch_lines (P := P) (w := w) (base := base) E C_form_words
  have C_program_lines := c_program_lines (P := P) (w := w) (base := base) E C_form_words C_branch_lines
  have C_Program____eq__ := c_Program____eq__ (P := P) (w := w) (base := base) E C_program_lines
  have C_text_form := c_text_form (P := P) (w := w) (base := base) E C_written_integer
  have C_text_saying := c_text_saying (P := P) (w := w) (base := base) E C_text_form
  have C_text_branch := c_text_branch (P := P) (w := w) (base := base) E C_text_form
  have C_value_at := c_value_at (P := P) (w := w) (base := base) E 
  have C_blocking := c_blocking (P := P) (w := w) (base := base) E C_value_at
  have C_moved := c_moved (P := P) (w := w) (base := base) E C_value_at
  have C_is_free := c_is_free (P := P) (w := w) (base := base) E C_blocking
  have C_check_program := c_check_program (P := P) (w := w) (base := base) E 
  have C_check_index := c_check_index (P := P) (w := w) (base := base) E C_is_integer C_Program____len__
  have C_check_place := c_check_place (P := P) (w := w) (base := base) E C_Program__places
  have C_check_point := c_check_point (P := P) (w := w) (base := base) E C_are_integers
  have C__law_words := c__law_words (P := P) (w := w) (base := base) E 
  have C__law_arm_lines := c__law_arm_lines (P := P) (w := w) (base := base) E C__law_words
  have C__law_lines := c__law_lines (P := P) (w := w) (base := base) E C__law_words C__law_arm_lines
  have C__law_sheet := c__law_sheet (P := P) (w := w) (base := base) E C__law_lines
  have C__law_spots := c__law_spots (P := P) (w := w) (base := base) E 
  have C__law_unit := c__law_unit (P := P) (w := w) (base := base) E 
  have C__law_shift := c__law_shift (P := P) (w := w) (base := base) E 
  have C__law_value := c__law_value (P := P) (w := w) (base := base) E 
  have C__law_lets := c__law_lets (P := P) (w := w) (base := base) E C__law_value
  have C__law_behind := c__law_behind (P := P) (w := w) (base := base) E C__law_value
  have C__law_again := c__law_again (P := P) (w := w) (base := base) E 
  have C_Lead__place := c_Lead__place (P := P) (w := w) (base := base) E 
  have C_Lead__point := c_Lead__point (P := P) (w := w) (base := base) E 
  have C_Lead__taken := c_Lead__taken (P := P) (w := w) (base := base) E 
  have C_Lead__ready := c_Lead__ready (P := P) (w := w) (base := base) E C_is_free
  have C_Lead__again := c_Lead__again (P := P) (w := w) (base := base) E 
  have C_Lead__program := c_Lead__program (P := P) (w := w) (base := base) E 
  have C_Lead____len__ := c_Lead____len__ (P := P) (w := w) (base := base) E 
  have C_Lead____bool__ := c_Lead____bool__ (P := P) (w := w) (base := base) E 
  have C__law_cast : C8.Cal P w K mg base 1 "_law_cast" (spOf K S__law_cast) [] := by
    obtain ⟨f, fd, F, hm⟩ := E.d_cast
    exact ⟨f, fd, _, [], ok_cast F E.divmod E.int, hm, F.kp, F.bindsN (fun _ _ _ _ _ _ us hl => match us, hl with | [_, _], _ => rfl), .nil⟩
  have C_branch_parts := c_branch_parts (P := P) (w := w) (base := base) E
  obtain ⟨C_Program, C_ProgramK⟩ := c_Program (P := P) (w := w) (base := base) E C_wrong_branch C_wrong_name C_wrong_saying
  have C_Stage := c_Stage (P := P) (w := w) (base := base) E
  have C__law_shows := c__law_shows (P := P) (w := w) (base := base) E C_Program____eq__ C__law_lets C__law_again C_Lead__place C_Lead__point C_Lead__taken C_Lead__ready C_Lead__again C_Lead__program C_Lead____len__ C_Lead____bool__
  obtain ⟨C_Lead, C_LeadK⟩ := c_Lead (P := P) (w := w) (base := base) E C_check_place C_check_point C_check_program C_Stage
  have C__law_begun := c__law_begun (P := P) (w := w) (base := base) E
  have C_sort := c_sort2 (P := P) (w := w) (base := base) E
  have C_text_program := c_text_program (P := P) (w := w) (base := base) E C_wrong_name C_wrong_saying C_wrong_branch C_Program C_text_saying C_text_branch C_branch_parts
  have C__law_any_of := c__law_any_of (P := P) (w := w) (base := base) E C__law_cast
  have C__law_tags := c__law_tags (P := P) (w := w) (base := base) E C__law_cast
  have C__law_little := c__law_little (P := P) (w := w) (base := base) E C__law_cast
  have C__law_ask := c__law_ask (P := P) (w := w) (base := base) E C__law_cast C__law_unit C__law_shift C__law_little
  have C__law_turn := c__law_turn (P := P) (w := w) (base := base) E C__law_cast C__law_unit C__law_shift C__law_little
  have C__law_arm := c__law_arm (P := P) (w := w) (base := base) E C__law_cast C__law_any_of C__law_unit C__law_ask C__law_turn
  have C__law_small := c__law_small (P := P) (w := w) (base := base) E C__law_cast C__law_any_of C__law_tags C__law_unit C__law_shift C__law_arm
  have C__law_spot := c__law_spot (P := P) (w := w) (base := base) E C__law_cast C__law_any_of
  have C__law_next := c__law_next (P := P) (w := w) (base := base) E C__law_cast C__law_any_of C__law_lets
  have C__law_built := c__law_built (P := P) (w := w) (base := base) E Y C_text_program C__law_cast C__law_sheet C_Program C_ProgramK
  have CR : CsR P w K mg base := ⟨C__law_cast, C__law_small, C__law_built, C__law_any_of, C__law_spot, C__law_spots, C__law_next, C__law_behind, C__law_shows, C_Lead, fun F => k_take E C_is_free C_check_index C_moved C_Stage F, C_sort⟩
  exact g_law E C__law_begun (c__law_right E CR TB hcd) F
end KK
set_option maxRecDepth 100000
set_option maxHeartbeats 0
namespace KK
open PySem PySem.Spec PyProof.Rows L2 DL
theorem law_facts {P : Program} {w : World} {K : PySem.W.Frag} {h : Heap} {mg : Str → Option Value} {fa : Addr} (X : K.In h) (G : h.Ns mainGlobals mg) (c : SaysK h K) (hfa : mg ("law" : Str) = some (.ref fa)) :
    ∃ (K : PySem.W.Frag) (c T : Addr) (fd : FuncData) (sp : Sp), K.In h ∧ h.get? T = some tabO ∧ K.lookup T = none ∧ PySem.W.CodeHd h c T ∧ (∀ (s : Shared) (u : Value), BindsTo s fd ⟨[u], []⟩ [("_law_script", u)]) ∧
      (∀ (H : Hp) (a : Addr) (ns : List Int), ns.length ≤ 63 → (∀ z ∈ ns, Builtin.Int.intBits z ≤ 1048576) → H T = some (.tbl #[]) → SqS K H a (ns.map V.int) → sp [.ref a] H (fun v _ => v = .bl true) C8.E0) ∧
      ∀ base : Heap, K.In base → base.Ns mainGlobals mg → LamX.TabB base mg c T → FnG P w K mg base 15 fa fd ["_law_script"] sp := by
  obtain ⟨⟨fd, F⟩, e1, e2⟩ := law_d X G c
  have e := hfa.symm.trans e1
  cases e
  have mem : (("_law_right", none) : He.Defn) ∈ tfL := by unfold tfL; exact List.mem_singleton.mpr rfl
  have E := factsX X G c
  have Y := factsY X G c
  refine ⟨K, (He.cT K ("_law_right", none)).1, (He.cT K ("_law_right", none)).2, fd, spLaw K (He.cT K ("_law_right", none)).2, X, c.empty _ mem, c.out _ mem, PySem.W.codeHd_of_K X (c.hd _ mem), ?_, ?_, fun base _ _ TB => law_fn E Y TB (fun f oc od osl gd hm lk => ?_) F⟩
  · have b := FunD.bindsA (ps := ["_law_script"]) F fun _ _ _ _ _ _ us hl => match us, hl with | [_], _ => rfl
    exact fun s u => b s [u] rfl
  · intro H a ns hl hb hT hS
    refine ⟨ns, .ref a, rfl, ?_, by omega, hb, fun q hq => ?_, fun _ => rfl⟩
    · unfold Rp
      exact ⟨a, rfl, hS⟩
    · rw [List.mem_singleton.mp hq]
      exact ⟨#[], hT, trivial, fun pos cv h => nomatch (show codeAmong pos [] = some cv from h)⟩
  · have e := e2.symm.trans hm
    cases e
    obtain ⟨f2, fd2, F2, hm2⟩ := E.d_right
    have e := hm2.symm.trans e2
    cases e
    obtain ⟨oc2, od2, dV, kV, doc, pm, an, cdv, ct, osl2, rfl, lk2, hcd, _, _⟩ := F2.ex
    rw [lk2] at lk
    cases lk
    obtain ⟨cc, rfl⟩ := He.codeIn_ref hcd
    show Value.ref cc = _
    rw [show (He.cT K ("_law_right", none)).1 = cc from He.codeOf_eq (p := ("_law_right", none)) lk2 rfl]
end KK
open PySem PySem.W PySem.Calls PyProof.Rows
theorem PySem.Challenge.cw_fallranks_k57_whole_leads_taken_back_holds : PySem.Challenge.rw_fallranks_k57_whole_leads_taken_back.Holds := by
  w_on; o_law
  refine HandSHeadRun.head_any (r := OpenLaw.row PySem.Challenge.rw_fallranks_k57_whole_leads_taken_back) (q := view (OpenLaw.row PySem.Challenge.rw_fallranks_k57_whole_leads_taken_back).prog [85]) (H := KK.hk) (ob := KK.ob) (M := 20000) (loose := KK.namesL) (d := HandSHeadRun.topDef (OpenLaw.row PySem.Challenge.rw_fallranks_k57_whole_leads_taken_back).prog 85) (kwd := []) KK.ob_eq
    (by kernel_rfl) (fun s => by kernel_rfl) KK.run (by kernel_rfl) (by kernel_rfl) (by kernel_rfl) (by rfl) (by first | assumption | decide +kernel) (by decide +kernel) ⟨rfl, rfl, rfl, rfl, rfl, by decide +kernel⟩ ?hw ?hc
  case hw => w_witness2
  case hc =>
    refine DL.walk_end (l := PySem.Challenge.rw_fallranks_k57_whole_leads_taken_back) (n := 63) (k := 15) (x := "_law_script") rfl (by decide) (by kernel_rfl) ⟨rfl, by decide, by decide⟩ fun w mg fa h Z G hmg0 => ?_
    obtain ⟨K, X, c⟩ := Z
    have hmg : mg ("law" : PySem.Str) = some (.ref fa) := by
      have e : (HandSHeadRun.topDef (OpenLaw.row PySem.Challenge.rw_fallranks_k57_whole_leads_taken_back).prog 85).name = ("law" : PySem.Str) := by kernel_rfl
      rw [← e]
      exact hmg0
    exact KK.law_facts X G c hmg
