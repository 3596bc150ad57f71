import PyProof.Rows.All
import Wide.All
import OpenK.AllK
import Wide.FinOn
import HandS.ForMost
import HandS.ForExc
import HandS.Wide
import HandS.HeadWalk
import HandS.HeadHook2
import HandS.Defaults
import HandS.Gcd
import HandS.IsInst
import HandS.ExcIs
import HandS.Conv
import KE.KDictCopyH
import HandS.TupAny
import HandS.TupMul
import HandS.CallSlots
import HandS.NoneIn
import HandS.TryOnly
import HandS.Head2
import HandS.ExcInit
import HandS.Style
import HandS.TryMany
import KE.KRevSl
import KE.KOpsOwn
import HandS.GenYield
import HandS.GenList
import HandS.SetBool
import HandS.TupSets
import HandS.SortRule
import HandS.Keys
import HandS.Deep
import HandS.TupLe
import HandS.More
import HandS.Strs
import HandS.SortInts
import HandS.DictComp
import HandS.TupLen
import PyProof.SeqIndex
import HandS.ExcField
import KE.KExcIs
import HandS.Property
import HandS.Codes
import HandS.IterVal
import KE.KOwnIter
import PySem.Challenge.RW_fontwinding_k65_widths_and_positions
set_option Elab.async false
set_option linter.all false
set_option maxRecDepth 100000
set_option maxHeartbeats 4000000
/-! The data layer: tuples and frozen lists as values, over the hand layer. -/
namespace Dl
open PySem PySem.Spec PyProof.Rows L2
set_option autoImplicit false
abbrev St := L2.St

/-- a datum: what a value is, without addresses (but for the lists and instances that may still change) -/
inductive D where
  | non | bl (b : Bool) | int (i : Int) | str (x : Str) | ref (a : Addr) | ty (n : String)
  | tup (ds : List D) | lst (ds : List D) | strm | glo (x : Str) | scr (ns : List Int)
  /-- an exception that is held, its dict's address, its fields -/
  | exn (a dd : Addr) (ns : List Str) (ds : List D)

/-- what never changes any more; a law's stream -/
inductive FO where
  | ob (o : HO) | strm
abbrev Fp := Addr → Option FO
def toH (F : Fp) : Hp := fun a => match F a with
  | some (.ob o) => some o
  | _ => none
def fupd (F : Fp) (a : Addr) (o : FO) : Fp := fun b => if b = a then some o else F b
theorem fupd_same {F : Fp} {a : Addr} {o : FO} : fupd F a o a = some o := by unfold fupd; rw [if_pos rfl]
theorem fupd_ne {F : Fp} {a b : Addr} {o : FO} (h : b ≠ a) : fupd F a o b = F b := by unfold fupd; rw [if_neg h]
theorem toH_at {F : Fp} {a : Addr} {o : HO} (h : F a = some (.ob o)) : toH F a = some o := by unfold toH; rw [h]
theorem of_toH {F : Fp} {a : Addr} {o : HO} (h : toH F a = some o) : F a = some (.ob o) := by
  unfold toH at h
  split at h
  · rename_i q e
    cases h
    exact e
  · cases h
def FSame (F F' : Fp) : Prop := ∀ a o, F a = some o → F' a = some o
theorem FSame.refl (F : Fp) : FSame F F := fun _ _ h => h
theorem FSame.trans {F F1 F2 : Fp} (a : FSame F F1) (b : FSame F1 F2) : FSame F F2 := fun c o h => b c o (a c o h)
theorem FSame.upd {F : Fp} {a : Addr} {o : FO} (h : F a = none) : FSame F (fupd F a o) := fun b u e => by
  by_cases q : b = a
  · rw [q, h] at e
    cases e
  · rw [fupd_ne q]
    exact e
theorem FSame.toH {F F' : Fp} (h : FSame F F') : Same (toH F) (toH F') := fun a o e => toH_at (h a _ (of_toH e))
theorem same_t {K : PySem.W.Frag} {H H' : Hp} {a : Addr} {xs : List V} (e : Same H H') (h : SqT K H a xs) : SqT K H' a xs := by
  rcases h with (h | ⟨o, h⟩) | h
  · exact .inl (.inl (e _ _ h))
  · exact .inl (.inr ⟨o, e _ _ h⟩)
  · exact .inr h

mutual
inductive Rep (K : PySem.W.Frag) (F : Fp) : V → D → Prop
  | non : Rep K F .non .non
  | bl (b : Bool) : Rep K F (.bl b) (.bl b)
  | int (i : Int) : Rep K F (.int i) (.int i)
  | str (x : Str) : Rep K F (.str x) (.str x)
  | ty (n : String) : Rep K F (.ty n) (.ty n)
  | ref (a : Addr) : Rep K F (.ref a) (.ref a)
  | glo (x : Str) : Rep K F (.ref (He.ga K x)) (.glo x)
  | strm {a : Addr} : F a = some .strm → Rep K F (.ref a) .strm
  | tup {a : Addr} {xs : List V} {ds : List D} : SqT K (toH F) a xs → RepL K F xs ds → Rep K F (.ref a) (.tup ds)
  | lst {a : Addr} {xs : List V} {ds : List D} : F a = some (.ob (.lst xs)) → RepL K F xs ds → Rep K F (.ref a) (.lst ds)
  | scr {a : Addr} {ns : List Int} : SqL K (toH F) a (ns.map V.int) → Rep K F (.ref a) (.scr ns)
  | exn {a dd : Addr} {vs : List (Str × V)} {ns : List Str} {ds : List D} : F dd = some (.ob (.xd vs)) → vs.map (·.1) = ns → RepL K F (vs.map (·.2)) ds → Rep K F (.ref a) (.exn a dd ns ds)
inductive RepL (K : PySem.W.Frag) (F : Fp) : List V → List D → Prop
  | nil : RepL K F [] []
  | cons {x : V} {d : D} {xs : List V} {ds : List D} : Rep K F x d → RepL K F xs ds → RepL K F (x :: xs) (d :: ds)
end

mutual
theorem Rep.mono {K : PySem.W.Frag} {F F' : Fp} (e : FSame F F') : ∀ {x : V} {d : D}, Rep K F x d → Rep K F' x d
  | _, _, .non => .non
  | _, _, .bl b => .bl b
  | _, _, .int i => .int i
  | _, _, .str x => .str x
  | _, _, .ty n => .ty n
  | _, _, .ref a => .ref a
  | _, _, .glo x => .glo x
  | _, _, .strm h => .strm (e _ _ h)
  | _, _, .tup s r => .tup (same_t e.toH s) (RepL.mono e r)
  | _, _, .lst s r => .lst (e _ _ s) (RepL.mono e r)
  | _, _, .scr s => .scr (e.toH.seq s)
  | _, _, .exn h n r => .exn (e _ _ h) n (RepL.mono e r)
theorem RepL.mono {K : PySem.W.Frag} {F F' : Fp} (e : FSame F F') : ∀ {xs : List V} {ds : List D}, RepL K F xs ds → RepL K F' xs ds
  | _, _, .nil => .nil
  | _, _, .cons h r => .cons (Rep.mono e h) (RepL.mono e r)
end
section
variable {K : PySem.W.Frag} {F : Fp}
theorem RepL.length : ∀ {xs : List V} {ds : List D}, RepL K F xs ds → xs.length = ds.length
  | _, _, .nil => rfl
  | _, _, .cons _ r => by rw [List.length_cons, List.length_cons, RepL.length r]
theorem RepL.get : ∀ {xs : List V} {ds : List D} {i : Nat} {d : D}, RepL K F xs ds → ds[i]? = some d → ∃ x, xs[i]? = some x ∧ Rep K F x d
  | _, _, _, _, .nil, e => by simp at e
  | _, _, 0, _, .cons h _, e => by
    simp at e
    subst e
    exact ⟨_, rfl, h⟩
  | _, _, i + 1, _, .cons _ r, e => by
    obtain ⟨x, h1, h2⟩ := RepL.get (i := i) r (by simpa using e)
    exact ⟨x, by simpa using h1, h2⟩
theorem RepL.get' : ∀ {xs : List V} {ds : List D} {i : Nat} {x : V}, RepL K F xs ds → xs[i]? = some x → ∃ d, ds[i]? = some d ∧ Rep K F x d
  | _, _, _, _, .nil, e => by simp at e
  | _, _, 0, _, .cons h _, e => by
    simp at e
    subst e
    exact ⟨_, rfl, h⟩
  | _, _, i + 1, _, .cons _ r, e => by
    obtain ⟨d, h1, h2⟩ := RepL.get' (i := i) r (by simpa using e)
    exact ⟨d, by simpa using h1, h2⟩
theorem RepL.append : ∀ {xs ys : List V} {ds es : List D}, RepL K F xs ds → RepL K F ys es → RepL K F (xs ++ ys) (ds ++ es)
  | _, _, _, _, .nil, s => s
  | _, _, _, _, .cons h r, s => .cons h (RepL.append r s)
theorem RepL.take : ∀ {xs : List V} {ds : List D} (n : Nat), RepL K F xs ds → RepL K F (xs.take n) (ds.take n)
  | _, _, 0, _ => .nil
  | _, _, _ + 1, .nil => .nil
  | _, _, n + 1, .cons h r => .cons h (RepL.take n r)
theorem RepL.drop : ∀ {xs : List V} {ds : List D} (n : Nat), RepL K F xs ds → RepL K F (xs.drop n) (ds.drop n)
  | _, _, 0, r => r
  | _, _, _ + 1, .nil => .nil
  | _, _, n + 1, .cons _ r => RepL.drop n r
theorem RepL.set {x : V} {d : D} (h : Rep K F x d) : ∀ {xs : List V} {ds : List D} (i : Nat), RepL K F xs ds → RepL K F (xs.set i x) (ds.set i d)
  | _, _, _, .nil => .nil
  | _, _, 0, .cons _ r => .cons h r
  | _, _, i + 1, .cons q r => .cons q (RepL.set h i r)
theorem RepL.dropLast {xs : List V} {ds : List D} (r : RepL K F xs ds) : RepL K F xs.dropLast ds.dropLast := by
  rw [List.dropLast_eq_take, List.dropLast_eq_take, r.length]
  exact r.take _
theorem RepL.reverse : ∀ {xs : List V} {ds : List D}, RepL K F xs ds → RepL K F xs.reverse ds.reverse
  | _, _, .nil => .nil
  | _, _, .cons h r => by
    rw [List.reverse_cons, List.reverse_cons]
    exact RepL.append (RepL.reverse r) (.cons h .nil)
theorem RepL.rep {x : V} {d : D} (h : Rep K F x d) : ∀ (n : Nat), RepL K F (List.replicate n x) (List.replicate n d)
  | 0 => .nil
  | n + 1 => .cons h (RepL.rep h n)
theorem repl_int : ∀ {xs : List V} {ns : List Int}, RepL K F xs (ns.map D.int) → xs = ns.map V.int
  | [], [], _ => rfl
  | [], _ :: _, h => nomatch h
  | _ :: _, [], h => nomatch h
  | x :: xs, n :: ns, h => by
    cases h with
    | cons h r =>
      cases h
      rw [repl_int r]
      rfl
theorem repl_of_int : ∀ (ns : List Int), RepL K F (ns.map V.int) (ns.map D.int)
  | [] => .nil
  | n :: r => .cons (.int n) (repl_of_int r)
end

/-! ### what may change: lists, instances -/
inductive GO where
  | lst (ds : List D) | ins (c : Str) (fs : List (Str × D))
  /-- a dict whose keys are ints and texts; one whose keys are tuples of ints -/
  | dk (kvs : List (Key × D)) | dt (kvs : List (List Int × D))
abbrev Gp := Addr → Option GO
def gupd (G : Gp) (a : Addr) (o : GO) : Gp := fun b => if b = a then some o else G b
def gdel (G : Gp) (a : Addr) : Gp := fun b => if b = a then none else G b
theorem gupd_same {G : Gp} {a : Addr} {o : GO} : gupd G a o a = some o := by unfold gupd; rw [if_pos rfl]
theorem gupd_ne {G : Gp} {a b : Addr} {o : GO} (h : b ≠ a) : gupd G a o b = G b := by unfold gupd; rw [if_neg h]
theorem gdel_ne {G : Gp} {a b : Addr} (h : b ≠ a) : gdel G a b = G b := by unfold gdel; rw [if_neg h]
theorem gdel_same {G : Gp} {a : Addr} : gdel G a a = none := by unfold gdel; rw [if_pos rfl]
theorem gupd_gupd {G : Gp} {a : Addr} {o u : GO} : gupd (gupd G a o) a u = gupd G a u := by
  funext b; unfold gupd; split <;> rfl
theorem gdel_gupd {G : Gp} {a : Addr} {o : GO} (h : G a = none) : gdel (gupd G a o) a = G := by
  funext b
  unfold gdel gupd
  by_cases q : b = a
  · rw [if_pos q, q, h]
  · rw [if_neg q, if_neg q]
def GSub (G G' : Gp) : Prop := ∀ a g, G a = some g → G' a = some g
theorem GSub.refl (G : Gp) : GSub G G := fun _ _ h => h
theorem GSub.trans {G G1 G2 : Gp} (a : GSub G G1) (b : GSub G1 G2) : GSub G G2 := fun c o h => b c o (a c o h)
theorem gne {G : Gp} {a b : Addr} {g : GO} (h : G a = some g) (h' : G b = none) : a ≠ b := fun e => by
  rw [e, h'] at h
  cases h
theorem GSub.upd {G G' : Gp} {a : Addr} {o : GO} (s : GSub G G') (h : G a = none) : GSub G (gupd G' a o) := fun b g e => by
  rw [gupd_ne (gne e h)]
  exact s b g e
theorem GSub.del {G G' : Gp} {a : Addr} (s : GSub G G') (h : G a = none) : GSub G (gdel G' a) := fun b g e => by
  rw [gdel_ne (gne e h)]
  exact s b g e
theorem GSub.free {G G' : Gp} {a : Addr} (s : GSub G G') (h : G' a = none) : G a = none := by
  cases q : G a with
  | none => rfl
  | some g =>
    rw [s a g q] at h
    cases h

def RepF (K : PySem.W.Frag) (F : Fp) (vs : List (Str × V)) (fs : List (Str × D)) : Prop := vs.map (·.1) = fs.map (·.1) ∧ RepL K F (vs.map (·.2)) (fs.map (·.2))
theorem RepF.mono {K : PySem.W.Frag} {F F' : Fp} {vs : List (Str × V)} {fs : List (Str × D)} (e : FSame F F') (h : RepF K F vs fs) : RepF K F' vs fs := ⟨h.1, h.2.mono e⟩

/-- a dict whose keys are tuples, with the addresses of its keys -/
def tabO (a : Addr) (xs : List (List PySem.Leaf × Addr × Value)) : HO := .ext fun h => ∃ o es ep, h.get? a = some o ∧ o.ExactDict ∧ o.data = .dict es ep ∧
  (∀ P w, es.toList = xs.map (entryOfKey (tupleKind (leafKind P w)))) ∧ (xs.map (·.1)).Nodup
def TabR (K : PySem.W.Frag) (F : Fp) (p : List Int × D) (q : List PySem.Leaf × Addr × Value) : Prop :=
  q.1 = p.1.map PySem.Leaf.num ∧ SqT K (toH F) q.2.1 (p.1.map V.int) ∧ ∃ v, Rep K F v p.2 ∧ RelV v q.2.2
theorem TabR.mono {K : PySem.W.Frag} {F F' : Fp} {p : List Int × D} {q : List PySem.Leaf × Addr × Value} (e : FSame F F') (h : TabR K F p q) : TabR K F' p q := by
  obtain ⟨h1, h2, v, h3, h4⟩ := h
  exact ⟨h1, same_t e.toH h2, v, h3.mono e, h4⟩
def GOk (K : PySem.W.Frag) (F : Fp) (H : Hp) (a : Addr) : GO → Prop
  | .dk kvs => ∃ vs, H a = some (.dK vs) ∧ vs.map (·.1) = kvs.map (·.1) ∧ RepL K F (vs.map (·.2)) (kvs.map (·.2))
  | .dt kvs => ∃ xs, H a = some (tabO a xs) ∧ (a == sysModules) = false ∧ kvs.length ≤ sizeLine ∧ Paired (TabR K F) kvs xs
  | .lst ds => ∃ xs, H a = some (.lst xs) ∧ RepL K F xs ds
  | .ins c fs => ∃ dx vs, H a = some (.ins (He.ga K c) dx vs) ∧ RepF K F vs fs
theorem GOk.mono {K : PySem.W.Frag} {F F' : Fp} {H H' : Hp} {a : Addr} {g : GO} (e : FSame F F') (hh : ∀ o, H a = some o → H' a = some o) (h : GOk K F H a g) : GOk K F' H' a g := by
  cases g with
  | lst ds =>
    obtain ⟨xs, h1, h2⟩ := h
    exact ⟨xs, hh _ h1, h2.mono e⟩
  | ins c fs =>
    obtain ⟨dx, vs, h1, h2⟩ := h
    exact ⟨dx, vs, hh _ h1, h2.mono e⟩
  | dk kvs =>
    obtain ⟨vs, h1, h2, h3⟩ := h
    exact ⟨vs, hh _ h1, h2, h3.mono e⟩
  | dt kvs =>
    obtain ⟨xs, h1, h2, h3, h4⟩ := h
    exact ⟨xs, hh _ h1, h2, h3, Paired.mapP h4 fun p q z => z.mono e⟩
/-- the law's stream: three ints, the first one of bounded size -/
def StrmAt (H : Hp) (a : Addr) : Prop := ∃ x k y : Int, H a = some (.lst [.int x, .int k, .int y])

structure RS (K : PySem.W.Frag) (F : Fp) (H : Hp) (G : Gp) : Prop where
  fr : ∀ a o, F a = some (.ob o) → H a = some o
  st : ∀ a, F a = some .strm → StrmAt H a
  gf : ∀ a g, G a = some g → F a = none ∧ GOk K F H a g
section
variable {K : PySem.W.Frag} {F : Fp} {H : Hp} {G : Gp}
theorem RS.same (r : RS K F H G) : Same (toH F) H := fun a o e => r.fr a o (of_toH e)
theorem RS.free (r : RS K F H G) {a : Addr} (h : H a = none) : F a = none ∧ G a = none := by
  refine ⟨?_, ?_⟩
  · cases q : F a with
    | none => rfl
    | some o =>
      cases o with
      | ob o =>
        rw [r.fr a o q] at h
        cases h
      | strm =>
        obtain ⟨x, k, y, e⟩ := r.st a q
        rw [e] at h
        cases h
  · cases q : G a with
    | none => rfl
    | some g =>
      have z := (r.gf a g q).2
      cases g with
      | lst ds =>
        obtain ⟨xs, e, _⟩ := z
        rw [e] at h
        cases h
      | ins c fs =>
        obtain ⟨dx, vs, e, _⟩ := z
        rw [e] at h
        cases h
      | dk kvs =>
        obtain ⟨vs, e, _⟩ := z
        rw [e] at h
        cases h
      | dt kvs =>
        obtain ⟨xs, e, _⟩ := z
        rw [e] at h
        cases h
theorem RS.sub {G' : Gp} (r : RS K F H G) (s : GSub G' G) : RS K F H G' := ⟨r.fr, r.st, fun a g e => r.gf a g (s a g e)⟩
/-- a new frozen object -/
theorem RS.newF (r : RS K F H G) {p : Addr} (h : H p = none) (o : HO) : RS K (fupd F p (.ob o)) (upd H p o) G ∧ FSame F (fupd F p (.ob o)) := by
  obtain ⟨hF, hG⟩ := r.free h
  have e := FSame.upd (F := F) (a := p) (o := .ob o) hF
  refine ⟨⟨fun a u q => ?_, fun a q => ?_, fun a g q => ?_⟩, e⟩
  · by_cases z : a = p
    · subst z
      rw [fupd_same] at q
      cases q
      exact upd_same
    · rw [fupd_ne z] at q
      rw [upd_ne z]
      exact r.fr a u q
  · by_cases z : a = p
    · subst z
      rw [fupd_same] at q
      cases q
    · rw [fupd_ne z] at q
      obtain ⟨x, k, y, w⟩ := r.st a q
      exact ⟨x, k, y, by rw [upd_ne z]; exact w⟩
  · have z : a ≠ p := gne q hG
    obtain ⟨h1, h2⟩ := r.gf a g q
    exact ⟨by rw [fupd_ne z]; exact h1, h2.mono e fun o w => by rw [upd_ne z]; exact w⟩
/-- a new stream -/
theorem RS.newS (r : RS K F H G) {p : Addr} (h : H p = none) (x k y : Int) : RS K (fupd F p .strm) (upd H p (.lst [.int x, .int k, .int y])) G ∧ FSame F (fupd F p .strm) := by
  obtain ⟨hF, hG⟩ := r.free h
  have e := FSame.upd (F := F) (a := p) (o := .strm) hF
  refine ⟨⟨fun a u q => ?_, fun a q => ?_, fun a g q => ?_⟩, e⟩
  · by_cases z : a = p
    · subst z
      rw [fupd_same] at q
      cases q
    · rw [fupd_ne z] at q
      rw [upd_ne z]
      exact r.fr a u q
  · by_cases z : a = p
    · subst z
      exact ⟨x, k, y, upd_same⟩
    · rw [fupd_ne z] at q
      obtain ⟨x, k, y, w⟩ := r.st a q
      exact ⟨x, k, y, by rw [upd_ne z]; exact w⟩
  · have z : a ≠ p := gne q hG
    obtain ⟨h1, h2⟩ := r.gf a g q
    exact ⟨by rw [fupd_ne z]; exact h1, h2.mono e fun o w => by rw [upd_ne z]; exact w⟩
/-- a stream turns -/
theorem RS.turnS (r : RS K F H G) {p : Addr} (h : F p = some .strm) (x k y : Int) : RS K F (upd H p (.lst [.int x, .int k, .int y])) G := by
  refine ⟨fun a u q => ?_, fun a q => ?_, fun a g q => ?_⟩
  · have z : a ≠ p := fun e => by
      rw [e, h] at q
      cases q
    rw [upd_ne z]
    exact r.fr a u q
  · by_cases z : a = p
    · subst z
      exact ⟨x, k, y, upd_same⟩
    · obtain ⟨x, k, y, w⟩ := r.st a q
      exact ⟨x, k, y, by rw [upd_ne z]; exact w⟩
  · obtain ⟨h1, h2⟩ := r.gf a g q
    have z : a ≠ p := fun e => by
      rw [e, h] at h1
      cases h1
    exact ⟨h1, h2.mono (FSame.refl F) fun o w => by rw [upd_ne z]; exact w⟩
/-- a new object that may change -/
theorem RS.newG (r : RS K F H G) {p : Addr} (h : H p = none) {o : HO} {g : GO} (ok : GOk K F (upd H p o) p g) : RS K F (upd H p o) (gupd G p g) := by
  obtain ⟨hF, hG⟩ := r.free h
  refine ⟨fun a u q => ?_, fun a q => ?_, fun a u q => ?_⟩
  · have w := r.fr a u q
    rw [upd_ne (ne_of_none w h)]
    exact w
  · obtain ⟨x, k, y, w⟩ := r.st a q
    exact ⟨x, k, y, by rw [upd_ne (ne_of_none w h)]; exact w⟩
  · by_cases z : a = p
    · subst z
      rw [gupd_same] at q
      cases q
      exact ⟨hF, ok⟩
    · rw [gupd_ne z] at q
      obtain ⟨h1, h2⟩ := r.gf a u q
      exact ⟨h1, h2.mono (FSame.refl F) fun o w => by rw [upd_ne z]; exact w⟩
/-- an object that may change does -/
theorem RS.setG (r : RS K F H G) {p : Addr} {g0 : GO} (h : G p = some g0) {o : HO} {g : GO} (ok : GOk K F (upd H p o) p g) : RS K F (upd H p o) (gupd G p g) := by
  have hF := (r.gf p g0 h).1
  refine ⟨fun a u q => ?_, fun a q => ?_, fun a u q => ?_⟩
  · have z : a ≠ p := fun e => by
      rw [e, hF] at q
      cases q
    rw [upd_ne z]
    exact r.fr a u q
  · have z : a ≠ p := fun e => by
      rw [e, hF] at q
      cases q
    obtain ⟨x, k, y, w⟩ := r.st a q
    exact ⟨x, k, y, by rw [upd_ne z]; exact w⟩
  · by_cases z : a = p
    · subst z
      rw [gupd_same] at q
      cases q
      exact ⟨hF, ok⟩
    · rw [gupd_ne z] at q
      obtain ⟨h1, h2⟩ := r.gf a u q
      exact ⟨h1, h2.mono (FSame.refl F) fun o w => by rw [upd_ne z]; exact w⟩
/-- a list that will not change any more -/
theorem RS.freeze (r : RS K F H G) {p : Addr} {ds : List D} (h : G p = some (.lst ds)) : ∃ F', FSame F F' ∧ RS K F' H (gdel G p) ∧ Rep K F' (.ref p) (.lst ds) := by
  obtain ⟨hF, xs, hH, rl⟩ := r.gf p _ h
  have e := FSame.upd (F := F) (a := p) (o := .ob (.lst xs)) hF
  refine ⟨fupd F p (.ob (.lst xs)), e, ⟨fun a u q => ?_, fun a q => ?_, fun a g q => ?_⟩, .lst fupd_same (rl.mono e)⟩
  · by_cases z : a = p
    · subst z
      rw [fupd_same] at q
      cases q
      exact hH
    · rw [fupd_ne z] at q
      exact r.fr a u q
  · by_cases z : a = p
    · subst z
      rw [fupd_same] at q
      cases q
    · rw [fupd_ne z] at q
      exact r.st a q
  · by_cases z : a = p
    · subst z
      rw [gdel_same] at q
      cases q
    · rw [gdel_ne z] at q
      obtain ⟨h1, h2⟩ := r.gf a g q
      exact ⟨by rw [fupd_ne z]; exact h1, h2.mono e fun o w => w⟩
end

/-! ### states, ends -/
abbrev DSt := List (Option D)
inductive RepO (K : PySem.W.Frag) (F : Fp) : Option V → Option D → Prop
  | none {x : Option V} : RepO K F x none
  | some {v : V} {d : D} : Rep K F v d → RepO K F (some v) (some d)
structure RepSt (K : PySem.W.Frag) (F : Fp) (σ : St) (s : DSt) : Prop where
  len : σ.length = s.length
  at_ : ∀ (i : Nat) (d : D), s[i]? = some (some d) → ∃ v, σ[i]? = some (some v) ∧ Rep K F v d
section
variable {K : PySem.W.Frag} {F F' : Fp} {σ : St} {s : DSt}
theorem RepSt.mono (e : FSame F F') (r : RepSt K F σ s) : RepSt K F' σ s := ⟨r.len, fun i d h => by
  obtain ⟨v, h1, h2⟩ := r.at_ i d h
  exact ⟨v, h1, h2.mono e⟩⟩
theorem RepSt.set {v : V} {d : D} (r : RepSt K F σ s) (i : Nat) (h : Rep K F v d) : RepSt K F (σ.set i (some v)) (s.set i (some d)) := by
  refine ⟨by rw [List.length_set, List.length_set, r.len], fun j x q => ?_⟩
  by_cases z : i = j
  · subst z
    by_cases l : i < s.length
    · rw [List.getElem?_set_self l] at q
      cases q
      exact ⟨v, List.getElem?_set_self (by rw [r.len]; exact l), h⟩
    · rw [List.getElem?_eq_none (by rw [List.length_set]; omega)] at q
      cases q
  · rw [List.getElem?_set_ne z] at q
    rw [List.getElem?_set_ne z]
    exact r.at_ j x q
theorem RepSt.clear (r : RepSt K F σ s) (i : Nat) (v : Option V) : RepSt K F (σ.set i v) (s.set i none) := by
  refine ⟨by rw [List.length_set, List.length_set, r.len], fun j x q => ?_⟩
  by_cases z : i = j
  · subst z
    by_cases l : i < s.length
    · rw [List.getElem?_set_self l] at q
      cases q
    · rw [List.getElem?_eq_none (by rw [List.length_set]; omega)] at q
      cases q
  · rw [List.getElem?_set_ne z] at q
    rw [List.getElem?_set_ne z]
    exact r.at_ j x q
theorem RepSt.start : ∀ {vs : List V} {ds : List D}, RepL K F vs ds → ∀ n : Nat, RepSt K F (vs.map some ++ List.replicate n none) (ds.map some ++ List.replicate n none) := fun {vs ds} r n => by
  refine ⟨by simp [r.length], fun i d h => ?_⟩
  by_cases l : i < ds.length
  · rw [List.getElem?_append_left (by simpa using l), List.getElem?_map] at h
    obtain ⟨d', e1, e2⟩ := Option.map_eq_some_iff.mp h
    cases e2
    obtain ⟨x, h1, h2⟩ := r.get e1
    refine ⟨x, ?_, h2⟩
    rw [List.getElem?_append_left (by simpa [r.length] using l), List.getElem?_map, h1]
    rfl
  · rw [List.getElem?_append_right (by simpa using Nat.le_of_not_lt l)] at h
    rw [List.getElem?_replicate] at h
    split at h <;> cases h
end

/-- an exception: its class by the module's name, its own dict -/
structure Exn where
  cls : Str
  fs : Option (List (Str × D)) := none
def RepX (K : PySem.W.Frag) (F : Fp) (cls : Value) (dd : Option Addr) (e : Exn) : Prop :=
  cls = .ref (He.ga K e.cls) ∧ match e.fs with
    | none => dd = none
    | some fs => ∃ a vs, dd = some a ∧ F a = some (.ob (.xd vs)) ∧ RepF K F vs fs
theorem RepX.mono {K : PySem.W.Frag} {F F' : Fp} {cls : Value} {dd : Option Addr} {e : Exn} (h : FSame F F') (r : RepX K F cls dd e) : RepX K F' cls dd e := by
  obtain ⟨c, fs⟩ := e
  obtain ⟨h1, h2⟩ := r
  refine ⟨h1, ?_⟩
  cases fs with
  | none => exact h2
  | some fs =>
    obtain ⟨a, vs, e1, e2, e3⟩ := h2
    exact ⟨a, vs, e1, h _ _ e2, e3.mono h⟩

abbrev DK := D → Gp → Prop
abbrev DX := Exn → Gp → Prop
abbrev DTE := DSt → Gp → DK → DX → Prop
abbrev DTT := DSt → Gp → (Bool → Gp → Prop) → DX → Prop
abbrev DTA := DSt → Gp → (List D → Gp → Prop) → DX → Prop
structure DEnds where
  nx : DSt → Gp → Prop
  rt : DK
  ex : Exn → DSt → Gp → Prop
  bk : DSt → Gp → Prop
  ct : DSt → Gp → Prop
abbrev DTS := DEnds → DSt → Gp → Prop

section
variable (K : PySem.W.Frag) (F : Fp)
def Cont (Qd : DK) (Q : VK) : Prop := ∀ F' H' G' v x, FSame F F' → RS K F' H' G' → Rep K F' v x → Qd x G' → Q v H'
def ContT (Qd : Bool → Gp → Prop) (Q : Bool → Hp → Prop) : Prop := ∀ F' H' G' b, FSame F F' → RS K F' H' G' → Qd b G' → Q b H'
def ContA (Qd : List D → Gp → Prop) (Q : List V → Hp → Prop) : Prop := ∀ F' H' G' vs xs, FSame F F' → RS K F' H' G' → RepL K F' vs xs → Qd xs G' → Q vs H'
def ContS (Qd : DSt → Gp → Prop) (Q : St → Hp → Prop) : Prop := ∀ F' H' G' σ s, FSame F F' → RS K F' H' G' → RepSt K F' σ s → Qd s G' → Q σ H'
def ContX (W : WX) (σ : St) (Ed : DX) : Prop := ∀ F' H' G' cls dd e, FSame F F' → RS K F' H' G' → RepX K F' cls dd e → Ed e G' → W cls dd σ H'
def ContXS (W : WX) (Ed : Exn → DSt → Gp → Prop) : Prop := ∀ F' H' G' cls dd e σ s, FSame F F' → RS K F' H' G' → RepX K F' cls dd e → RepSt K F' σ s → Ed e s G' → W cls dd σ H'
end
section
variable {K : PySem.W.Frag} {F F1 : Fp}
theorem Cont.mono (e : FSame F F1) {Qd : DK} {Q : VK} (c : Cont K F Qd Q) : Cont K F1 Qd Q := fun F' H' G' v x h => c F' H' G' v x (e.trans h)
theorem ContT.mono (e : FSame F F1) {Qd : Bool → Gp → Prop} {Q : Bool → Hp → Prop} (c : ContT K F Qd Q) : ContT K F1 Qd Q := fun F' H' G' v h => c F' H' G' v (e.trans h)
theorem ContA.mono (e : FSame F F1) {Qd : List D → Gp → Prop} {Q : List V → Hp → Prop} (c : ContA K F Qd Q) : ContA K F1 Qd Q := fun F' H' G' v x h => c F' H' G' v x (e.trans h)
theorem ContS.mono (e : FSame F F1) {Qd : DSt → Gp → Prop} {Q : St → Hp → Prop} (c : ContS K F Qd Q) : ContS K F1 Qd Q := fun F' H' G' v x h => c F' H' G' v x (e.trans h)
theorem ContX.mono (e : FSame F F1) {W : WX} {σ : St} {Ed : DX} (c : ContX K F W σ Ed) : ContX K F1 W σ Ed := fun F' H' G' v x y h => c F' H' G' v x y (e.trans h)
theorem ContXS.mono (e : FSame F F1) {W : WX} {Ed : Exn → DSt → Gp → Prop} (c : ContXS K F W Ed) : ContXS K F1 W Ed := fun F' H' G' v x y z u h => c F' H' G' v x y z u (e.trans h)
theorem ContXS.at_ {W : WX} {σ : St} {s : DSt} {Ed : Exn → DSt → Gp → Prop} (c : ContXS K F W Ed) (r : RepSt K F σ s) : ContX K F W σ fun x G => Ed x s G := fun F' H' G' cls dd x h rs rx q => c F' H' G' cls dd x σ s h rs rx (r.mono h) q
end
structure EndsR (K : PySem.W.Frag) (F : Fp) (W : WX) (Dd : DEnds) (E : Ends) : Prop where
  nx : ContS K F Dd.nx E.nx
  rt : Cont K F Dd.rt E.rt
  ex : ContXS K F W Dd.ex
  bk : ContS K F Dd.bk E.bk
  ct : ContS K F Dd.ct E.ct
theorem EndsR.mono {K : PySem.W.Frag} {F F1 : Fp} {W : WX} {Dd : DEnds} {E : Ends} (e : FSame F F1) (r : EndsR K F W Dd E) : EndsR K F1 W Dd E := ⟨r.nx.mono e, r.rt.mono e, r.ex.mono e, r.bk.mono e, r.ct.mono e⟩

/-! ### adequacy -/
def AE (K : PySem.W.Frag) (W : WX) (t : TE) (d : DTE) : Prop := ∀ F σ H s G Qd Ed Q, RS K F H G → RepSt K F σ s → d s G Qd Ed → Cont K F Qd Q → ContX K F W σ Ed → t σ H Q
def AT (K : PySem.W.Frag) (W : WX) (t : TT) (d : DTT) : Prop := ∀ F σ H s G Qd Ed Q, RS K F H G → RepSt K F σ s → d s G Qd Ed → ContT K F Qd Q → ContX K F W σ Ed → t σ H Q
def AA (K : PySem.W.Frag) (W : WX) (t : TA) (d : DTA) : Prop := ∀ F σ H s G Qd Ed Q, RS K F H G → RepSt K F σ s → d s G Qd Ed → ContA K F Qd Q → ContX K F W σ Ed → t σ H Q
def AS (K : PySem.W.Frag) (W : WX) (t : TS) (d : DTS) : Prop := ∀ F σ H s G Dd E, RS K F H G → RepSt K F σ s → d Dd s G → EndsR K F W Dd E → t E σ H
structure DE (X : Cx) (W : WX) (e : Expr) (d : DTE) : Prop where
  ex : ∃ t, PE X e t ∧ AE X.K W t d
structure DT (X : Cx) (W : WX) (e : Expr) (d : DTT) : Prop where
  ex : ∃ t, PT X e t ∧ AT X.K W t d
structure DW (X : Cx) (W : WX) (e : Expr) (d : DTT) : Prop where
  ex : ∃ t, PW X e t ∧ AT X.K W t d
structure DA (X : Cx) (W : WX) (es : List Expr) (d : DTA) : Prop where
  ex : ∃ t, PA X es t ∧ AA X.K W t d
structure DS (X : Cx) (W : WX) (st : Stmt) (d : DTS) : Prop where
  ex : ∃ t, PS X st t ∧ AS X.K W t d
structure DSs (X : Cx) (W : WX) (st : List Stmt) (d : DTS) : Prop where
  ex : ∃ t, PSs X st t ∧ AS X.K W t d

/-! ### functions -/
abbrev DSp := List D → Gp → DK → DX → Prop
def lift (K : PySem.W.Frag) (sp : DSp) : Sp := fun vs H Q E => ∃ F G ds Qd Ed, RS K F H G ∧ RepL K F vs ds ∧ sp ds G Qd Ed ∧ Cont K F Qd Q ∧ ContX K F (fun cls dd _ H' => E cls dd H') [] Ed
/-- less may be told of what may change -/
def dn (Q : DK) : DK := fun d G' => ∃ G0, GSub G0 G' ∧ Q d G0
def dnX (E : DX) : DX := fun e G' => ∃ G0, GSub G0 G' ∧ E e G0
abbrev dstart (n : Nat) (ds : List D) : DSt := ds.map some ++ List.replicate (n - ds.length) none
theorem dn_of {Q : DK} {d : D} {G G' : Gp} (s : GSub G G') (h : Q d G) : dn Q d G' := ⟨G, s, h⟩
theorem dn_id {Q : DK} {d : D} {G : Gp} (h : Q d G) : dn Q d G := ⟨G, GSub.refl G, h⟩
theorem dnX_id {E : DX} {e : Exn} {G : Gp} (h : E e G) : dnX E e G := ⟨G, GSub.refl G, h⟩
abbrev fEnds (Q : DK) (E : DX) : DEnds := { nx := fun _ G => dn Q .non G, rt := dn Q, ex := fun e _ G => dnX E e G, bk := fun _ _ => False, ct := fun _ _ => False }
abbrev WF (E : XK) : WX := fun cls d _ H => E cls d H
section
variable {P : Program} {w : World} {K : PySem.W.Frag} {mg : Str → Option Value} {base : Heap}
abbrev DFn (P : Program) (w : World) (K : PySem.W.Frag) (mg : Str → Option Value) (base : Heap) (k : Nat) (f : Addr) (fd : FuncData) (ps : List Str) (sp : DSp) : Prop := FnOk P w K mg base (L2.CX P w) k f fd ps (lift K sp)
theorem fn_ok {x qual : Str} {params : Arguments} {body : List Stmt} {scope : Scope} {dvs : List V} {kws : List (Str × V)} {f : Addr} {fd : FuncData} {N ps : List Str} {k : Nat} {sp : DSp} {d : DTS}
    (F : FunD K x qual params body scope dvs kws f fd) (S : FnScope N ps scope)
    (hb : ∀ (cdv : Value) (A : Around) (outer : List Env) (s : Shared) (H : Hp) (E : XK), Room k (A.deeper (envOfC qual scope s.heap.objs.size f cdv)) →
      Takes (cxOf (L2.CX P w) P w K mg base N qual scope f cdv A outer s H E) (WF E) → PassesOwn (model P w) (A.deeper (envOfC qual scope s.heap.objs.size f cdv)) (envOfC qual scope s.heap.objs.size f cdv) (cxOf (L2.CX P w) P w K mg base N qual scope f cdv A outer s H E).xe →
      DSs (cxOf (L2.CX P w) P w K mg base N qual scope f cdv A outer s H E) (WF E) body d)
    (hp : ∀ ds G Q E, sp ds G Q E → ds.length = ps.length ∧ d (fEnds Q E) (dstart N.length ds) G) : DFn P w K mg base (k + 1) f fd ps sp := by
  refine F.ok S (fun vs H Q E h => ?_) (fun cdv A outer s H vs Q E hr h => ?_)
  · obtain ⟨F, G, ds, Qd, Ed, rs, rl, q, _⟩ := h
    rw [rl.length]
    exact (hp _ _ _ _ q).1
  · obtain ⟨Fr, G, ds, Qd, Ed, rs, rl, q, c, cx⟩ := h
    obtain ⟨t, ht, ha⟩ := (hb cdv A outer s H E hr (takes_of rfl rfl rfl rfl) (passes_of rfl)).ex
    refine ⟨t, ht, ha Fr _ H (dstart N.length ds) G (fEnds Qd Ed) _ rs ?_ (hp _ _ _ _ q).2 ⟨?_, ?_, ?_, ?_, ?_⟩⟩
    · have z := RepSt.start rl (N.length - ds.length)
      unfold L2.start dstart
      rw [rl.length]
      exact z
    · intro F' H' G' σ s e rs' _ q'
      obtain ⟨G0, s0, q0⟩ := q'
      exact c F' H' G0 .non .non e (rs'.sub s0) .non q0
    · intro F' H' G' v x e rs' rv q'
      obtain ⟨G0, s0, q0⟩ := q'
      exact c F' H' G0 v x e (rs'.sub s0) rv q0
    · intro F' H' G' cls dd x σ s e rs' rx _ q'
      obtain ⟨G0, s0, q0⟩ := q'
      exact cx F' H' G0 cls dd x e (rs'.sub s0) rx q0
    · intro F' H' G' σ s e rs' _ q'
      exact q'.elim
    · intro F' H' G' σ s e rs' _ q'
      exact q'.elim
/-- what a call wants of its callee -/
structure Callee (P : Program) (w : World) (K : PySem.W.Frag) (mg : Str → Option Value) (base : Heap) (x : Str) (k : Nat) (ps : List Str) (sp : DSp) : Prop where
  ex : ∃ fd, DFn P w K mg base k (He.ga K x) fd ps sp ∧ Binds K fd ps []
  g : mg x = some (.ref (He.ga K x))
  kp : PySem.W.keepIn K (.ref (He.ga K x)) = true
end
end Dl
set_option Elab.async false
set_option linter.all false
set_option maxRecDepth 100000
set_option maxHeartbeats 4000000
/-! The data layer: rules of expressions and statements. -/
namespace Dl
open PySem PySem.Spec PyProof.Rows L2
set_option autoImplicit false
section
variable {X : Cx} {W : WX}
/-! ### names, constants -/
abbrev dVar (i : Nat) : DTE := fun s G Q _ => match s[i]? with
  | some (some d) => Q d G
  | _ => False
theorem ae_var {K : PySem.W.Frag} {i : Nat} : AE K W (tVar i) (dVar i) := fun F σ H s G Qd Ed Q rs st h c _ => by
  unfold dVar at h
  split at h
  · rename_i d e
    obtain ⟨v, h1, h2⟩ := st.at_ i d e
    exact ⟨v, h1, c F H G v d (FSame.refl F) rs h2 h⟩
  · exact h.elim
theorem dv (i : Nat) {x : Str} {pos : Pos} (hN : X.N[i]? = some x := by rfl) (hv : Vis X.env.scope x := by first | exact Or.inl rfl | exact Or.inr (Or.inl rfl) | exact Or.inr (Or.inr rfl)) (hd : (x == ("__debug__" : Str)) = false := by decide)
    (hcd : (x == ("__classdict__" : Str)) = false := by decide) : DE X W (.Name x pos) (dVar i) := ⟨⟨_, pe_var hN hv hd hcd, ae_var⟩⟩
abbrev dC (d : D) : DTE := fun _ G Q _ => Q d G
theorem ae_c {K : PySem.W.Frag} {v : V} {d : D} (h : ∀ F, Rep K F v d) : AE K W (tC v) (dC d) := fun F σ H s G Qd Ed Q rs st q c _ => c F H G v d (FSame.refl F) rs (h F) q
theorem de_int {i : Int} {j : Nat} {pos : Pos} : DE X W (.Constant (.int i) j pos) (dC (.int i)) := ⟨⟨_, pe_int, ae_c fun _ => .int i⟩⟩
theorem de_bl {b : Bool} {j : Nat} {pos : Pos} : DE X W (.Constant (.bool b) j pos) (dC (.bl b)) := ⟨⟨_, pe_bl, ae_c fun _ => .bl b⟩⟩
theorem de_non {j : Nat} {pos : Pos} : DE X W (.Constant .none j pos) (dC .non) := ⟨⟨_, pe_non, ae_c fun _ => .non⟩⟩
theorem de_str {x : Str} {j : Nat} {pos : Pos} : DE X W (.Constant (.str x) j pos) (dC (.str x)) := ⟨⟨_, pe_str, ae_c fun _ => .str x⟩⟩
/-- a module's constant -/
def GloV (K : PySem.W.Frag) (u : Value) (d : D) : Prop := ∃ v, RelV v u ∧ ∀ F, Rep K F v d
theorem de_glob {x : Str} {u : Value} {d : D} {pos : Pos} (hm : X.mg x = some u) (r : GloV X.K u d) (hg : Gl X x := by rfl) (hd : (x == ("__debug__" : Str)) = false := by decide) : DE X W (.Name x pos) (dC d) := by
  obtain ⟨v, h1, h2⟩ := r
  exact ⟨⟨_, pe_glob hg hm h1 hd, ae_c h2⟩⟩
/-- a built-in class, as a value -/
theorem de_ty {x : Str} {n : String} {pos : Pos} (hm : X.mg x = none) (hv : bootBuiltins x = some (.type n)) (hg : Gl X x := by rfl) (hn : x ≠ "__name__" := by decide) (hd : (x == ("__debug__" : Str)) = false := by decide) : DE X W (.Name x pos) (dC (.ty n)) :=
  ⟨⟨_, pe_bltn (v := .ty n) hg hm hv rfl hn hd, ae_c fun _ => .ty n⟩⟩

/-! ### operators by values -/
abbrev G2 := D → D → Gp → DK → Prop
def OpA (K : PySem.W.Frag) (r : R2) (g : G2) : Prop := ∀ F H G x y dx dy Qd Q, RS K F H G → Rep K F x dx → Rep K F y dy → g dx dy G Qd → Cont K F Qd Q → r x y H Q
structure DOp (X : Cx) (f : Value → Value → Sem Value) (g : G2) : Prop where
  ex : ∃ r, OpR X f r ∧ OpA X.K r g
abbrev dOp (g : G2) (da db : DTE) : DTE := fun s G Q E => da s G (fun x G1 => db s G1 (fun y G2 => g x y G2 Q) E) E
theorem ae_op {K : PySem.W.Frag} {r : R2} {g : G2} {ta tb : TE} {da db : DTE} (hr : OpA K r g) (ha : AE K W ta da) (hb : AE K W tb db) : AE K W (tOp r ta tb) (dOp g da db) := fun F σ H s G Qd Ed Q rs st h c cx =>
  ha F σ H s G _ Ed _ rs st h (fun F1 H1 G1 v x e1 rs1 rv q1 =>
    hb F1 σ H1 s G1 _ Ed _ rs1 (st.mono e1) q1 (fun F2 H2 G2 u y e2 rs2 ru q2 => hr F2 H2 G2 v u x y Qd Q rs2 (rv.mono e2) ru q2 (c.mono (e1.trans e2))) (cx.mono e1)) cx
theorem de_op {op : Operator} {g : G2} {a b : Expr} {da db : DTE} {pos : Pos} (ho : DOp X (binaryOp op) g) (ha : DE X W a da) (hb : DE X W b db) : DE X W (.BinOp a op b pos) (dOp g da db) := by
  obtain ⟨r, h1, h2⟩ := ho
  obtain ⟨ta, p1, a1⟩ := ha
  obtain ⟨tb, p2, a2⟩ := hb
  exact ⟨⟨_, pe_op h1 p1 p2, ae_op h2 a1 a2⟩⟩
theorem de_cmp {op : CmpOp} {g : G2} {a b : Expr} {da db : DTE} {pos : Pos} (ho : DOp X (compareOp op) g) (ha : DE X W a da) (hb : DE X W b db) (hm : behindInMarks op b = false := by first | exact nobehind _ (by decide) (by decide) | rfl) : DE X W (.Compare a [op] [b] pos) (dOp g da db) := by
  obtain ⟨r, h1, h2⟩ := ho
  obtain ⟨ta, p1, a1⟩ := ha
  obtain ⟨tb, p2, a2⟩ := hb
  exact ⟨⟨_, pe_cmpR h1 p1 p2 hm, ae_op h2 a1 a2⟩⟩
/-- a test by a value that is a bool -/
abbrev dTest (d : DTE) : DTT := fun s G Q E => d s G (fun x G1 => match x with
  | .bl b => Q b G1
  | _ => False) E
theorem at_test {K : PySem.W.Frag} {t : TE} {d : DTE} (h : AE K W t d) : AT K W (tTest t) (dTest d) := fun F σ H s G Qd Ed Q rs st q c cx =>
  h F σ H s G _ Ed _ rs st q (fun F1 H1 G1 v x e1 rs1 rv q1 => by
    cases rv with
    | bl b => exact ⟨b, rfl, c F1 H1 G1 b e1 rs1 q1⟩
    | _ => exact q1.elim) cx
theorem at_B {K : PySem.W.Frag} {t : TE} {d : DTE} (h : AE K W t d) : AT K W (tB t) (dTest d) := fun F σ H s G Qd Ed Q rs st q c cx =>
  h F σ H s G _ Ed _ rs st q (fun F1 H1 G1 v x e1 rs1 rv q1 => by
    cases rv with
    | bl b => exact ⟨b, rfl, c F1 H1 G1 b e1 rs1 q1⟩
    | _ => exact q1.elim) cx
theorem dt_cmp {op : CmpOp} {g : G2} {a b : Expr} {da db : DTE} {pos : Pos} (ho : DOp X (compareOp op) g) (ha : DE X W a da) (hb : DE X W b db) (hm : behindInMarks op b = false := by first | exact nobehind _ (by decide) (by decide) | rfl) : DT X W (.Compare a [op] [b] pos) (dTest (dOp g da db)) := by
  obtain ⟨r, h1, h2⟩ := ho
  obtain ⟨ta, p1, a1⟩ := ha
  obtain ⟨tb, p2, a2⟩ := hb
  exact ⟨⟨_, pt_cmpR h1 p1 p2 hm, at_test (ae_op h2 a1 a2)⟩⟩
abbrev dChain (g g' : G2) (da db dc : DTE) : DTE := fun s G Q E => da s G (fun x G1 => db s G1 (fun y G2 => g x y G2 fun z G3 => match z with
  | .bl k => if k = true then dc s G3 (fun w G4 => g' y w G4 Q) E else Q (.bl false) G3
  | _ => False) E) E
theorem ae_chain {K : PySem.W.Frag} {r r' : R2} {g g' : G2} {ta tb tc : TE} {da db dc : DTE} (hr : OpA K r g) (hr' : OpA K r' g') (ha : AE K W ta da) (hb : AE K W tb db) (hc : AE K W tc dc) : AE K W (tChain r r' ta tb tc) (dChain g g' da db dc) := fun F σ H s G Qd Ed Q rs st h c cx =>
  ha F σ H s G _ Ed _ rs st h (fun F1 H1 G1 v x e1 rs1 rv q1 =>
    hb F1 σ H1 s G1 _ Ed _ rs1 (st.mono e1) q1 (fun F2 H2 G2 u y e2 rs2 ru q2 => hr F2 H2 G2 v u x y _ _ rs2 (rv.mono e2) ru q2 fun F3 H3 G3 z k e3 rs3 rz q3 => by
      cases rz with
      | bl b =>
        refine ⟨b, rfl, ?_⟩
        cases b with
        | false => exact c F3 H3 G3 _ _ ((e1.trans e2).trans e3) rs3 (.bl false) q3
        | true => exact hc F3 σ H3 s G3 _ Ed _ rs3 (st.mono ((e1.trans e2).trans e3)) q3 (fun F4 H4 G4 w t e4 rs4 rw q4 => hr' F4 H4 G4 u w y t Qd Q rs4 (ru.mono (e3.trans e4)) rw q4 (c.mono (((e1.trans e2).trans e3).trans e4))) (cx.mono ((e1.trans e2).trans e3))
      | _ => exact q3.elim) (cx.mono e1)) cx
theorem de_chain {op op' : CmpOp} {g g' : G2} {a b c : Expr} {da db dc : DTE} {pos : Pos} (ho : DOp X (compareOp op) g) (ho' : DOp X (compareOp op') g') (ha : DE X W a da) (hb : DE X W b db) (hc : DE X W c dc)
    (hm : lastMarks [op, op'] [b, c] = false := by with_unfolding_all rfl) : DE X W (.Compare a [op, op'] [b, c] pos) (dChain g g' da db dc) := by
  obtain ⟨r, h1, h2⟩ := ho
  obtain ⟨r', h1', h2'⟩ := ho'
  obtain ⟨ta, p1, a1⟩ := ha
  obtain ⟨tb, p2, a2⟩ := hb
  obtain ⟨tc, p3, a3⟩ := hc
  exact ⟨⟨_, pe_chain h1 h1' p1 p2 p3 hm, ae_chain h2 h2' a1 a2 a3⟩⟩
theorem dt_chain {op op' : CmpOp} {g g' : G2} {a b c : Expr} {da db dc : DTE} {pos : Pos} (ho : DOp X (compareOp op) g) (ho' : DOp X (compareOp op') g') (ha : DE X W a da) (hb : DE X W b db) (hc : DE X W c dc)
    (hm : lastMarks [op, op'] [b, c] = false := by with_unfolding_all rfl) : DT X W (.Compare a [op, op'] [b, c] pos) (dTest (dChain g g' da db dc)) := by
  obtain ⟨r, h1, h2⟩ := ho
  obtain ⟨r', h1', h2'⟩ := ho'
  obtain ⟨ta, p1, a1⟩ := ha
  obtain ⟨tb, p2, a2⟩ := hb
  obtain ⟨tc, p3, a3⟩ := hc
  exact ⟨⟨_, pt_chain h1 h1' p1 p2 p3 hm, at_test (ae_chain h2 h2' a1 a2 a3)⟩⟩

/-! the lists that a datum stands for -/
def lv (x : D) (G : Gp) : Option (List D) := match x with
  | .lst ds => some ds
  | .ref a => match G a with
    | some (.lst ds) => some ds
    | _ => none
  | _ => none
theorem lv_at {K : PySem.W.Frag} {F : Fp} {H : Hp} {G : Gp} {v : V} {x : D} {ds : List D} (rs : RS K F H G) (r : Rep K F v x) (h : lv x G = some ds) : ∃ a xs, v = .ref a ∧ H a = some (.lst xs) ∧ RepL K F xs ds := by
  cases x with
  | lst es =>
    have h' : es = ds := Option.some.inj h
    subst h'
    cases r with
    | lst h1 h2 => exact ⟨_, _, rfl, rs.fr _ _ h1, h2⟩
  | ref a =>
    have h' : (match G a with | some (.lst ds) => some ds | _ => none) = some ds := h
    split at h'
    · rename_i es eg
      cases h'
      cases r with
      | ref =>
        obtain ⟨xs, h1, h2⟩ := (rs.gf a _ eg).2
        exact ⟨a, xs, rfl, h1, h2⟩
    · cases h'
  | non => exact nomatch (show (none : Option (List D)) = some ds from h)
  | bl b => exact nomatch (show (none : Option (List D)) = some ds from h)
  | int i => exact nomatch (show (none : Option (List D)) = some ds from h)
  | str i => exact nomatch (show (none : Option (List D)) = some ds from h)
  | ty i => exact nomatch (show (none : Option (List D)) = some ds from h)
  | tup i => exact nomatch (show (none : Option (List D)) = some ds from h)
  | strm => exact nomatch (show (none : Option (List D)) = some ds from h)
  | glo i => exact nomatch (show (none : Option (List D)) = some ds from h)
  | scr i => exact nomatch (show (none : Option (List D)) = some ds from h)
  | exn i j k => exact nomatch (show (none : Option (List D)) = some ds from h)

theorem sqt_at {K : PySem.W.Frag} {F : Fp} {H : Hp} {G : Gp} {a : Addr} {xs : List V} (rs : RS K F H G) (h : SqT K (toH F) a xs) : SqT K H a xs := same_t rs.same h
/-- a new tuple, frozen list -/
theorem Cont.tup {K : PySem.W.Frag} {F : Fp} {H : Hp} {G : Gp} {Qd : DK} {Q : VK} {xs : List V} {ds : List D} (c : Cont K F Qd Q) (rs : RS K F H G) (r : RepL K F xs ds) (q : Qd (.tup ds) G) : ∀ p, H p = none → Q (.ref p) (upd H p (.tup xs)) := fun p hp => by
  obtain ⟨h1, h2⟩ := rs.newF hp (.tup xs)
  exact c _ _ G _ _ h2 h1 (.tup (.inl (.inl (toH_at fupd_same))) (r.mono h2)) q
theorem Cont.lst {K : PySem.W.Frag} {F : Fp} {H : Hp} {G : Gp} {Qd : DK} {Q : VK} {xs : List V} {ds : List D} (c : Cont K F Qd Q) (rs : RS K F H G) (r : RepL K F xs ds) (q : Qd (.lst ds) G) : ∀ p, H p = none → Q (.ref p) (upd H p (.lst xs)) := fun p hp => by
  obtain ⟨h1, h2⟩ := rs.newF hp (.lst xs)
  exact c _ _ G _ _ h2 h1 (.lst fupd_same (r.mono h2)) q
theorem Cont.lstM {K : PySem.W.Frag} {F : Fp} {H : Hp} {G : Gp} {Qd : DK} {Q : VK} {xs : List V} {ds : List D} (c : Cont K F Qd Q) (rs : RS K F H G) (r : RepL K F xs ds) (q : ∀ p, G p = none → Qd (.ref p) (gupd G p (.lst ds))) : ∀ p, H p = none → Q (.ref p) (upd H p (.lst xs)) := fun p hp => by
  have h1 := rs.newG hp (o := .lst xs) (g := .lst ds) ⟨xs, upd_same, r⟩
  exact c _ _ _ _ _ (FSame.refl F) h1 (.ref p) (q p (rs.free hp).2)

/-! ints -/
def gI (C : Int → Int → Prop) (f : Int → Int → D) : G2 := fun x y G Q => match x, y with
  | .int i, .int j => C i j ∧ Q (f i j) G
  | _, _ => False
def gI0 (f : Int → Int → D) : G2 := fun x y G Q => match x, y with
  | .int i, .int j => Q (f i j) G
  | _, _ => False
theorem opa_I {K : PySem.W.Frag} {C : Int → Int → Prop} {f : Int → Int → V} {g : Int → Int → D} (h : ∀ F i j, Rep K F (f i j) (g i j)) : OpA K (rI C f) (gI C g) := fun F H G x y dx dy Qd Q rs rx ry q c => by
  cases rx with
  | int i =>
    cases ry with
    | int j => exact ⟨i, j, rfl, rfl, q.1, c F H G _ _ (FSame.refl F) rs (h F i j) q.2⟩
    | _ => exact False.elim q
  | _ => exact False.elim q
theorem opa_I0 {K : PySem.W.Frag} {f : Int → Int → V} {g : Int → Int → D} (h : ∀ F i j, Rep K F (f i j) (g i j)) : OpA K (rI0 f) (gI0 g) := fun F H G x y dx dy Qd Q rs rx ry q c => by
  cases rx with
  | int i =>
    cases ry with
    | int j => exact ⟨i, j, rfl, rfl, c F H G _ _ (FSame.refl F) rs (h F i j) q⟩
    | _ => exact False.elim q
  | _ => exact False.elim q
theorem do_sub : DOp X (binaryOp .Sub) (gI0 fun i j => .int (i - j)) := ⟨⟨_, op_sub, opa_I0 fun _ _ _ => .int _⟩⟩
theorem do_div : DOp X (binaryOp .FloorDiv) (gI CDivW fun i j => .int (i / j)) := ⟨⟨_, op_fdivW, opa_I fun _ _ _ => .int _⟩⟩
theorem do_divN : DOp X (binaryOp .FloorDiv) (gI CDivN fun i j => .int (i.fdiv j)) := ⟨⟨_, op_fdivN, opa_I fun _ _ _ => .int _⟩⟩
theorem do_mod : DOp X (binaryOp .Mod) (gI (fun _ j => 0 < j) fun i j => .int (i % j)) := ⟨⟨_, op_mod, opa_I fun _ _ _ => .int _⟩⟩
theorem do_modN : DOp X (binaryOp .Mod) (gI (fun _ j => j ≠ 0) fun i j => .int (i.fmod j)) := ⟨⟨_, op_modN, opa_I fun _ _ _ => .int _⟩⟩
theorem do_pow : DOp X (binaryOp .Pow) (gI CPow fun i j => .int (i ^ j.toNat)) := ⟨⟨_, op_pow, opa_I fun _ _ _ => .int _⟩⟩
theorem do_lt : DOp X (compareOp .Lt) (gI0 fun i j => .bl (decide (i < j))) := ⟨⟨_, op_lt, opa_I0 fun _ _ _ => .bl _⟩⟩
theorem do_le : DOp X (compareOp .LtE) (gI0 fun i j => .bl (decide (i ≤ j))) := ⟨⟨_, op_le, opa_I0 fun _ _ _ => .bl _⟩⟩
theorem do_gt : DOp X (compareOp .Gt) (gI0 fun i j => .bl (decide (j < i))) := ⟨⟨_, op_gt, opa_I0 fun _ _ _ => .bl _⟩⟩
theorem do_ge : DOp X (compareOp .GtE) (gI0 fun i j => .bl (decide (j ≤ i))) := ⟨⟨_, op_ge, opa_I0 fun _ _ _ => .bl _⟩⟩
/-- an int product; a list, a tuple times an int -/
def CMulD (i j : Int) : Prop := CMulW i j ∨ CMul i j
def gMul : G2 := fun x y G Q => match x, y with
  | .int i, .int j => CMulD i j ∧ Q (.int (i * j)) G
  | .tup ds, .int k => ds ≠ [] ∧ (2 ≤ k ∧ k ≤ 1000) ∧ ds.length ≤ 1000 ∧ Q (.tup (List.replicate k.toNat ds).flatten) G
  | x, .int k => match lv x G with
    | some ds => (-(2 ^ 63) ≤ k ∧ k < 2 ^ 63) ∧ ds.length * k.toNat ≤ sizeLine ∧ Q (.lst (List.replicate k.toNat ds).flatten) G
    | none => False
  | _, _ => False
end
end Dl
set_option Elab.async false
set_option linter.all false
set_option maxRecDepth 100000
set_option maxHeartbeats 4000000
namespace Dl
open PySem PySem.Spec PyProof.Rows L2
set_option autoImplicit false
theorem RepL.flat {K : PySem.W.Frag} {F : Fp} {xs : List V} {ds : List D} (r : RepL K F xs ds) : ∀ n : Nat, RepL K F (List.replicate n xs).flatten (List.replicate n ds).flatten
  | 0 => .nil
  | n + 1 => by
    rw [List.replicate_succ, List.replicate_succ, List.flatten_cons, List.flatten_cons]
    exact RepL.append r (RepL.flat r n)
theorem RepL.nil_iff {K : PySem.W.Frag} {F : Fp} {xs : List V} {ds : List D} (r : RepL K F xs ds) : xs = [] ↔ ds = [] := by
  cases r with
  | nil => simp
  | cons h r => simp
section
variable {X : Cx} {W : WX}
theorem opa_or {K : PySem.W.Frag} {r r' : R2} {g g' : G2} (h1 : OpA K r g) (h2 : OpA K r' g') : OpA K (fun x y H Q => r x y H Q ∨ r' x y H Q) (fun x y G Q => g x y G Q ∨ g' x y G Q) := fun F H G x y dx dy Qd Q rs rx ry q c =>
  q.elim (fun q => .inl (h1 F H G x y dx dy Qd Q rs rx ry q c)) fun q => .inr (h2 F H G x y dx dy Qd Q rs rx ry q c)
theorem DOp.or {f : Value → Value → Sem Value} {g g' : G2} (a : DOp X f g) (b : DOp X f g') : DOp X f (fun x y G Q => g x y G Q ∨ g' x y G Q) := by
  obtain ⟨r, h1, h2⟩ := a
  obtain ⟨r', h1', h2'⟩ := b
  exact ⟨⟨_, h1.or h1', opa_or h2 h2'⟩⟩
theorem DOp.imp {f : Value → Value → Sem Value} {g g' : G2} (a : DOp X f g) (h : ∀ x y G Q, g' x y G Q → g x y G Q) : DOp X f g' := by
  obtain ⟨r, h1, h2⟩ := a
  exact ⟨⟨r, h1, fun F H G x y dx dy Qd Q rs rx ry q c => h2 F H G x y dx dy Qd Q rs rx ry (h _ _ _ _ q) c⟩⟩
theorem do_add0 : DOp X (binaryOp .Add) (gI0 fun i j => .int (i + j)) := ⟨⟨_, op_add, opa_I0 fun _ _ _ => .int _⟩⟩
theorem do_addS : DOp X (binaryOp .Add) (fun x y G Q => match x, y with
  | .str a, .str b => a.length + b.length ≤ sizeLine ∧ Q (.str (a ++ b)) G
  | _, _ => False) := ⟨⟨_, op_add_str, fun F H G x y dx dy Qd Q rs rx ry q c => by
    cases rx with
    | str a =>
      cases ry with
      | str b => exact ⟨a, b, rfl, rfl, q.1, c F H G _ _ (FSame.refl F) rs (.str _) q.2⟩
      | _ => exact False.elim q
    | _ => exact False.elim q⟩⟩
theorem do_addT : DOp X (binaryOp .Add) (fun x y G Q => match x, y with
  | .tup a, .tup b => a.length + b.length ≤ sizeLine ∧ Q (.tup (a ++ b)) G
  | _, _ => False) := ⟨⟨_, op_catA, fun F H G x y dx dy Qd Q rs rx ry q c => by
    cases rx with
    | @tup a xs ds h1 r1 =>
      cases ry with
      | @tup b ys es h2 r2 =>
        refine ⟨a, b, xs, ys, rfl, rfl, same_t rs.same h1, same_t rs.same h2, by rw [r1.length, r2.length]; exact q.1, fun z => ?_, fun _ z => ?_, fun _ _ => c.tup rs (r1.append r2) q.2⟩
        · have z2 := r1.nil_iff.mp z
          subst z2
          exact c F H G _ _ (FSame.refl F) rs (.tup h2 r2) q.2
        · have z2 := r2.nil_iff.mp z
          subst z2
          have q' : Qd (.tup (ds ++ [])) G := q.2
          rw [List.append_nil] at q'
          exact c F H G _ _ (FSame.refl F) rs (.tup h1 r1) q'
      | _ => exact False.elim q
    | _ => exact False.elim q⟩⟩
def gCatL : G2 := fun x y G Q => match lv x G, lv y G with
  | some a, some b => a.length + b.length ≤ sizeLine ∧ Q (.lst (a ++ b)) G
  | _, _ => False
theorem do_addL : DOp X (binaryOp .Add) gCatL := ⟨⟨_, op_cat, fun F H G x y dx dy Qd Q rs rx ry q c => by
    unfold gCatL at q
    split at q
    · rename_i a b ea eb
      obtain ⟨l, xs, rfl, h1, r1⟩ := lv_at rs rx ea
      obtain ⟨m, ys, rfl, h2, r2⟩ := lv_at rs ry eb
      exact ⟨l, m, xs, ys, rfl, rfl, h1, h2, by rw [r1.length, r2.length]; exact q.1, c.lst rs (r1.append r2) q.2⟩
    · exact q.elim⟩⟩
/-- a list + a list that may still change -/
def gCatM : G2 := fun x y G Q => match lv x G, lv y G with
  | some a, some b => a.length + b.length ≤ sizeLine ∧ ∀ p, G p = none → Q (.ref p) (gupd G p (.lst (a ++ b)))
  | _, _ => False
theorem do_addM : DOp X (binaryOp .Add) gCatM := ⟨⟨_, op_cat, fun F H G x y dx dy Qd Q rs rx ry q c => by
    unfold gCatM at q
    split at q
    · rename_i a b ea eb
      obtain ⟨l, xs, rfl, h1, r1⟩ := lv_at rs rx ea
      obtain ⟨m, ys, rfl, h2, r2⟩ := lv_at rs ry eb
      exact ⟨l, m, xs, ys, rfl, rfl, h1, h2, by rw [r1.length, r2.length]; exact q.1, c.lstM rs (r1.append r2) q.2⟩
    · exact q.elim⟩⟩
def gAdd : G2 := fun x y G Q => match x, y with
  | .int i, .int j => Q (.int (i + j)) G
  | .str a, .str b => a.length + b.length ≤ sizeLine ∧ Q (.str (a ++ b)) G
  | .tup a, .tup b => a.length + b.length ≤ sizeLine ∧ Q (.tup (a ++ b)) G
  | x, y => gCatL x y G Q
theorem do_add : DOp X (binaryOp .Add) gAdd := (((do_add0 (X := X)).or do_addS).or (do_addT.or do_addL)).imp fun x y G Q q => by
  unfold gAdd at q
  split at q
  · exact .inl (.inl q)
  · exact .inl (.inr q)
  · exact .inr (.inl q)
  · exact .inr (.inr q)
theorem do_mulI : DOp X (binaryOp .Mult) (gI CMulD fun i j => .int (i * j)) := (DOp.or (g := gI CMulW fun i j => .int (i * j)) (g' := gI CMul fun i j => .int (i * j)) ⟨⟨_, op_mulW, opa_I fun _ _ _ => .int _⟩⟩ ⟨⟨_, op_mul, opa_I fun _ _ _ => .int _⟩⟩).imp fun x y G Q q => by
  unfold gI at q
  split at q
  · exact q.1.elim (fun z => .inl ⟨z, q.2⟩) fun z => .inr ⟨z, q.2⟩
  · exact q.elim
def gRepL : G2 := fun x y G Q => match y with
  | .int k => match lv x G with
    | some ds => (-(2 ^ 63) ≤ k ∧ k < 2 ^ 63) ∧ ds.length * k.toNat ≤ sizeLine ∧ Q (.lst (List.replicate k.toNat ds).flatten) G
    | none => False
  | _ => False
theorem do_repL : DOp X (binaryOp .Mult) gRepL := ⟨⟨_, op_rep, fun F H G x y dx dy Qd Q rs rx ry q c => by
    cases ry with
    | int k =>
      unfold gRepL at q
      dsimp only at q
      split at q
      · rename_i ds e
        obtain ⟨l, xs, rfl, h1, r1⟩ := lv_at rs rx e
        exact ⟨l, k, xs, rfl, rfl, h1, q.1.1, q.1.2, by rw [r1.length]; exact q.2.1, c.lst rs (r1.flat k.toNat) q.2.2⟩
      · exact q.elim
    | _ => exact False.elim q⟩⟩
theorem tup_mul1 (l : Addr) (xs : Array Value) (n : Nat) (dd : Option Addr) (sl : Array (Option Value)) (u : Tok) :
    Meets (Builtin.«tuple.__mul__» ⟨[.ref l, .int 1 u], []⟩) (fun _ R s => s.heap.get? l = some { cls := .type "tuple", dict := dd, data := .seq xs n, slots := sl } ∧ R (.ok (.ret (Value.ref l))) s) := by
  refine .of_wp fun prog w A R s h => ?_
  obtain ⟨hp, g, d, tk, os⟩ := s
  obtain ⟨hl, h⟩ := h
  have f1 := AutoSeq1.idx_int
  wp_walk using wpAny_loadPart' hl
  exact ⟨_, rfl, h⟩
theorem tup_mul0 (l : Addr) (xs : Array Value) (n : Nat) (dd : Option Addr) (sl : Array (Option Value)) (u : Tok) (h0 : xs.isEmpty = false) :
    Meets (Builtin.«tuple.__mul__» ⟨[.ref l, .int 0 u], []⟩) (fun _ R s => s.heap.get? l = some { cls := .type "tuple", dict := dd, data := .seq xs n, slots := sl } ∧
      R (.ok (.ret (Value.ref s.heap.objs.size))) { s with heap := s.heap.push { cls := Value.type "tuple", data := Data.seq #[] }, toks := s.toks }) := by
  refine .of_wp fun prog w A R s h => ?_
  obtain ⟨hp, g, d, tk, os⟩ := s
  obtain ⟨hl, h⟩ := h
  have f1 := AutoSeq1.idx_int
  wp_walk using wpAny_loadPart' hl
  exact ⟨_, rfl, h⟩
def rRep01 (K : PySem.W.Frag) : R2 := fun x y H Q => ∃ l k xs, x = .ref l ∧ y = .int k ∧ SqT K H l xs ∧ xs ≠ [] ∧ ((k = 1 ∧ Q (.ref l) H) ∨ (k = 0 ∧ ∀ p, H p = none → Q (.ref p) (upd H p (.tup []))))
theorem op_rep01 : OpR X (binaryOp .Mult) (rRep01 X.K) := by
  intro pins s σ H x y v u Q I rx ry h
  obtain ⟨l, k, xs, rfl, rfl, hT, hne, q⟩ := h
  cases rx
  obtain ⟨t, rfl⟩ := ry
  obtain ⟨its, r, hl, hs⟩ := I.tuple hT
  obtain ⟨⟨c0, d0, dat, sl⟩, ho, hc, n, hd⟩ := hl
  dsimp only at hc hd
  subst hc hd
  have hi : its.toArray.isEmpty = false := by
    cases its with
    | nil => exact absurd (List.eq_nil_of_length_eq_zero r.length) hne
    | cons a b => rfl
  refine wpAny_binaryOp_repeat_ref (T := "tuple") (U := "int") (by decide) ⟨_, ho, rfl⟩ (fun s' => typeIs_int s' k t) noFill_tuple_mul F.fills_int_mul F.slot_int_rmul repeat_tuple F.slot_int_index.lookup ?_
  refine call_meets F.slot_int_rmul (typeIs_int s k t) F.entry_int_rmul (F.args_int_rmul_2 _ _) (int_rmul_tuple k t l its.toArray n d0 sl) ⟨ho, rfl, ⟨_, ho, rfl⟩, ?_⟩
  rcases q with ⟨rfl, q⟩ | ⟨rfl, q⟩
  · refine call_meets F.slot_tuple_mul ⟨_, ho, rfl⟩ F.entry_tuple_mul (F.args_tuple_mul_2 _ _) (tup_mul1 l its.toArray n d0 sl t) ⟨ho, ?_⟩
    exact ⟨.ref l, H, I, rfl, q⟩
  · refine call_meets F.slot_tuple_mul ⟨_, ho, rfl⟩ F.entry_tuple_mul (F.args_tuple_mul_2 _ _) (tup_mul0 l its.toArray n d0 sl t hi) ⟨ho, ?_⟩
    refine ⟨.ref s.heap.objs.size, _, I.laid (t' := s.toks) (o := .tup []) (fun b ob q => Heap.get?_push_of_some _ q) (Nat.le_refl _) ?_, rfl, q _ (I.hok.fresh (Nat.le_refl _))⟩
    exact ⟨Nat.zero_le _, [], .nil, IsTup.new _ _⟩
def gRepT : G2 := fun x y G Q => match x, y with
  | .tup ds, .int k => ds ≠ [] ∧ (0 ≤ k ∧ k ≤ 1000) ∧ ds.length ≤ 1000 ∧ Q (.tup (List.replicate k.toNat ds).flatten) G
  | _, _ => False
theorem do_repT : DOp X (binaryOp .Mult) gRepT := by
  refine ⟨⟨_, op_repT.or op_rep01, fun F H G x y dx dy Qd Q rs rx ry q c => ?_⟩⟩
  cases rx with
  | @tup l xs ds h1 r1 =>
    cases ry with
    | int k =>
      have hn : xs ≠ [] := fun z => q.1 (r1.nil_iff.mp z)
      obtain ⟨_, ⟨k0, k1⟩, hz, q2⟩ := q
      have hk : k = 0 ∨ k = 1 ∨ 2 ≤ k := by omega
      rcases hk with rfl | rfl | hk
      · exact .inr ⟨l, 0, xs, rfl, rfl, same_t rs.same h1, hn, .inr ⟨rfl, c.tup (xs := []) rs .nil q2⟩⟩
      · have e : (List.replicate (1 : Int).toNat ds).flatten = ds := by simp
        rw [e] at q2
        exact .inr ⟨l, 1, xs, rfl, rfl, same_t rs.same h1, hn, .inl ⟨rfl, c F H G _ _ (FSame.refl F) rs (.tup h1 r1) q2⟩⟩
      · exact .inl ⟨l, k, xs, rfl, rfl, same_t rs.same h1, hn, hk, k1, by rw [r1.length]; exact hz, c.tup rs (r1.flat k.toNat) q2⟩
    | _ => exact False.elim q
  | _ => exact False.elim q
def gMulA : G2 := fun x y G Q => match x, y with
  | .int i, .int j => CMulD i j ∧ Q (.int (i * j)) G
  | .tup ds, .int k => ds ≠ [] ∧ (0 ≤ k ∧ k ≤ 1000) ∧ ds.length ≤ 1000 ∧ Q (.tup (List.replicate k.toNat ds).flatten) G
  | x, y => gRepL x y G Q
theorem do_mul : DOp X (binaryOp .Mult) gMulA := ((do_mulI (X := X)).or (do_repT.or do_repL)).imp fun x y G Q q => by
  unfold gMulA at q
  split at q
  · exact .inl q
  · exact .inr (.inl q)
  · exact .inr (.inr q)

/-! == by data -/
def toP : D → PyData
  | .non => .none
  | .bl b => .bool b
  | .int i => .int i
  | .str x => .str x
  | .tup ds => .tuple (toPs ds)
  | .lst ds => .list (toPs ds)
  | _ => .dict []
where toPs : List D → List PyData
  | [] => []
  | d :: ds => toP d :: toPs ds
def pure? : D → Bool
  | .non => true
  | .bl b => true
  | .int i => true
  | .str x => true
  | .tup ds => pures ds
  | .lst ds => pures ds
  | _ => false
where pures : List D → Bool
  | [] => true
  | d :: ds => pure? d && pures ds
mutual
theorem dp_of {K : PySem.W.Frag} {F : Fp} {H : Hp} {G : Gp} (rs : RS K F H G) : ∀ {d : D} {v : V}, Rep K F v d → pure? d = true → Dp K H v (toP d)
  | _, _, .non, _ => by
    unfold toP
    exact .non
  | _, _, .bl b, _ => by
    unfold toP
    exact .bl b
  | _, _, .int i, _ => by
    unfold toP
    exact .int i
  | _, _, .str x, _ => by
    unfold toP
    exact .str x
  | _, _, .tup h r, p => by
    unfold toP
    unfold pure? at p
    exact .tup (same_t rs.same h) (dps_of rs r p)
  | _, _, .lst h r, p => by
    unfold toP
    unfold pure? at p
    exact .lst (.inl (.inl (rs.fr _ _ h))) (dps_of rs r p)
  | _, _, .ty _, p => by simp [pure?] at p
  | _, _, .ref _, p => by simp [pure?] at p
  | _, _, .glo _, p => by simp [pure?] at p
  | _, _, .strm _, p => by simp [pure?] at p
  | _, _, .scr _, p => by simp [pure?] at p
  | _, _, .exn _ _ _, p => by simp [pure?] at p
theorem dps_of {K : PySem.W.Frag} {F : Fp} {H : Hp} {G : Gp} (rs : RS K F H G) : ∀ {ds : List D} {vs : List V}, RepL K F vs ds → pure?.pures ds = true → DpAll K H vs (toP.toPs ds)
  | _, _, .nil, _ => by
    unfold toP.toPs
    exact .nil
  | _, _, .cons h r, p => by
    unfold toP.toPs
    unfold pure?.pures at p
    have p' := Bool.and_eq_true_iff.mp p
    exact .cons (dp_of rs h p'.1) (dps_of rs r p'.2)
end
def EqOk (d : D) : Prop := pure? d = true ∧ SeqAt.shaped (toP d) = true
def deq (x y : D) : Bool := PyData.eqv (toP x) (toP y)
/-- what a datum compares as: a list that may still change by what it holds now -/
def cv (x : D) (G : Gp) : D := match x with
  | .ref a => match G a with
    | some (.lst ds) => .lst ds
    | _ => x
  | x => x
def gEq (neg : Bool) : G2 := fun x y G Q => match x, y with
  | .int i, .int j => Q (.bl (if neg then !decide (i = j) else decide (i = j))) G
  | x, y => EqOk (cv x G) ∧ EqOk (cv y G) ∧ Q (.bl (if neg then !deq (cv x G) (cv y G) else deq (cv x G) (cv y G))) G
theorem geq_ii {neg : Bool} {i j : Int} {G : Gp} {Q : DK} : gEq neg (.int i) (.int j) G Q = Q (.bl (if neg then !decide (i = j) else decide (i = j))) G := rfl
theorem geq_tup {neg : Bool} {a : List D} {y : D} {G : Gp} {Q : DK} : gEq neg (.tup a) y G Q = (EqOk (.tup a) ∧ EqOk (cv y G) ∧ Q (.bl (if neg then !deq (.tup a) (cv y G) else deq (.tup a) (cv y G))) G) := rfl
theorem geq_lst {neg : Bool} {a : List D} {y : D} {G : Gp} {Q : DK} : gEq neg (.lst a) y G Q = (EqOk (.lst a) ∧ EqOk (cv y G) ∧ Q (.bl (if neg then !deq (.lst a) (cv y G) else deq (.lst a) (cv y G))) G) := rfl
theorem geq_ref {neg : Bool} {a : Addr} {y : D} {G : Gp} {Q : DK} : gEq neg (.ref a) y G Q = (EqOk (cv (.ref a) G) ∧ EqOk (cv y G) ∧ Q (.bl (if neg then !deq (cv (.ref a) G) (cv y G) else deq (cv (.ref a) G) (cv y G))) G) := rfl
theorem geq_non {neg : Bool} {y : D} {G : Gp} {Q : DK} : gEq neg .non y G Q = (EqOk .non ∧ EqOk (cv y G) ∧ Q (.bl (if neg then !deq .non (cv y G) else deq .non (cv y G))) G) := rfl
theorem geq_bl {neg b : Bool} {y : D} {G : Gp} {Q : DK} : gEq neg (.bl b) y G Q = (EqOk (.bl b) ∧ EqOk (cv y G) ∧ Q (.bl (if neg then !deq (.bl b) (cv y G) else deq (.bl b) (cv y G))) G) := rfl
theorem geq_str {neg : Bool} {b : Str} {y : D} {G : Gp} {Q : DK} : gEq neg (.str b) y G Q = (EqOk (.str b) ∧ EqOk (cv y G) ∧ Q (.bl (if neg then !deq (.str b) (cv y G) else deq (.str b) (cv y G))) G) := rfl
theorem geq_it {neg : Bool} {i : Int} {a : List D} {G : Gp} {Q : DK} : gEq neg (.int i) (.tup a) G Q = (EqOk (.int i) ∧ EqOk (.tup a) ∧ Q (.bl (if neg then !deq (.int i) (.tup a) else deq (.int i) (.tup a))) G) := rfl
theorem geq_il {neg : Bool} {i : Int} {a : List D} {G : Gp} {Q : DK} : gEq neg (.int i) (.lst a) G Q = (EqOk (.int i) ∧ EqOk (.lst a) ∧ Q (.bl (if neg then !deq (.int i) (.lst a) else deq (.int i) (.lst a))) G) := rfl
theorem geq_in {neg : Bool} {i : Int} {G : Gp} {Q : DK} : gEq neg (.int i) .non G Q = (EqOk (.int i) ∧ EqOk .non ∧ Q (.bl (if neg then !deq (.int i) .non else deq (.int i) .non)) G) := rfl
theorem dp_cv {K : PySem.W.Frag} {F : Fp} {H : Hp} {G : Gp} (rs : RS K F H G) {d : D} {v : V} (r : Rep K F v d) (p : pure? (cv d G) = true) : Dp K H v (toP (cv d G)) := by
  cases r with
  | ref a =>
    unfold cv at p ⊢
    dsimp only at p ⊢
    split at p
    · rename_i ds e
      obtain ⟨xs, h1, r1⟩ := (rs.gf a _ e).2
      unfold toP
      unfold pure? at p
      exact .lst (.inl (.inl h1)) (dps_of rs r1 p)
    · simp [pure?] at p
  | non => exact dp_of rs .non p
  | bl b => exact dp_of rs (.bl b) p
  | int b => exact dp_of rs (.int b) p
  | str b => exact dp_of rs (.str b) p
  | tup a b => exact dp_of rs (.tup a b) p
  | lst a b => exact dp_of rs (.lst a b) p
  | ty b => exact dp_of rs (.ty b) p
  | glo b => exact dp_of rs (.glo b) p
  | strm b => exact dp_of rs (.strm b) p
  | scr b => exact dp_of rs (.scr b) p
  | exn b c d => exact dp_of rs (.exn b c d) p
theorem shaped_int (i : Int) : SeqAt.shaped (.int i) = true := by
  unfold SeqAt.shaped
  rw [Bool.and_eq_true]
  refine ⟨by simp only [PyData.canLay0], ?_⟩
  rw [decide_eq_true_eq]
  simp [PyData.depth]
theorem do_eq (hu : X.A.units + 64 < cLine) : DOp X (compareOp .Eq) (gEq false) := ⟨⟨_, op_eqD hu, fun F H G x y dx dy Qd Q rs rx ry q c => by
  unfold gEq at q
  split at q
  · rename_i i j
    cases rx
    cases ry
    refine ⟨.int i, .int j, .int i, .int j, shaped_int i, shaped_int j, ?_⟩
    have e : PyData.eqv (.int i) (.int j) = decide (i = j) := by simp only [PyData.eqv, Bool.beq_eq_decide_eq]
    rw [e]
    exact c F H G _ _ (FSame.refl F) rs (.bl _) q
  · exact ⟨_, _, dp_cv rs rx q.1.1, dp_cv rs ry q.2.1.1, q.1.2, q.2.1.2, c F H G _ _ (FSame.refl F) rs (.bl _) q.2.2⟩⟩⟩
theorem do_ne (hu : X.A.units + 64 < cLine) : DOp X (compareOp .NotEq) (gEq true) := ⟨⟨_, op_neD hu, fun F H G x y dx dy Qd Q rs rx ry q c => by
  unfold gEq at q
  split at q
  · rename_i i j
    cases rx
    cases ry
    refine ⟨.int i, .int j, .int i, .int j, shaped_int i, shaped_int j, ?_⟩
    have e : PyData.eqv (.int i) (.int j) = decide (i = j) := by simp only [PyData.eqv, Bool.beq_eq_decide_eq]
    rw [e]
    exact c F H G _ _ (FSame.refl F) rs (.bl _) q
  · exact ⟨_, _, dp_cv rs rx q.1.1, dp_cv rs ry q.2.1.1, q.1.2, q.2.1.2, c F H G _ _ (FSame.refl F) rs (.bl _) q.2.2⟩⟩⟩

/-! is None -/
def isNon : D → Bool
  | .non => true
  | _ => false
theorem isNon_eq {K : PySem.W.Frag} {F : Fp} {v : V} {d : D} (r : Rep K F v d) : decide (v = .non) = isNon d := by
  cases r <;> simp [isNon]
abbrev dIsN (neg : Bool) (da : DTE) : DTE := fun s G Q E => da s G (fun x G1 => Q (.bl (if neg then !isNon x else isNon x)) G1) E
theorem ae_isN {K : PySem.W.Frag} {ta : TE} {da : DTE} (h : AE K W ta da) : AE K W (tIsN ta) (dIsN false da) := fun F σ H s G Qd Ed Q rs st q c cx =>
  h F σ H s G _ Ed _ rs st q (fun F1 H1 G1 v x e1 rs1 rv q1 => by
    rw [isNon_eq rv]
    exact c F1 H1 G1 _ _ e1 rs1 (.bl _) q1) cx
theorem ae_notN {K : PySem.W.Frag} {ta : TE} {da : DTE} (h : AE K W ta da) : AE K W (tNotN ta) (dIsN true da) := fun F σ H s G Qd Ed Q rs st q c cx =>
  h F σ H s G _ Ed _ rs st q (fun F1 H1 G1 v x e1 rs1 rv q1 => by
    rw [isNon_eq rv]
    exact c F1 H1 G1 _ _ e1 rs1 (.bl _) q1) cx
variable {a b : Expr} {da db : DTE} {pos : Pos}
theorem de_isN {j : Nat} {pos' : Pos} (h : DE X W a da) : DE X W (.Compare a [.Is] [.Constant .none j pos'] pos) (dIsN false da) := by
  obtain ⟨t, p, q⟩ := h
  exact ⟨⟨_, pe_cmp (pc_isN p) rfl, ae_isN q⟩⟩
theorem de_notN {j : Nat} {pos' : Pos} (h : DE X W a da) : DE X W (.Compare a [.IsNot] [.Constant .none j pos'] pos) (dIsN true da) := by
  obtain ⟨t, p, q⟩ := h
  exact ⟨⟨_, pe_cmp (pc_notN p) rfl, ae_notN q⟩⟩
theorem dt_isN {j : Nat} {pos' : Pos} (h : DE X W a da) : DT X W (.Compare a [.Is] [.Constant .none j pos'] pos) (dTest (dIsN false da)) := by
  obtain ⟨t, p, q⟩ := h
  exact ⟨⟨_, pt_cmp (pc_isN p) rfl, at_B (ae_isN q)⟩⟩
theorem dt_notN {j : Nat} {pos' : Pos} (h : DE X W a da) : DT X W (.Compare a [.IsNot] [.Constant .none j pos'] pos) (dTest (dIsN true da)) := by
  obtain ⟨t, p, q⟩ := h
  exact ⟨⟨_, pt_cmp (pc_notN p) rfl, at_B (ae_notN q)⟩⟩

/-! one-place operators -/
abbrev dNeg (da : DTE) : DTE := fun s G Q E => da s G (fun x G1 => match x with
  | .int i => Q (.int (-i)) G1
  | _ => False) E
theorem de_neg (h : DE X W a da) : DE X W (.UnaryOp .USub a pos) (dNeg da) := by
  obtain ⟨t, p, q⟩ := h
  refine ⟨⟨_, pe_un un_neg p, fun F σ H s G Qd Ed Q rs st hq c cx => q F σ H s G _ Ed _ rs st hq (fun F1 H1 G1 v x e1 rs1 rv q1 => ?_) cx⟩⟩
  cases rv with
  | int i => exact ⟨i, rfl, c F1 H1 G1 _ _ e1 rs1 (.int _) q1⟩
  | _ => exact False.elim q1
/-! tests -/
variable {tA tB' : DTT} {rest : List Expr}
/-- any value's truth -/
def truth (x : D) (G : Gp) : Option Bool := match x with
  | .non => some false
  | .bl b => some b
  | .int i => some (i != 0)
  | .tup ds => some (!ds.isEmpty)
  | x => (lv x G).map fun ds => !ds.isEmpty
theorem isEmpty_rep {K : PySem.W.Frag} {F : Fp} {xs : List V} {ds : List D} (r : RepL K F xs ds) : xs.isEmpty = ds.isEmpty := by
  cases r <;> rfl
theorem truth_ok {K : PySem.W.Frag} {F : Fp} {H : Hp} {G : Gp} {v : V} {x : D} {b : Bool} (rs : RS K F H G) (r : Rep K F v x) (h : truth x G = some b) : TruV K v H b := by
  have viaL : (lv x G).map (fun ds => !ds.isEmpty) = some b → TruV K v H b := fun h => by
    obtain ⟨ds, e1, e2⟩ := Option.map_eq_some_iff.mp h
    obtain ⟨a, xs, rfl, h1, r1⟩ := lv_at rs r e1
    exact .inl ⟨xs, .inl (.inl h1), by rw [isEmpty_rep r1]; exact e2.symm⟩
  cases r with
  | non => cases h; rfl
  | bl c => cases h; rfl
  | int i => cases h; rfl
  | @tup a xs ds h1 r1 =>
    cases h
    exact .inr (.inl ⟨xs, same_t rs.same h1, by rw [isEmpty_rep r1]⟩)
  | ref a => exact viaL h
  | lst a r => exact viaL h
  | str _ => exact viaL h
  | ty _ => exact viaL h
  | glo _ => exact viaL h
  | strm _ => exact viaL h
  | scr _ => exact viaL h
  | exn _ _ _ => exact viaL h
abbrev dTru (d : DTE) : DTT := fun s G Q E => d s G (fun x G1 => match truth x G1 with
  | some b => Q b G1
  | none => False) E
theorem dt_tru (h : DE X W a da) (he : ∀ whole, isTrue a X.env whole = (do let v ← whole; standAt a.pos; holding [v] (truthy v)) := by intro _; rfl) : DT X W a (dTru da) := by
  obtain ⟨t, p, q⟩ := h
  refine ⟨⟨_, pt_truth p he, fun F σ H s G Qd Ed Q rs st hq c cx => q F σ H s G _ Ed _ rs st hq (fun F1 H1 G1 v x e1 rs1 rv q1 => ?_) cx⟩⟩
  split at q1
  · rename_i b e
    exact ⟨b, truth_ok rs1 rv e, c F1 H1 G1 b e1 rs1 q1⟩
  · exact q1.elim
abbrev dAnd (t u : DTT) : DTT := fun s G Q E => t s G (fun c G1 => if c = true then u s G1 Q E else Q false G1) E
abbrev dOr (t u : DTT) : DTT := fun s G Q E => t s G (fun c G1 => if c = true then Q true G1 else u s G1 Q E) E
abbrev dNot (t : DTT) : DTT := fun s G Q E => t s G (fun c G1 => Q (!c) G1) E
theorem at_and {K : PySem.W.Frag} {t u : TT} {d e : DTT} (h1 : AT K W t d) (h2 : AT K W u e) : AT K W (tAnd t u) (dAnd d e) := fun F σ H s G Qd Ed Q rs st q c cx =>
  h1 F σ H s G _ Ed _ rs st q (fun F1 H1 G1 b e1 rs1 q1 => by
    cases b with
    | true => exact h2 F1 σ H1 s G1 Qd Ed Q rs1 (st.mono e1) q1 (c.mono e1) (cx.mono e1)
    | false => exact c F1 H1 G1 _ e1 rs1 q1) cx
theorem at_or {K : PySem.W.Frag} {t u : TT} {d e : DTT} (h1 : AT K W t d) (h2 : AT K W u e) : AT K W (tOr t u) (dOr d e) := fun F σ H s G Qd Ed Q rs st q c cx =>
  h1 F σ H s G _ Ed _ rs st q (fun F1 H1 G1 b e1 rs1 q1 => by
    cases b with
    | false => exact h2 F1 σ H1 s G1 Qd Ed Q rs1 (st.mono e1) q1 (c.mono e1) (cx.mono e1)
    | true => exact c F1 H1 G1 _ e1 rs1 q1) cx
theorem dw_and1 (h : DT X W a tA) : DW X W (.BoolOp .And [a] pos) tA := by
  obtain ⟨t, p, q⟩ := h
  exact ⟨⟨_, pw_and1 p, q⟩⟩
theorem dw_or1 (h : DT X W a tA) : DW X W (.BoolOp .Or [a] pos) tA := by
  obtain ⟨t, p, q⟩ := h
  exact ⟨⟨_, pw_or1 p, q⟩⟩
theorem dw_and (h : DT X W a tA) (h2 : DW X W (.BoolOp .And (b :: rest) pos) tB') : DW X W (.BoolOp .And (a :: b :: rest) pos) (dAnd tA tB') := by
  obtain ⟨t, p, q⟩ := h
  obtain ⟨u, p2, q2⟩ := h2
  exact ⟨⟨_, pw_and p p2, at_and q q2⟩⟩
theorem dw_or (h : DT X W a tA) (h2 : DW X W (.BoolOp .Or (b :: rest) pos) tB') : DW X W (.BoolOp .Or (a :: b :: rest) pos) (dOr tA tB') := by
  obtain ⟨t, p, q⟩ := h
  obtain ⟨u, p2, q2⟩ := h2
  exact ⟨⟨_, pw_or p p2, at_or q q2⟩⟩
theorem DW.dt {e : Expr} (h : DW X W e tA) : DT X W e tA := by
  obtain ⟨t, p, q⟩ := h
  exact ⟨⟨_, p.pt, q⟩⟩
theorem dt_not (h : DT X W a tA) : DT X W (.UnaryOp .Not a pos) (dNot tA) := by
  obtain ⟨t, p, q⟩ := h
  exact ⟨⟨_, pt_not p, fun F σ H s G Qd Ed Q rs st hq c cx => q F σ H s G _ Ed _ rs st hq (fun F1 H1 G1 b e1 rs1 q1 => c F1 H1 G1 _ e1 rs1 q1) cx⟩⟩
/-- an expression that gives True or False, as a test -/
theorem dt_val (h : DE X W a da) (he : ∀ whole, isTrue a X.env whole = (do let v ← whole; standAt a.pos; holding [v] (truthy v)) := by intro _; rfl) : DT X W a (dTest da) := by
  obtain ⟨t, p, q⟩ := h
  exact ⟨⟨_, pt_val p he, at_B q⟩⟩
/-! and, or, not as values (bools) -/
abbrev dAndV (da db : DTE) : DTE := fun s G Q E => da s G (fun x G1 => match x with
  | .bl c => if c = true then db s G1 Q E else Q (.bl false) G1
  | _ => False) E
abbrev dOrV (da db : DTE) : DTE := fun s G Q E => da s G (fun x G1 => match x with
  | .bl c => if c = true then Q (.bl true) G1 else db s G1 Q E
  | _ => False) E
abbrev dNotV (da : DTE) : DTE := fun s G Q E => da s G (fun x G1 => match x with
  | .bl c => Q (.bl (!c)) G1
  | _ => False) E
theorem de_one {op : BoolOp} (h : DE X W a da) : DE X W (.BoolOp op [a] pos) da := by
  obtain ⟨t, p, q⟩ := h
  exact ⟨⟨_, pe_one p, q⟩⟩
theorem de_and (h : DE X W a da) (h2 : DE X W (.BoolOp .And (b :: rest) pos) db) : DE X W (.BoolOp .And (a :: b :: rest) pos) (dAndV da db) := by
  obtain ⟨t, p, q⟩ := h
  obtain ⟨u, p2, q2⟩ := h2
  refine ⟨⟨_, pe_and p p2, fun F σ H s G Qd Ed Q rs st hq c cx => q F σ H s G _ Ed _ rs st hq (fun F1 H1 G1 v x e1 rs1 rv q1 => ?_) cx⟩⟩
  cases rv with
  | bl k =>
    refine ⟨k, rfl, ?_⟩
    cases k with
    | true => exact q2 F1 σ H1 s G1 Qd Ed Q rs1 (st.mono e1) q1 (c.mono e1) (cx.mono e1)
    | false => exact c F1 H1 G1 _ _ e1 rs1 (.bl _) q1
  | _ => exact False.elim q1
theorem de_or (h : DE X W a da) (h2 : DE X W (.BoolOp .Or (b :: rest) pos) db) : DE X W (.BoolOp .Or (a :: b :: rest) pos) (dOrV da db) := by
  obtain ⟨t, p, q⟩ := h
  obtain ⟨u, p2, q2⟩ := h2
  refine ⟨⟨_, pe_or p p2, fun F σ H s G Qd Ed Q rs st hq c cx => q F σ H s G _ Ed _ rs st hq (fun F1 H1 G1 v x e1 rs1 rv q1 => ?_) cx⟩⟩
  cases rv with
  | bl k =>
    refine ⟨k, rfl, ?_⟩
    cases k with
    | false => exact q2 F1 σ H1 s G1 Qd Ed Q rs1 (st.mono e1) q1 (c.mono e1) (cx.mono e1)
    | true => exact c F1 H1 G1 _ _ e1 rs1 (.bl _) q1
  | _ => exact False.elim q1
theorem de_not (h : DE X W a da) : DE X W (.UnaryOp .Not a pos) (dNotV da) := by
  obtain ⟨t, p, q⟩ := h
  refine ⟨⟨_, pe_not p, fun F σ H s G Qd Ed Q rs st hq c cx => q F σ H s G _ Ed _ rs st hq (fun F1 H1 G1 v x e1 rs1 rv q1 => ?_) cx⟩⟩
  cases rv with
  | bl k => exact ⟨k, rfl, c F1 H1 G1 _ _ e1 rs1 (.bl _) q1⟩
  | _ => exact False.elim q1
abbrev dIf (t : DTT) (da db : DTE) : DTE := fun s G Q E => t s G (fun c G1 => if c = true then da s G1 Q E else db s G1 Q E) E
theorem de_ifExp {c : Expr} (hc : DT X W c tA) (h : DE X W a da) (h2 : DE X W b db) : DE X W (.IfExp c a b pos) (dIf tA da db) := by
  obtain ⟨t0, p0, q0⟩ := hc
  obtain ⟨t, p, q⟩ := h
  obtain ⟨u, p2, q2⟩ := h2
  refine ⟨⟨_, pe_ifExp p0 p p2, fun F σ H s G Qd Ed Q rs st hq c cx => q0 F σ H s G _ Ed _ rs st hq (fun F1 H1 G1 k e1 rs1 q1 => ?_) cx⟩⟩
  cases k with
  | true => exact q F1 σ H1 s G1 Qd Ed Q rs1 (st.mono e1) q1 (c.mono e1) (cx.mono e1)
  | false => exact q2 F1 σ H1 s G1 Qd Ed Q rs1 (st.mono e1) q1 (c.mono e1) (cx.mono e1)

/-! arguments, displays -/
abbrev dNil : DTA := fun _ G Q _ => Q [] G
abbrev dCons (d : DTE) (ds : DTA) : DTA := fun s G Q E => d s G (fun x G1 => ds s G1 (fun xs G2 => Q (x :: xs) G2) E) E
variable {e : Expr} {es : List Expr} {de : DTE} {dA : DTA}
theorem da_nil : DA X W [] dNil := ⟨⟨_, pa_nil, fun F σ H s G Qd Ed Q rs st q c cx => c F H G [] [] (FSame.refl F) rs .nil q⟩⟩
theorem da_cons (h : DE X W e de) (h2 : DA X W es dA) (hs : starEach (e :: es) X.env = (false, eval e X.env) :: starEach es X.env := by rfl) : DA X W (e :: es) (dCons de dA) := by
  obtain ⟨t, p, q⟩ := h
  obtain ⟨u, p2, q2⟩ := h2
  exact ⟨⟨_, pa_cons p p2 hs, fun F σ H s G Qd Ed Q rs st hq c cx => q F σ H s G _ Ed _ rs st hq (fun F1 H1 G1 v x e1 rs1 rv q1 =>
    q2 F1 σ H1 s G1 _ Ed _ rs1 (st.mono e1) q1 (fun F2 H2 G2 vs xs e2 rs2 rvs q2 => c F2 H2 G2 _ _ (e1.trans e2) rs2 (.cons (rv.mono e2) rvs) q2) (cx.mono e1)) cx⟩⟩
abbrev dTup (d : DTA) : DTE := fun s G Q E => d s G (fun xs G1 => xs.length ≤ sizeLine ∧ Q (.tup xs) G1) E
abbrev dLst (d : DTA) : DTE := fun s G Q E => d s G (fun xs G1 => xs.length ≤ sizeLine ∧ Q (.lst xs) G1) E
/-- a display that may still change -/
abbrev dLstM (d : DTA) : DTE := fun s G Q E => d s G (fun xs G1 => xs.length ≤ sizeLine ∧ ∀ p, G1 p = none → Q (.ref p) (gupd G1 p (.lst xs))) E
theorem de_tup {k : Nat} (h : DA X W es dA) : DE X W (.Tuple es k pos) (dTup dA) := by
  obtain ⟨t, p, q⟩ := h
  exact ⟨⟨_, pe_tup p, fun F σ H s G Qd Ed Q rs st hq c cx => q F σ H s G _ Ed _ rs st hq (fun F1 H1 G1 vs xs e1 rs1 rv q1 => ⟨by rw [rv.length]; exact q1.1, (c.mono e1).tup rs1 rv q1.2⟩) cx⟩⟩
theorem de_lst (h : DA X W es dA) : DE X W (.List es pos) (dLst dA) := by
  obtain ⟨t, p, q⟩ := h
  exact ⟨⟨_, pe_lst p, fun F σ H s G Qd Ed Q rs st hq c cx => q F σ H s G _ Ed _ rs st hq (fun F1 H1 G1 vs xs e1 rs1 rv q1 => ⟨by rw [rv.length]; exact q1.1, (c.mono e1).lst rs1 rv q1.2⟩) cx⟩⟩
theorem de_lstM (h : DA X W es dA) : DE X W (.List es pos) (dLstM dA) := by
  obtain ⟨t, p, q⟩ := h
  exact ⟨⟨_, pe_lst p, fun F σ H s G Qd Ed Q rs st hq c cx => q F σ H s G _ Ed _ rs st hq (fun F1 H1 G1 vs xs e1 rs1 rv q1 => ⟨by rw [rv.length]; exact q1.1, (c.mono e1).lstM rs1 rv q1.2⟩) cx⟩⟩

/-- a display that is a law's stream -/
abbrev dStrm (d : DTA) : DTE := fun s G Q E => d s G (fun xs G1 => match xs with
  | [.int _, .int _, .int _] => Q .strm G1
  | _ => False) E
theorem de_strm (h : DA X W es dA) : DE X W (.List es pos) (dStrm dA) := by
  obtain ⟨t, p, q⟩ := h
  refine ⟨⟨_, pe_lst p, fun F σ H s G Qd Ed Q rs st hq c cx => q F σ H s G _ Ed _ rs st hq (fun F1 H1 G1 vs xs e1 rs1 rv q1 => ?_) cx⟩⟩
  split at q1
  · rename_i x k y
    cases rv with
    | cons r1 rv =>
      cases rv with
      | cons r2 rv =>
        cases rv with
        | cons r3 rv =>
          cases rv
          cases r1
          cases r2
          cases r3
          refine ⟨by show 3 ≤ sizeLine; decide, fun p hp => ?_⟩
          obtain ⟨h1, h2⟩ := rs1.newS hp x k y
          exact c _ _ G1 _ _ (e1.trans h2) h1 (.strm fupd_same) q1
  · exact q1.elim

/-! subscripts -/
def gIx : G2 := fun x y G Q => match y with
  | .int i => match x with
    | .tup ds => match atI ds i with
      | some d => Q d G
      | none => False
    | .scr ns => match atI ns i with
      | some n => Q (.int n) G
      | none => False
    | .strm => (0 ≤ i ∧ i < 3) ∧ ∀ n : Int, Q (.int n) G
    | .str z => z.length ≤ sizeLine ∧ match atI z.cps.toList i with
      | some k => Q (.str ⟨#[k]⟩) G
      | none => False
    | x => match lv x G with
      | some ds => match atI ds i with
        | some d => Q d G
        | none => False
      | none => False
  | _ => False
theorem atI_rep {K : PySem.W.Frag} {F : Fp} {xs : List V} {ds : List D} {i : Int} {d : D} (r : RepL K F xs ds) (h : atI ds i = some d) : ∃ v, atI xs i = some v ∧ Rep K F v d := by
  unfold atI at h ⊢
  rw [r.length]
  cases q : ixN ds.length i with
  | none =>
    rw [q] at h
    cases h
  | some j =>
    rw [q] at h
    exact r.get h
theorem atI_map {α β : Type} (f : α → β) {xs : List α} {i : Int} {x : α} (h : atI xs i = some x) : atI (xs.map f) i = some (f x) := by
  unfold atI at h ⊢
  rw [List.length_map]
  cases q : ixN xs.length i with
  | none =>
    rw [q] at h
    cases h
  | some j =>
    rw [q] at h
    rw [Option.bind_some] at h ⊢
    rw [List.getElem?_map, h]
    rfl
theorem opa_ix {K : PySem.W.Frag} : OpA K (rIx K) gIx := fun F H G x y dx dy Qd Q rs rx ry q c => by
  have viaL : ∀ i, (match lv dx G with
      | some ds => match atI ds i with
        | some d => Qd d G
        | none => False
      | none => False) → rIx K x (.int i) H Q := fun i q => by
    split at q
    · rename_i ds e
      split at q
      · rename_i d ed
        obtain ⟨a, xs, rfl, h1, r1⟩ := lv_at rs rx e
        obtain ⟨v, h2, r2⟩ := atI_rep r1 ed
        exact .inl ⟨a, xs, i, v, rfl, rfl, .inl (.inl h1), h2, c F H G v d (FSame.refl F) rs r2 q⟩
      · exact q.elim
    · exact q.elim
  cases ry with
  | int i =>
    cases rx with
    | @tup a xs ds h1 r1 =>
      unfold gIx at q
      dsimp only at q
      split at q
      · rename_i d ed
        obtain ⟨v, h2, r2⟩ := atI_rep r1 ed
        exact .inr (.inl ⟨a, xs, i, v, rfl, rfl, same_t rs.same h1, h2, c F H G v d (FSame.refl F) rs r2 q⟩)
      · exact q.elim
    | @scr a ns h1 =>
      unfold gIx at q
      dsimp only at q
      split at q
      · rename_i n en
        exact .inl ⟨a, _, i, _, rfl, rfl, rs.same.seq h1, atI_map V.int en, c F H G _ _ (FSame.refl F) rs (.int n) q⟩
      · exact q.elim
    | ref a => exact viaL i q
    | lst h r => exact viaL i q
    | exn _ _ _ => exact viaL i q
    | non => exact viaL i q
    | bl _ => exact viaL i q
    | int _ => exact viaL i q
    | str z =>
      obtain ⟨hz, q⟩ : z.length ≤ sizeLine ∧ (match atI z.cps.toList i with
        | some k => Qd (.str ⟨#[k]⟩) G
        | none => False) := q
      split at q
      · rename_i k ek
        exact .inr (.inr ⟨z, i, k, rfl, rfl, hz, ek, c F H G _ _ (FSame.refl F) rs (.str _) q⟩)
      · exact q.elim
    | ty _ => exact viaL i q
    | glo _ => exact viaL i q
    | strm h =>
      obtain ⟨x, k, y, e⟩ := rs.st _ h
      have q2 : (0 ≤ i ∧ i < 3) ∧ ∀ n : Int, Qd (.int n) G := q
      have fin : ∀ n : Int, Q (.int n) H := fun n => c F H G _ _ (FSame.refl F) rs (.int n) (q2.2 n)
      have hi : i = 0 ∨ i = 1 ∨ i = 2 := by omega
      rcases hi with rfl | rfl | rfl
      · exact .inl ⟨_, _, _, _, rfl, rfl, .inl (.inl e), rfl, fin x⟩
      · exact .inl ⟨_, _, _, _, rfl, rfl, .inl (.inl e), rfl, fin k⟩
      · exact .inl ⟨_, _, _, _, rfl, rfl, .inl (.inl e), rfl, fin y⟩
  | _ => exact False.elim q
theorem de_ix (h : DE X W a da) (h2 : DE X W b db) (hp : PlainIx b := by exact fun _ _ => rfl) : DE X W (.Subscript a b pos) (dOp gIx da db) := by
  obtain ⟨t, p, q⟩ := h
  obtain ⟨u, p2, q2⟩ := h2
  exact ⟨⟨_, pe_ix ix_seq p p2 hp, ae_op opa_ix q q2⟩⟩
/-! slices -/
abbrev DTO := DSt → Gp → (Option Int → Gp → Prop) → DX → Prop
def AO (K : PySem.W.Frag) (W : WX) (t : TO) (d : DTO) : Prop := ∀ F σ H s G Qd Ed (Q : Option Int → Hp → Prop), RS K F H G → RepSt K F σ s → d s G Qd Ed → (∀ F' H' G' o, FSame F F' → RS K F' H' G' → Qd o G' → Q o H') → ContX K F W σ Ed → t σ H Q
structure DO (X : Cx) (W : WX) (e : Option Expr) (d : DTO) : Prop where
  ex : ∃ t, PO X e t ∧ AO X.K W t d
abbrev dNoPart : DTO := fun _ G Q _ => Q none G
abbrev dPart (d : DTE) : DTO := fun s G Q E => d s G (fun x G1 => match x with
  | .int i => Q (some i) G1
  | _ => False) E
theorem do_none : DO X W none dNoPart := ⟨⟨_, po_none, fun F σ H s G Qd Ed Q rs st q c cx => c F H G none (FSame.refl F) rs q⟩⟩
theorem do_some (h : DE X W e de) : DO X W (some e) (dPart de) := by
  obtain ⟨t, p, q⟩ := h
  refine ⟨⟨_, po_some p, fun F σ H s G Qd Ed Q rs st hq c cx => q F σ H s G _ Ed _ rs st hq (fun F1 H1 G1 v x e1 rs1 rv q1 => ?_) cx⟩⟩
  cases rv with
  | int i => exact ⟨i, rfl, c F1 H1 G1 _ e1 rs1 q1⟩
  | _ => exact False.elim q1
def cutD (xs : List D) (lo hi : Option Int) : List D := (xs.drop (HT.sIx xs.length 0 lo)).take (HT.sIx xs.length xs.length hi - HT.sIx xs.length 0 lo)
theorem RepL.cut {K : PySem.W.Frag} {F : Fp} {xs : List V} {ds : List D} (r : RepL K F xs ds) (lo hi : Option Int) : RepL K F (cutV xs lo hi) (cutD ds lo hi) := by
  unfold cutV cutD
  rw [r.length]
  exact (r.drop _).take _
theorem cutD_len (xs : List D) (lo hi : Option Int) : (cutD xs lo hi).length ≤ xs.length := by
  unfold cutD
  rw [List.length_take, List.length_drop]
  omega
def gSl (x : D) (lo hi : Option Int) (G : Gp) (Q : DK) : Prop := match x with
  | .tup ds => Q (.tup (cutD ds lo hi)) G
  | x => match lv x G with
    | some ds => Q (.lst (cutD ds lo hi)) G
    | none => False
/-- a slice of a list that may still change -/
def gSlM (x : D) (lo hi : Option Int) (G : Gp) (Q : DK) : Prop := match lv x G with
    | some ds => ∀ p, G p = none → Q (.ref p) (gupd G p (.lst (cutD ds lo hi)))
    | none => False
abbrev dSl (g : D → Option Int → Option Int → Gp → DK → Prop) (d : DTE) (l h : DTO) : DTE := fun s G Q E => d s G (fun x G1 => l s G1 (fun lo G2 => h s G2 (fun hi G3 => g x lo hi G3 Q) E) E) E
theorem ae_sl {K : PySem.W.Frag} {r : V → Option Int → Option Int → Hp → VK → Prop} {g : D → Option Int → Option Int → Gp → DK → Prop} (hr : ∀ F H G x dx lo hi Qd Q, RS K F H G → Rep K F x dx → g dx lo hi G Qd → Cont K F Qd Q → r x lo hi H Q)
    {te : TE} {tl th : TO} {d : DTE} {l h : DTO} (q : AE K W te d) (ql : AO K W tl l) (qh : AO K W th h) : AE K W (tSl r te tl th) (dSl g d l h) := fun F σ H s G Qd Ed Q rs st hq c cx =>
  q F σ H s G _ Ed _ rs st hq (fun F1 H1 G1 v x e1 rs1 rv q1 => ql F1 σ H1 s G1 _ Ed _ rs1 (st.mono e1) q1 (fun F2 H2 G2 lo e2 rs2 q2 =>
    qh F2 σ H2 s G2 _ Ed _ rs2 (st.mono (e1.trans e2)) q2 (fun F3 H3 G3 hi e3 rs3 q3 => hr F3 H3 G3 v x lo hi Qd Q rs3 (rv.mono (e2.trans e3)) q3 (c.mono ((e1.trans e2).trans e3))) (cx.mono (e1.trans e2))) (cx.mono e1)) cx
variable {lo hi : Option Expr} {dl dh : DTO}
theorem whole_cut {α : Type} (xs : List α) (lo hi : Option Int) (h : HT.sIx xs.length 0 lo = 0 ∧ HT.sIx xs.length xs.length hi = xs.length) : (xs.drop (HT.sIx xs.length 0 lo)).take (HT.sIx xs.length xs.length hi - HT.sIx xs.length 0 lo) = xs := by
  rw [h.1, h.2, Nat.sub_zero, List.drop_zero, List.take_length]
theorem de_slice {p2 : Pos} (h : DE X W e de) (hl : DO X W lo dl) (hh : DO X W hi dh) : DE X W (.Subscript e (.Slice lo hi none p2) pos) (dSl gSl de dl dh) := by
  obtain ⟨t, p, q⟩ := h
  obtain ⟨tl, pl, ql⟩ := hl
  obtain ⟨th, ph, qh⟩ := hh
  refine ⟨⟨_, pe_slice (sl_tupA.or sl_list) p pl ph, ae_sl (fun F H G x dx lo hi Qd Q rs rx q c => ?_) q ql qh⟩⟩
  have viaL : (match lv dx G with
    | some ds => Qd (.lst (cutD ds lo hi)) G
    | none => False) → rSlA X.K x lo hi H Q ∨ rSlL X.K x lo hi H Q := fun q => by
    split at q
    · rename_i ds e
      obtain ⟨a, xs, rfl, h1, r1⟩ := lv_at rs rx e
      exact .inr ⟨a, xs, rfl, .inl (.inl h1), c.lst rs (r1.cut lo hi) q⟩
    · exact q.elim
  cases rx with
  | @tup a xs ds h1 r1 =>
    refine .inl ⟨a, xs, rfl, same_t rs.same h1, fun z => ?_, fun _ => c.tup rs (r1.cut lo hi) q⟩
    have w : cutD ds lo hi = ds := by
      rw [r1.length] at z
      exact whole_cut ds lo hi z
    have q' : Qd (.tup (cutD ds lo hi)) G := q
    rw [w] at q'
    exact c F H G _ _ (FSame.refl F) rs (.tup h1 r1) q'
  | ref a => exact viaL q
  | lst h r => exact viaL q
  | non => exact viaL q
  | bl _ => exact viaL q
  | int _ => exact viaL q
  | str _ => exact viaL q
  | ty _ => exact viaL q
  | glo _ => exact viaL q
  | strm _ => exact viaL q
  | scr _ => exact viaL q
  | exn _ _ _ => exact viaL q
theorem de_sliceM {p2 : Pos} (h : DE X W e de) (hl : DO X W lo dl) (hh : DO X W hi dh) : DE X W (.Subscript e (.Slice lo hi none p2) pos) (dSl gSlM de dl dh) := by
  obtain ⟨t, p, q⟩ := h
  obtain ⟨tl, pl, ql⟩ := hl
  obtain ⟨th, ph, qh⟩ := hh
  refine ⟨⟨_, pe_slice sl_list p pl ph, ae_sl (fun F H G x dx lo hi Qd Q rs rx q c => ?_) q ql qh⟩⟩
  unfold gSlM at q
  split at q
  · rename_i ds e
    obtain ⟨a, xs, rfl, h1, r1⟩ := lv_at rs rx e
    exact ⟨a, xs, rfl, .inl (.inl h1), c.lstM rs (r1.cut lo hi) q⟩
  · exact q.elim
end
end Dl
set_option Elab.async false
set_option linter.all false
set_option maxRecDepth 100000
set_option maxHeartbeats 4000000
namespace Dl
open PySem PySem.Spec PyProof.Rows L2
set_option autoImplicit false
section
variable {X : Cx} {W : WX}
/-! calls of the text's own functions -/
abbrev dCall (sp : DSp) (dA : DTA) : DTE := fun s G Q E => dA s G (fun ds G1 => sp ds G1 Q E) E
variable {e : Expr} {es : List Expr} {de : DTE} {dA : DTA} {pos : Pos}
theorem ae_call {K : PySem.W.Frag} {sp : DSp} {t : TA} (h : AA K W t dA) : AE K W (tCallSD (lift K sp) [] (WE W) t) (dCall sp dA) := fun F σ H s G Qd Ed Q rs st q c cx =>
  h F σ H s G _ Ed _ rs st q (fun F1 H1 G1 vs xs e1 rs1 rv q1 => by
    rw [List.append_nil]
    exact ⟨F1, G1, xs, Qd, Ed, rs1, rv, q1, c.mono e1, fun F2 H2 G2 cls dd x e2 rs2 rx q2 => cx F2 H2 G2 cls dd x (e1.trans e2) rs2 rx q2⟩) cx
theorem de_call {x : Str} {k : Nat} {ps : List Str} {sp : DSp} {p : Pos} (c : Callee X.prog X.w X.K X.mg X.base x k ps sp) (hr : Room k X.A) (tk : Takes X W) (ha : DA X W (e :: es) dA)
    (hg : Gl X x := by rfl) (hdb : (x == ("__debug__" : Str)) = false := by decide) (he : starEach (e :: es) X.env = (false, eval e X.env) :: starEach es X.env := by rfl) (hpl : (backTo pos (starEach es X.env)).any (·.1) = false := by rfl) :
    DE X W (.Call (.Name x p) (e :: es) [] pos) (dCall sp dA) := by
  obtain ⟨⟨fd, F, hb⟩, g, kp⟩ := c
  obtain ⟨t, p, q⟩ := ha
  exact ⟨⟨_, pe_callSD F hr hg g kp hb .nil (fun σ => passAt tk σ) p hdb he hpl, ae_call q⟩⟩

/-! built-in functions and classes -/
abbrev GC := List D → Gp → DK → Prop
structure DCall (X : Cx) (f : Value) (g : GC) : Prop where
  ex : ∃ r, CallR X f r ∧ ∀ F H G vs xs Qd Q, RS X.K F H G → RepL X.K F vs xs → g xs G Qd → Cont X.K F Qd Q → r vs H Q
abbrev dCB (g : GC) (dA : DTA) : DTE := fun s G Q E => dA s G (fun xs G1 => g xs G1 Q) E
theorem de_callB {id : String} {g : GC} {x : Str} {p : Pos} (hc : DCall X (.builtin id) g) (hm : X.mg x = none) (hv : bootBuiltins x = some (.builtin id)) (ha : DA X W (e :: es) dA) (hg : Gl X x := by rfl) (hn : x ≠ "__name__" := by decide) (hdb : (x == ("__debug__" : Str)) = false := by decide)
    (he : starEach (e :: es) X.env = (false, eval e X.env) :: starEach es X.env := by rfl) (hpl : (backTo pos (starEach es X.env)).any (·.1) = false := by rfl) : DE X W (.Call (.Name x p) (e :: es) [] pos) (dCB g dA) := by
  obtain ⟨r, h1, h2⟩ := hc
  obtain ⟨t, p, q⟩ := ha
  exact ⟨⟨_, pe_callB h1 hg hm hv p hn hdb he hpl, fun F σ H s G Qd Ed Q rs st hq c cx => q F σ H s G _ Ed _ rs st hq (fun F1 H1 G1 vs xs e1 rs1 rv q1 => h2 F1 H1 G1 vs xs Qd Q rs1 rv q1 (c.mono e1)) cx⟩⟩
theorem de_callTy {n : String} {g : GC} {x : Str} {p : Pos} (hc : DCall X (.type n) g) (hm : X.mg x = none) (hv : bootBuiltins x = some (.type n)) (ha : DA X W (e :: es) dA) (hg : Gl X x := by rfl) (hn : x ≠ "__name__" := by decide) (hdb : (x == ("__debug__" : Str)) = false := by decide)
    (he : starEach (e :: es) X.env = (false, eval e X.env) :: starEach es X.env := by rfl) (hpl : (backTo pos (starEach es X.env)).any (·.1) = false := by rfl) : DE X W (.Call (.Name x p) (e :: es) [] pos) (dCB g dA) := by
  obtain ⟨r, h1, h2⟩ := hc
  obtain ⟨t, p, q⟩ := ha
  exact ⟨⟨_, pe_callTy h1 hg hm hv p hn hdb he hpl, fun F σ H s G Qd Ed Q rs st hq c cx => q F σ H s G _ Ed _ rs st hq (fun F1 H1 G1 vs xs e1 rs1 rv q1 => h2 F1 H1 G1 vs xs Qd Q rs1 rv q1 (c.mono e1)) cx⟩⟩
theorem repl1 {K : PySem.W.Frag} {F : Fp} {vs : List V} {x : D} (r : RepL K F vs [x]) : ∃ v, vs = [v] ∧ Rep K F v x := by
  cases r with
  | cons h r =>
    cases r
    exact ⟨_, rfl, h⟩
theorem repl2 {K : PySem.W.Frag} {F : Fp} {vs : List V} {x y : D} (r : RepL K F vs [x, y]) : ∃ v u, vs = [v, u] ∧ Rep K F v x ∧ Rep K F u y := by
  cases r with
  | cons h r =>
    obtain ⟨u, rfl, h2⟩ := repl1 r
    exact ⟨_, _, rfl, h, h2⟩
/-- a built-in of one place, of two -/
def g1 (g : D → Gp → DK → Prop) : GC := fun xs G Q => match xs with
  | [x] => g x G Q
  | _ => False
def g2 (g : D → D → Gp → DK → Prop) : GC := fun xs G Q => match xs with
  | [x, y] => g x y G Q
  | _ => False
theorem dcall1 {f : Value} {g : D → Gp → DK → Prop} {r : List V → Hp → VK → Prop} (h : CallR X f r) (hg : ∀ F H G v x Qd Q, RS X.K F H G → Rep X.K F v x → g x G Qd → Cont X.K F Qd Q → r [v] H Q) : DCall X f (g1 g) := ⟨⟨r, h, fun F H G vs xs Qd Q rs rv q c => by
  unfold g1 at q
  split at q
  · obtain ⟨v, rfl, r1⟩ := repl1 rv
    exact hg F H G v _ Qd Q rs r1 q c
  · exact q.elim⟩⟩
theorem dcall2 {f : Value} {g : D → D → Gp → DK → Prop} {r : List V → Hp → VK → Prop} (h : CallR X f r) (hg : ∀ F H G v u x y Qd Q, RS X.K F H G → Rep X.K F v x → Rep X.K F u y → g x y G Qd → Cont X.K F Qd Q → r [v, u] H Q) : DCall X f (g2 g) := ⟨⟨r, h, fun F H G vs xs Qd Q rs rv q c => by
  unfold g2 at q
  split at q
  · obtain ⟨v, u, rfl, r1, r2⟩ := repl2 rv
    exact hg F H G v u _ _ Qd Q rs r1 r2 q c
  · exact q.elim⟩⟩
def gLen : D → Gp → DK → Prop := fun x G Q => match x with
  | .tup ds => Q (.int ds.length) G
  | .scr ns => Q (.int ns.length) G
  | .str z => z.length ≤ sizeLine ∧ Q (.int z.length) G
  | x => match lv x G with
    | some ds => Q (.int ds.length) G
    | none => False
theorem dc_len : DCall X (.builtin "len") (g1 gLen) := dcall1 call_len fun F H G v x Qd Q rs rv q c => by
  have viaL : (match lv x G with
    | some ds => Qd (.int ds.length) G
    | none => False) → ∃ x n, [v] = [x] ∧ LenV X.K x H n ∧ Q (.int n) H := fun q => by
    split at q
    · rename_i ds e
      obtain ⟨a, xs, rfl, h1, r1⟩ := lv_at rs rv e
      exact ⟨_, xs.length, rfl, .inl ⟨xs, .inl (.inl h1), rfl⟩, by rw [r1.length]; exact c F H G _ _ (FSame.refl F) rs (.int _) q⟩
    · exact q.elim
  cases rv with
  | @tup a xs ds h1 r1 => exact ⟨_, xs.length, rfl, .inr ⟨xs, same_t rs.same h1, rfl⟩, by rw [r1.length]; exact c F H G _ _ (FSame.refl F) rs (.int _) q⟩
  | @scr a ns h1 => exact ⟨_, _, rfl, .inl ⟨_, rs.same.seq h1, rfl⟩, by rw [List.length_map]; exact c F H G _ _ (FSame.refl F) rs (.int _) q⟩
  | str z => exact ⟨_, z.length, rfl, ⟨q.1, rfl⟩, c F H G _ _ (FSame.refl F) rs (.int _) q.2⟩
  | ref a => exact viaL q
  | exn _ _ _ => exact viaL q
  | lst h r => exact viaL q
  | non => exact viaL q
  | bl _ => exact viaL q
  | int _ => exact viaL q
  | ty _ => exact viaL q
  | glo _ => exact viaL q
  | strm _ => exact viaL q
def gInt : D → Gp → DK → Prop := fun x G Q => match x with
  | .int i => Q (.int i) G
  | .bl b => Q (.int (if b then 1 else 0)) G
  | _ => False
theorem dc_int : DCall X (.type "int") (g1 gInt) := dcall1 call_int1 fun F H G v x Qd Q rs rv q c => by
  cases rv with
  | int i => exact .inl ⟨i, rfl, c F H G _ _ (FSame.refl F) rs (.int _) q⟩
  | bl b => exact .inr ⟨b, rfl, c F H G _ _ (FSame.refl F) rs (.int _) q⟩
  | _ => exact False.elim q
def gAbs : D → Gp → DK → Prop := fun x G Q => match x with
  | .int i => Q (.int (if i < 0 then -i else i)) G
  | _ => False
theorem dc_abs : DCall X (.builtin "abs") (g1 gAbs) := dcall1 call_abs fun F H G v x Qd Q rs rv q c => by
  cases rv with
  | int i => exact ⟨i, rfl, c F H G _ _ (FSame.refl F) rs (.int _) q⟩
  | _ => exact False.elim q
theorem dc_gcd : DCall X (.builtin "math.gcd") (g2 (gI0 fun i j => .int ((Nat.gcd i.natAbs j.natAbs : Nat) : Int))) := dcall2 cr_gcd fun F H G v u x y Qd Q rs rv ru q c => by
  cases rv with
  | int i =>
    cases ru with
    | int j => exact ⟨i, j, rfl, c F H G _ _ (FSame.refl F) rs (.int _) q⟩
    | _ => exact False.elim q
  | _ => exact False.elim q
theorem dc_max2 (hc : X.calm = true) : DCall X (.builtin "max") (g2 (gI0 fun i j => .int (if j > i then j else i))) := dcall2 (call_max2 hc) fun F H G v u x y Qd Q rs rv ru q c => by
  cases rv with
  | int i =>
    cases ru with
    | int j => exact ⟨i, j, rfl, c F H G _ _ (FSame.refl F) rs (.int _) q⟩
    | _ => exact False.elim q
  | _ => exact False.elim q
theorem dc_min2 (hc : X.calm = true) : DCall X (.builtin "min") (g2 (gI0 fun i j => .int (if j < i then j else i))) := dcall2 (call_min2 hc) fun F H G v u x y Qd Q rs rv ru q c => by
  cases rv with
  | int i =>
    cases ru with
    | int j => exact ⟨i, j, rfl, c F H G _ _ (FSame.refl F) rs (.int _) q⟩
    | _ => exact False.elim q
  | _ => exact False.elim q
def gListOf : D → Gp → DK → Prop := fun x G Q => match x with
  | .tup ds => Q (.lst ds) G
  | .scr ns => Q (.lst (ns.map .int)) G
  | x => match lv x G with
    | some ds => Q (.lst ds) G
    | none => False
theorem dc_list : DCall X (.type "list") (g1 gListOf) := dcall1 call_list_of fun F H G v x Qd Q rs rv q c => by
  have viaL : (match lv x G with
    | some ds => Qd (.lst ds) G
    | none => False) → ∃ p ys, [v] = [.ref p] ∧ (SqL X.K H p ys ∨ SqT X.K H p ys) ∧ ∀ l, H l = none → Q (.ref l) (upd H l (.lst ys)) := fun q => by
    split at q
    · rename_i ds e
      obtain ⟨a, xs, rfl, h1, r1⟩ := lv_at rs rv e
      exact ⟨a, xs, rfl, .inl (.inl (.inl h1)), c.lst rs r1 q⟩
    · exact q.elim
  cases rv with
  | @tup a xs ds h1 r1 => exact ⟨a, xs, rfl, .inr (same_t rs.same h1), c.lst rs r1 q⟩
  | @scr a ns h1 => exact ⟨a, _, rfl, .inl (rs.same.seq h1), c.lst rs (repl_of_int ns) q⟩
  | exn _ _ _ => exact viaL q
  | ref a => exact viaL q
  | lst h r => exact viaL q
  | str _ => exact viaL q
  | non => exact viaL q
  | bl _ => exact viaL q
  | int _ => exact viaL q
  | ty _ => exact viaL q
  | glo _ => exact viaL q
  | strm _ => exact viaL q
/-- list(..), to be changed -/
def gListM : D → Gp → DK → Prop := fun x G Q => match x with
  | .tup ds => ∀ p, G p = none → Q (.ref p) (gupd G p (.lst ds))
  | .scr ns => ∀ p, G p = none → Q (.ref p) (gupd G p (.lst (ns.map .int)))
  | x => match lv x G with
    | some ds => ∀ p, G p = none → Q (.ref p) (gupd G p (.lst ds))
    | none => False
theorem dc_listM : DCall X (.type "list") (g1 gListM) := dcall1 call_list_of fun F H G v x Qd Q rs rv q c => by
  have viaL : (match lv x G with
    | some ds => ∀ p, G p = none → Qd (.ref p) (gupd G p (.lst ds))
    | none => False) → ∃ p ys, [v] = [.ref p] ∧ (SqL X.K H p ys ∨ SqT X.K H p ys) ∧ ∀ l, H l = none → Q (.ref l) (upd H l (.lst ys)) := fun q => by
    split at q
    · rename_i ds e
      obtain ⟨a, xs, rfl, h1, r1⟩ := lv_at rs rv e
      exact ⟨a, xs, rfl, .inl (.inl (.inl h1)), c.lstM rs r1 q⟩
    · exact q.elim
  cases rv with
  | @tup a xs ds h1 r1 => exact ⟨a, xs, rfl, .inr (same_t rs.same h1), c.lstM rs r1 q⟩
  | @scr a ns h1 => exact ⟨a, _, rfl, .inl (rs.same.seq h1), c.lstM rs (repl_of_int ns) q⟩
  | exn _ _ _ => exact viaL q
  | ref a => exact viaL q
  | lst h r => exact viaL q
  | str _ => exact viaL q
  | non => exact viaL q
  | bl _ => exact viaL q
  | int _ => exact viaL q
  | ty _ => exact viaL q
  | glo _ => exact viaL q
  | strm _ => exact viaL q
def gTupOf : D → Gp → DK → Prop := fun x G Q => match x with
  | .tup ds => Q (.tup ds) G
  | x => match lv x G with
    | some ds => Q (.tup ds) G
    | none => False
theorem dc_tuple : DCall X (.type "tuple") (g1 gTupOf) := dcall1 call_tuple_of fun F H G v x Qd Q rs rv q c => by
  have viaL : (match lv x G with
    | some ds => Qd (.tup ds) G
    | none => False) → ∃ p ys, [v] = [.ref p] ∧ ((SqL X.K H p ys ∧ ∀ l, H l = none → Q (.ref l) (upd H l (.tup ys))) ∨ (SqT X.K H p ys ∧ Q (.ref p) H)) := fun q => by
    split at q
    · rename_i ds e
      obtain ⟨a, xs, rfl, h1, r1⟩ := lv_at rs rv e
      exact ⟨a, xs, rfl, .inl ⟨.inl (.inl h1), c.tup rs r1 q⟩⟩
    · exact q.elim
  cases rv with
  | @tup a xs ds h1 r1 => exact ⟨a, xs, rfl, .inr ⟨same_t rs.same h1, c F H G _ _ (FSame.refl F) rs (.tup h1 r1) q⟩⟩
  | scr _ => exact viaL q
  | exn _ _ _ => exact viaL q
  | ref a => exact viaL q
  | lst h r => exact viaL q
  | str _ => exact viaL q
  | non => exact viaL q
  | bl _ => exact viaL q
  | int _ => exact viaL q
  | ty _ => exact viaL q
  | glo _ => exact viaL q
  | strm _ => exact viaL q
/-! isinstance against a built-in class -/
def tyOf : D → Option String
  | .non => some "NoneType"
  | .bl _ => some "bool"
  | .int _ => some "int"
  | .str _ => some "str"
  | .tup _ => some "tuple"
  | .lst _ => some "list"
  | _ => none
theorem tyx_of {K : PySem.W.Frag} {F : Fp} {H : Hp} {G : Gp} {v : V} {x : D} {n : String} (rs : RS K F H G) (r : Rep K F v x) (h : tyOf x = some n) : TyX K H v (.type n) := by
  cases r with
  | non => cases h; exact .base .non
  | bl b => cases h; exact .base (.bl b)
  | int b => cases h; exact .base (.int b)
  | str b => cases h; exact .base (.str b)
  | lst h1 r1 => cases h; exact .base (.lst (rs.fr _ _ h1))
  | tup h1 r1 =>
    cases h
    rcases same_t rs.same h1 with (z | ⟨o, z⟩) | ⟨o, its, n, hk, hc, _⟩
    · exact .base (.tup z)
    · exact .fTuple z
    · exact .kTuple hk hc
  | _ => cases h
/-! which built-in class is which's; a list that may still change too -/
/-- .. of a list that may still change too -/
def tyG (x : D) (G : Gp) : Option String := match x with
  | .ref a => match G a with
    | some (.lst _) => some "list"
    | _ => none
  | x => tyOf x
theorem tyx_ofG {K : PySem.W.Frag} {F : Fp} {H : Hp} {G : Gp} {v : V} {x : D} {n : String} (rs : RS K F H G) (r : Rep K F v x) (h : tyG x G = some n) : TyX K H v (.type n) := by
  cases x with
  | ref a =>
    have h' : (match G a with
      | some (.lst _) => some "list"
      | _ => none) = some n := h
    split at h'
    · rename_i ds eg
      cases h'
      cases r
      obtain ⟨xs, h1, _⟩ := (rs.gf a _ eg).2
      exact .base (.lst h1)
    · cases h'
  | _ => exact tyx_of rs r h
def gIsi : D → D → Gp → DK → Prop := fun x c G Q => match c with
  | .ty n => match tyG x G with
    | some m => match kitB m n with
      | some b => Q (.bl b) G
      | none => False
    | none => False
  | _ => False
theorem dc_isi : DCall X (.builtin "isinstance") (g2 gIsi) := dcall2 call_isi fun F H G v u x y Qd Q rs rv ru q c => by
  cases ru with
  | ty n =>
    unfold gIsi at q
    dsimp only at q
    split at q
    · rename_i m e
      split at q
      · rename_i b eb
        exact ⟨v, _, _, _, b, rfl, .ty n, tyx_ofG rs rv e, kit_ty eb, c F H G _ _ (FSame.refl F) rs (.bl b) q⟩
      · exact q.elim
    · exact q.elim
  | _ => exact False.elim q
end

/-! targets -/
abbrev DTG := D → DSt → Gp → (DSt → Gp → Prop) → Prop
abbrev DTGs := List D → DSt → Gp → (DSt → Gp → Prop) → Prop
def AG (K : PySem.W.Frag) (t : TG) (d : DTG) : Prop := ∀ F σ H s G v x Qd (Q : St → Hp → Prop), RS K F H G → RepSt K F σ s → Rep K F v x → d x s G Qd → ContS K F Qd Q → t v σ H Q
def AGs (K : PySem.W.Frag) (t : TGs) (d : DTGs) : Prop := ∀ F σ H s G vs xs Qd (Q : St → Hp → Prop), RS K F H G → RepSt K F σ s → RepL K F vs xs → d xs s G Qd → ContS K F Qd Q → t vs σ H Q
structure DG (X : Cx) (e : Expr) (d : DTG) : Prop where
  ex : ∃ t, PG X e t ∧ AG X.K t d
structure DGs (X : Cx) (es : List Expr) (d : DTGs) : Prop where
  ex : ∃ t, PGs X es t ∧ AGs X.K t d
/-- nothing is let out -/
abbrev W0 : WX := fun _ _ _ _ => False
abbrev X0 : DX := fun _ _ => False
theorem cx0 {K : PySem.W.Frag} {F : Fp} {W : WX} {σ : St} : ContX K F W σ X0 := fun _ _ _ _ _ _ _ _ _ q => q.elim
section
variable {X : Cx} {W : WX} {pos : Pos}
abbrev dgName (i : Nat) : DTG := fun x s G Q => Q (s.set i (some x)) G
theorem dg_name (i : Nat) {x : Str} (hN : X.N.Nodup) (hi : X.N[i]? = some x := by rfl) (hx : Loc X.env.scope x := by first | exact Or.inl rfl | exact Or.inr rfl) (hf : X.fn x = true ∨ X.env.scope.names.lookup x = some .local := by first | exact .inl rfl | exact .inr rfl) : DG X (.Name x pos) (dgName i) :=
  ⟨⟨_, pg_name hN hi hx hf, fun F σ H s G v x Qd Q rs st rv q c => c F H G _ _ (FSame.refl F) rs (st.set i rv) q⟩⟩
abbrev dgNil : DTGs := fun xs s G Q => xs = [] ∧ Q s G
abbrev dgCons (d : DTG) (ds : DTGs) : DTGs := fun xs s G Q => match xs with
  | x :: r => d x s G fun s' G' => ds r s' G' Q
  | [] => False
theorem dgs_nil : DGs X [] dgNil := ⟨⟨_, pgs_nil, fun F σ H s G vs xs Qd Q rs st rv q c => by
  obtain ⟨rfl, q⟩ := q
  cases rv
  exact ⟨rfl, c F H G _ _ (FSame.refl F) rs st q⟩⟩⟩
theorem dgs_cons {e : Expr} {es : List Expr} {d : DTG} {ds : DTGs} (h : DG X e d) (h2 : DGs X es ds) (hs : (assignEach (e :: es) X.env).map (·.2) = assign e X.env :: (assignEach es X.env).map (·.2) := by rfl) : DGs X (e :: es) (dgCons d ds) := by
  obtain ⟨t, p, a⟩ := h
  obtain ⟨u, p2, a2⟩ := h2
  refine ⟨⟨_, pgs_cons p p2 hs, fun F σ H s G vs xs Qd Q rs st rv q c => ?_⟩⟩
  cases rv with
  | nil => exact False.elim q
  | cons rx rr =>
    rename_i x0 d0 xs0 ds0
    refine ⟨_, _, rfl, a F σ H s G _ _ _ _ rs st rx q fun F1 H1 G1 σ1 s1 e1 rs1 st1 q1 => ?_⟩
    exact a2 F1 σ1 H1 s1 G1 _ _ Qd Q rs1 st1 (rr.mono e1) q1 (c.mono e1)
/-- (a, b, ..) = a tuple, a list of that length -/
abbrev dgTup (n : Nat) (d : DTGs) : DTG := fun x s G Q => match x with
  | .tup ds => ds.length = n ∧ d ds s G Q
  | x => match lv x G with
    | some ds => ds.length = n ∧ d ds s G Q
    | none => False
theorem pg_or {e : Expr} {t u : TG} (h : PG X e t) (h2 : PG X e u) : PG X e (fun v σ H Q => t v σ H Q ∨ u v σ H Q) :=
  ⟨fun pins s σ H v w Q I r q => q.elim (fun q => h.run pins s σ H v w Q I r q) fun q => h2.run pins s σ H v w Q I r q⟩
theorem dg_tup {es : List Expr} {k n : Nat} {d : DTGs} (hc : X.calm = true) (h : DGs X es d)
    (hn : (assignEach es X.env).length = n := by rfl) (hst : (assignEach es X.env).findIdx? (·.1) = none := by rfl) : DG X (.Tuple es k pos) (dgTup n d) := by
  obtain ⟨t, p, a⟩ := h
  refine ⟨⟨_, pg_or (pg_tup hc p hn hst) (pg_unl hc p hn hst), fun F σ H s G v x Qd Q rs st rv q c => ?_⟩⟩
  have viaL : (match lv x G with
    | some ds => ds.length = n ∧ d ds s G Qd
    | none => False) → gUnl X.K n t v σ H Q := fun q => by
    split at q
    · rename_i ds e
      obtain ⟨b, xs, rfl, h1, r1⟩ := lv_at rs rv e
      exact ⟨b, xs, rfl, .inl (.inl h1), by rw [r1.length]; exact q.1, a F σ H s G xs ds Qd Q rs st r1 q.2 c⟩
    · exact q.elim
  cases rv with
  | @tup b xs ds h1 r1 => exact .inl ⟨b, xs, rfl, same_t rs.same h1, by rw [r1.length]; exact q.1, a F σ H s G xs ds Qd Q rs st r1 q.2 c⟩
  | ref a => exact .inr (viaL q)
  | lst h r => exact .inr (viaL q)
  | str _ => exact .inr (viaL q)
  | non => exact .inr (viaL q)
  | bl _ => exact .inr (viaL q)
  | int _ => exact .inr (viaL q)
  | ty _ => exact .inr (viaL q)
  | glo _ => exact .inr (viaL q)
  | strm _ => exact .inr (viaL q)
  | scr _ => exact .inr (viaL q)
  | exn _ _ _ => exact .inr (viaL q)
/-- o[i] = .., a list -/
def gSetL (o i x : D) (G : Gp) (Q : Gp → Prop) : Prop := match o, i with
  | .ref a, .int k => match G a with
    | some (.lst ds) => match ixN ds.length k with
      | some j => Q (gupd G a (.lst (ds.set j x)))
      | none => False
    | _ => False
  | .strm, .int k => match x with
    | .int _ => (0 ≤ k ∧ k < 3) ∧ Q G
    | _ => False
  | _, _ => False
abbrev dgSub (do_ di : DTE) : DTG := fun x s G Q => do_ s G (fun o G1 => di s G1 (fun i G2 => gSetL o i x G2 fun G3 => Q s G3) X0) X0
theorem dg_sub {o i : Expr} {do_ di : DTE} (h : DE X W0 o do_) (h2 : DE X W0 i di) (ha : ∀ v, assign (.Subscript o i pos) X.env v = (do
      let ov ← holding [v] (eval o X.env)
      let iv ← holding [v, ov] (eval i X.env)
      standAt pos
      holding [v, ov, iv] (setItem ov iv v)
      release [v, ov, iv] []) := by intro _; rfl) : DG X (.Subscript o i pos) (dgSub do_ di) := by
  obtain ⟨t, p, a⟩ := h
  obtain ⟨u, p2, a2⟩ := h2
  refine ⟨⟨_, pg_sub p p2 set_list ha, fun F σ H s G v x Qd Q rs st rv q c => ?_⟩⟩
  refine a F σ H s G _ X0 _ rs st q (fun F1 H1 G1 ov ox e1 rs1 ro q1 => ?_) cx0
  refine a2 F1 σ H1 s G1 _ X0 _ rs1 (st.mono e1) q1 (fun F2 H2 G2 iv ix e2 rs2 ri q2 => ?_) cx0
  cases ri with
  | int k =>
    cases ro with
    | ref b =>
      unfold gSetL at q2
      dsimp only at q2
      split at q2
      · rename_i ds eg
        split at q2
        · rename_i j ej
          obtain ⟨xs, h1, r1⟩ := (rs2.gf b _ eg).2
          have rv2 := rv.mono (e1.trans e2)
          refine ⟨b, xs, k, j, rfl, rfl, h1, by rw [r1.length]; exact ej, ?_⟩
          exact c F2 _ _ σ s (e1.trans e2) (rs2.setG eg (o := .lst (xs.set j v)) (g := .lst (ds.set j x)) ⟨_, upd_same, r1.set rv2 j⟩) (st.mono (e1.trans e2)) q2
        · exact q2.elim
      · exact q2.elim
    | strm h =>
      cases x with
      | int z =>
        cases rv
        have q3 : (0 ≤ k ∧ k < 3) ∧ Qd s G2 := q2
        have h := e2 _ _ h
        obtain ⟨x, i, y, e⟩ := rs2.st _ h
        have hi : k = 0 ∨ k = 1 ∨ k = 2 := by omega
        rcases hi with rfl | rfl | rfl
        · exact ⟨_, _, 0, 0, rfl, rfl, e, rfl, c F2 _ _ σ s (e1.trans e2) (rs2.turnS h z i y) (st.mono (e1.trans e2)) q3.2⟩
        · exact ⟨_, _, 1, 1, rfl, rfl, e, rfl, c F2 _ _ σ s (e1.trans e2) (rs2.turnS h x z y) (st.mono (e1.trans e2)) q3.2⟩
        · exact ⟨_, _, 2, 2, rfl, rfl, e, rfl, c F2 _ _ σ s (e1.trans e2) (rs2.turnS h x i z) (st.mono (e1.trans e2)) q3.2⟩
      | _ => exact False.elim q2
    | _ => exact False.elim q2
  | _ =>
    unfold gSetL at q2
    cases ro <;> exact False.elim q2
end
end Dl
set_option Elab.async false
set_option linter.all false
set_option maxRecDepth 100000
set_option maxHeartbeats 4000000
namespace Dl
open PySem PySem.Spec PyProof.Rows L2
set_option autoImplicit false
/-! statements -/
section
variable {X : Cx} {W : WX} {st : Stmt} {rest : List Stmt} {d d2 : DTS} {e : Expr} {de : DTE} {pos : Pos}
abbrev dNext : DTS := fun D s G => D.nx s G
abbrev dSeq (t u : DTS) : DTS := fun D s G => t { D with nx := u D } s G
theorem dss_nil : DSs X W [] dNext := ⟨⟨_, pss_nil, fun F σ H s G Dd E rs st q r => r.nx F H G σ s (FSame.refl F) rs st q⟩⟩
theorem as_seq {K : PySem.W.Frag} {t u : TS} (h1 : AS K W t d) (h2 : AS K W u d2) : AS K W (tSeq t u) (dSeq d d2) := fun F σ H s G Dd E rs st q r =>
  h1 F σ H s G _ _ rs st q ⟨fun F1 H1 G1 σ1 s1 e1 rs1 st1 q1 => h2 F1 σ1 H1 s1 G1 Dd E rs1 st1 q1 (r.mono e1), r.rt, r.ex, r.bk, r.ct⟩
theorem dss_cons (h1 : DS X W st d) (h2 : DSs X W rest d2) : DSs X W (st :: rest) (dSeq d d2) := by
  obtain ⟨t, p, a⟩ := h1
  obtain ⟨u, p2, a2⟩ := h2
  exact ⟨⟨_, pss_cons p p2, as_seq a a2⟩⟩
theorem dss_one (h1 : DS X W st d) : DSs X W [st] d := by
  obtain ⟨t, p, a⟩ := h1
  exact ⟨⟨_, pss_one p, a⟩⟩
abbrev dBreak : DTS := fun D s G => D.bk s G
abbrev dCont : DTS := fun D s G => D.ct s G
theorem ds_pass : DS X W (.Pass pos) dNext := ⟨⟨_, ps_pass, fun F σ H s G Dd E rs st q r => r.nx F H G σ s (FSame.refl F) rs st q⟩⟩
theorem ds_break : DS X W (.Break pos) dBreak := ⟨⟨_, ps_break, fun F σ H s G Dd E rs st q r => r.bk F H G σ s (FSame.refl F) rs st q⟩⟩
theorem ds_continue : DS X W (.Continue pos) dCont := ⟨⟨_, ps_continue, fun F σ H s G Dd E rs st q r => r.ct F H G σ s (FSame.refl F) rs st q⟩⟩
abbrev dDrop (de : DTE) : DTS := fun D s G => de s G (fun _ G1 => D.nx s G1) (fun x G1 => D.ex x s G1)
theorem ds_expr (h : DE X W e de) (hs : swapsWith e none pos.line X.env = pure false := by rfl) : DS X W (.Expr e pos) (dDrop de) := by
  obtain ⟨t, p, a⟩ := h
  exact ⟨⟨_, ps_expr p hs, fun F σ H s G Dd E rs st q r => a F σ H s G _ _ _ rs st q (fun F1 H1 G1 v x e1 rs1 rv q1 => r.nx F1 H1 G1 σ s e1 rs1 (st.mono e1) q1) (r.ex.at_ st)⟩⟩
abbrev dRet (de : DTE) : DTS := fun D s G => de s G D.rt (fun x G1 => D.ex x s G1)
theorem ds_ret (h : DE X W e de) : DS X W (.Return (some e) pos) (dRet de) := by
  obtain ⟨t, p, a⟩ := h
  exact ⟨⟨_, ps_ret p, fun F σ H s G Dd E rs st q r => a F σ H s G _ _ _ rs st q r.rt (r.ex.at_ st)⟩⟩
/-- what is handed back: a list that changes no more -/
def frzD (x : D) (G : Gp) (Q : DK) : Prop := match x with
  | .ref a => match G a with
    | some (.lst ds) => Q (.lst ds) (gdel G a)
    | _ => False
  | x => Q x G
abbrev dFrz (de : DTE) : DTE := fun s G Q E => de s G (fun x G1 => frzD x G1 Q) E
theorem ae_frz {K : PySem.W.Frag} {t : TE} (h : AE K W t de) : AE K W t (dFrz de) := fun F σ H s G Qd Ed Q rs st q c cx =>
  h F σ H s G _ Ed _ rs st q (fun F1 H1 G1 v x e1 rs1 rv q1 => by
    cases rv with
    | ref a =>
      unfold frzD at q1
      dsimp only at q1
      split at q1
      · rename_i ds eg
        obtain ⟨F2, e2, rs2, r2⟩ := rs1.freeze eg
        exact c F2 H1 _ _ _ (e1.trans e2) rs2 r2 q1
      · exact q1.elim
    | non => exact c F1 H1 G1 _ _ e1 rs1 .non q1
    | bl b => exact c F1 H1 G1 _ _ e1 rs1 (.bl b) q1
    | int b => exact c F1 H1 G1 _ _ e1 rs1 (.int b) q1
    | str b => exact c F1 H1 G1 _ _ e1 rs1 (.str b) q1
    | ty b => exact c F1 H1 G1 _ _ e1 rs1 (.ty b) q1
    | glo b => exact c F1 H1 G1 _ _ e1 rs1 (.glo b) q1
    | strm b => exact c F1 H1 G1 _ _ e1 rs1 (.strm b) q1
    | tup b b2 => exact c F1 H1 G1 _ _ e1 rs1 (.tup b b2) q1
    | lst b b2 => exact c F1 H1 G1 _ _ e1 rs1 (.lst b b2) q1
    | scr b => exact c F1 H1 G1 _ _ e1 rs1 (.scr b) q1
    | exn b b2 b3 => exact c F1 H1 G1 _ _ e1 rs1 (.exn b b2 b3) q1) cx
theorem de_frz (h : DE X W e de) : DE X W e (dFrz de) := by
  obtain ⟨t, p, a⟩ := h
  exact ⟨⟨_, p, ae_frz a⟩⟩
abbrev dRetN : DTS := fun D _ G => D.rt .non G
theorem ds_retN : DS X W (.Return none pos) dRetN := ⟨⟨_, ps_retN, fun F σ H s G Dd E rs st q r => r.rt F H G _ _ (FSame.refl F) rs .non q⟩⟩
abbrev dIfS (c : DTT) (t u : DTS) : DTS := fun D s G => c s G (fun b G1 => if b = true then t D s G1 else u D s G1) (fun x G1 => D.ex x s G1)
theorem ds_if {c : Expr} {a b : List Stmt} {dc : DTT} (hc : DT X W c dc) (ha : DSs X W a d) (hb : DSs X W b d2) : DS X W (.If c a b pos) (dIfS dc d d2) := by
  obtain ⟨tc, pc, ac⟩ := hc
  obtain ⟨t, p, a⟩ := ha
  obtain ⟨u, p2, a2⟩ := hb
  refine ⟨⟨_, ps_if pc p p2, fun F σ H s G Dd E rs st q r => ac F σ H s G _ _ _ rs st q (fun F1 H1 G1 b e1 rs1 q1 => ?_) (r.ex.at_ st)⟩⟩
  cases b with
  | true => exact a F1 σ H1 s G1 Dd E rs1 (st.mono e1) q1 (r.mono e1)
  | false => exact a2 F1 σ H1 s G1 Dd E rs1 (st.mono e1) q1 (r.mono e1)
abbrev dNever : DTS := fun _ _ _ => False
theorem ds_never : DS X W st dNever := ⟨⟨_, ps_never, fun F σ H s G Dd E rs st q r => q.elim⟩⟩
abbrev dAsg (de : DTE) (g : DTG) : DTS := fun D s G => de s G (fun x G1 => g x s G1 D.nx) (fun x G1 => D.ex x s G1)
theorem ds_asg {tg : Expr} {g : DTG} (h : DE X W e de) (hg : DG X tg g) (hs : swapsWithSole [tg] e pos.line X.env = pure false := by rfl) (hw : swappedStores [tg] e X.env = pure none := by rfl)
    (h1 : (assignEach [tg] X.env).map (·.2) = [assign tg X.env] := by rfl) : DS X W (.Assign [tg] e pos) (dAsg de g) := by
  obtain ⟨t, p, a⟩ := h
  obtain ⟨u, p2, a2⟩ := hg
  exact ⟨⟨_, ps_asg p p2 hs hw h1, fun F σ H s G Dd E rs st q r => a F σ H s G _ _ _ rs st q (fun F1 H1 G1 v x e1 rs1 rv q1 => a2 F1 σ H1 s G1 v x _ _ rs1 (st.mono e1) rv q1 (r.nx.mono e1)) (r.ex.at_ st)⟩⟩
abbrev dSet (i : Nat) (de : DTE) : DTS := fun D s G => de s G (fun x G1 => D.nx (s.set i (some x)) G1) (fun x G1 => D.ex x s G1)
theorem ds_set (i : Nat) {x : Str} {pos' : Pos} (hN : X.N.Nodup) (h : DE X W e de) (hi : X.N[i]? = some x := by rfl) (hx : Loc X.env.scope x := by first | exact Or.inl rfl | exact Or.inr rfl) (hs : swapsWith e (some (.Name x pos')) pos.line X.env = pure false := by rfl)
    (hf : X.fn x = true ∨ X.env.scope.names.lookup x = some .local := by first | exact .inl rfl | exact .inr rfl) : DS X W (.Assign [.Name x pos'] e pos) (dSet i de) := by
  obtain ⟨t, p, a⟩ := h
  exact ⟨⟨_, ps_set hN hi hx p hs hf, fun F σ H s G Dd E rs st q r => a F σ H s G _ _ _ rs st q (fun F1 H1 G1 v x e1 rs1 rv q1 => r.nx F1 H1 G1 _ _ e1 rs1 ((st.mono e1).set i rv) q1) (r.ex.at_ st)⟩⟩
abbrev dPar (i j : Nat) (dA : DTA) : DTS := fun D s G => dA s G (fun xs G1 => match xs with
  | [x, y] => D.nx ((s.set i (some x)).set j (some y)) G1
  | _ => False) (fun x G1 => D.ex x s G1)
theorem ds_par {i j : Nat} {x y : Str} {a b : Expr} {dA : DTA} {px py pt : Pos} {kt k2 : Nat} {pt2 : Pos}
    (hp : ∀ ta, PA X [a, b] ta → PS X (.Assign [.Tuple [.Name x px, .Name y py] kt pt] (.Tuple [a, b] k2 pt2) pos) (tPar i j ta)) (ha : DA X W [a, b] dA) : DS X W (.Assign [.Tuple [.Name x px, .Name y py] kt pt] (.Tuple [a, b] k2 pt2) pos) (dPar i j dA) := by
  obtain ⟨ta, p, q⟩ := ha
  refine ⟨⟨_, hp ta p, fun F σ H s G Dd E rs st hq r => q F σ H s G _ _ _ rs st hq (fun F1 H1 G1 vs xs e1 rs1 rv q1 => ?_) (r.ex.at_ st)⟩⟩
  split at q1
  · obtain ⟨v, u, rfl, r1, r2⟩ := repl2 rv
    exact ⟨v, u, rfl, r.nx F1 H1 G1 _ _ e1 rs1 (((st.mono e1).set i r1).set j r2) q1⟩
  · exact q1.elim
/-- x op= e -/
abbrev dAug (i : Nat) (de : DTE) (g : G2) : DTS := fun D s G => match s[i]? with
  | some (some x) => de s G (fun y G1 => g x y G1 fun z G2 => D.nx (s.set i (some z)) G2) (fun x G1 => D.ex x s G1)
  | _ => False
theorem ds_aug (i : Nat) {x : Str} {op : Operator} {g : G2} {pos' : Pos} (hN : X.N.Nodup) (h : DE X W e de) (ho : DOp X (inplaceOp op) g) (hi : X.N[i]? = some x := by rfl) (hx : Loc X.env.scope x := by first | exact Or.inl rfl | exact Or.inr rfl)
    (hf : X.fn x = true ∨ X.env.scope.names.lookup x = some .local := by first | exact .inl rfl | exact .inr rfl) : DS X W (.AugAssign (.Name x pos') op e pos) (dAug i de g) := by
  obtain ⟨t, p, a⟩ := h
  obtain ⟨r, h1, h2⟩ := ho
  refine ⟨⟨_, ps_aug (ti := r) hN hi hx p h1 hf, fun F σ H s G Dd E rs st q re => ?_⟩⟩
  unfold dAug at q
  split at q
  · rename_i x0 ex
    obtain ⟨v0, e0, r0⟩ := st.at_ i x0 ex
    refine ⟨v0, e0, a F σ H s G _ _ _ rs st q (fun F1 H1 G1 v y e1 rs1 rv q1 => ?_) (re.ex.at_ st)⟩
    exact h2 F1 H1 G1 v0 v x0 y _ _ rs1 (r0.mono e1) rv q1 fun F2 H2 G2 w z e2 rs2 rw q2 => re.nx F2 H2 G2 _ _ (e1.trans e2) rs2 ((st.mono (e1.trans e2)).set i rw) q2
  · exact q.elim
theorem io_add : DOp X (inplaceOp .Add) (gI0 fun i j => .int (i + j)) := ⟨⟨_, iop_add, opa_I0 fun _ _ _ => .int _⟩⟩
theorem io_sub : DOp X (inplaceOp .Sub) (gI0 fun i j => .int (i - j)) := ⟨⟨_, iop_sub, opa_I0 fun _ _ _ => .int _⟩⟩
/-- raise X('..') -/
abbrev dRaise (c : Str) : DTS := fun D s G => D.ex ⟨c, none⟩ s G
structure ExcF (K : PySem.W.Frag) (mg : Str → Option Value) (x : Str) : Prop where
  g : mg x = some (.ref (He.ga K x))
  ok : PySem.W.excIn K (He.ga K x) He.veBase "ValueError.__new__" = true ∧ PySem.W.keepIn K (.ref (He.ga K x)) = true ∧ PySem.W.subIn K (.ref (He.ga K x)) (.type "BaseException") = some true ∧ PySem.W.typeIn K (.ref (He.ga K x)) = some (.type "type")
theorem ds_raise {x m : Str} {j : Nat} {p p2 pos' : Pos} (tk : Takes X W) (f : ExcF X.K X.mg x) (hc : X.calm = true := by rfl) (hg : Gl X x := by rfl) (hdb : (x == ("__debug__" : Str)) = false := by decide) :
    DS X W (.Raise (some (.Call (.Name x p) [.Constant (.str m) j p2] [] pos')) none pos) (dRaise x) := by
  obtain ⟨g, q, kC, bC, tC⟩ := f
  exact ⟨⟨_, ps_raise hc tk (pmk_own PySem.F.excBase_ValueError q g kC (raises_own bC tC) hg hdb), fun F σ H s G Dd E rs st q r => r.ex F H G _ _ _ _ _ (FSame.refl F) rs ⟨rfl, rfl⟩ st q⟩⟩
/-! loops -/
abbrev dWhile (c : DTT) (b : DTS) : DTS := fun D s G => ∃ W : Nat → DSt → Gp → Prop, (∃ m, W m s G) ∧ ∀ m s G, W m s G →
  c s G (fun t G1 => if t = true then b { D with nx := fun s' G' => ∃ m', m' < m ∧ W m' s' G', ct := fun s' G' => ∃ m', m' < m ∧ W m' s' G', bk := D.nx } s G1 else D.nx s G1) (fun x G1 => D.ex x s G1)
theorem ds_while {c : Expr} {body : List Stmt} {dc : DTT} (po : PassesOwn (model X.prog X.w) X.A X.env X.xe) (hc : DT X W c dc) (hb : DSs X W body d) : DS X W (.While c body [] pos) (dWhile dc d) := by
  obtain ⟨tc, pc, ac⟩ := hc
  obtain ⟨t, p, a⟩ := hb
  refine ⟨⟨_, ps_while po pc p, fun F σ H s G Dd E rs st q r => ?_⟩⟩
  obtain ⟨V, ⟨m0, v0⟩, turn⟩ := q
  refine ⟨fun m σ' H' => ∃ F' s' G', FSame F F' ∧ RS X.K F' H' G' ∧ RepSt X.K F' σ' s' ∧ V m s' G', ⟨m0, F, s, G, FSame.refl F, rs, st, v0⟩, fun m σ1 H1 hW => ?_⟩
  obtain ⟨F1, s1, G1, e1, rs1, st1, v1⟩ := hW
  refine ac F1 σ1 H1 s1 G1 _ _ _ rs1 st1 (turn m s1 G1 v1) (fun F2 H2 G2 b e2 rs2 q2 => ?_) ((r.ex.mono e1).at_ st1)
  cases b with
  | false => exact r.nx F2 H2 G2 _ _ (e1.trans e2) rs2 (st1.mono e2) q2
  | true =>
    refine ⟨fun σ' H' => ∃ F' s' G', FSame F F' ∧ RS X.K F' H' G' ∧ RepSt X.K F' σ' s' ∧ ∃ m', m' < m ∧ V m' s' G', fun σ' H' hN => ?_, ?_⟩
    · obtain ⟨F', s', G', e', rs', st', m', lt, v'⟩ := hN
      exact ⟨m', lt, F', s', G', e', rs', st', v'⟩
    · refine a F2 σ1 H2 s1 G2 _ _ rs2 (st1.mono e2) q2 ⟨?_, r.rt.mono (e1.trans e2), r.ex.mono (e1.trans e2), r.nx.mono (e1.trans e2), ?_⟩
      · exact fun F' H' G' σ' s' e' rs' st' q' => ⟨F', s', G', (e1.trans e2).trans e', rs', st', q'⟩
      · exact fun F' H' G' σ' s' e' rs' st' q' => ⟨F', s', G', (e1.trans e2).trans e', rs', st', q'⟩
/-- what a loop walks: n items, the i-th by what is known; at each turn it may still be there -/
structure DIt where
  n : Nat
  item : Nat → D → Prop
  here : Gp → Prop
abbrev DTI := DSt → Gp → (DIt → Gp → Prop) → DX → Prop
structure ItR (K : PySem.W.Frag) (F : Fp) (J : It) (I : DIt) : Prop where
  stop : ∀ F' H G, FSame F F' → RS K F' H G → I.here G → J.stop I.n H
  go : ∀ F' H G i, FSame F F' → RS K F' H G → I.here G → i < I.n → J.go i H
  yld : ∀ F' H G i x H', FSame F F' → RS K F' H G → I.here G → i < I.n → J.yld i H x H' → ∃ F2 d, FSame F' F2 ∧ RS K F2 H' G ∧ Rep K F2 x d ∧ I.item i d
def AI (K : PySem.W.Frag) (W : WX) (t : TI) (d : DTI) : Prop := ∀ F σ H s G Qd Ed (Q : It → Hp → Prop), RS K F H G → RepSt K F σ s → d s G Qd Ed → (∀ F' H' G' J I, FSame F F' → RS K F' H' G' → ItR K F' J I → Qd I G' → Q J H') → ContX K F W σ Ed → t σ H Q
structure DI (X : Cx) (W : WX) (tg e : Expr) (d : DTI) : Prop where
  ex : ∃ t, PI X tg e t ∧ AI X.K W t d
def forGo (I : DIt) (g : DTG) (b : DTS) (D : DEnds) (s : DSt) (G1 : Gp) : Prop := ∃ V : Nat → DSt → Gp → Prop, V 0 s G1 ∧ (∀ i s' G', i ≤ I.n → V i s' G' → I.here G') ∧
  (∀ i x s' G', i < I.n → I.item i x → V i s' G' → g x s' G' fun s2 G2 => b { D with nx := V (i + 1), ct := V (i + 1), bk := D.nx } s2 G2) ∧ ∀ s' G', V I.n s' G' → D.nx s' G'
abbrev dFor (di : DTI) (g : DTG) (b : DTS) : DTS := fun D s G => di s G (fun I G1 => forGo I g b D s G1) (fun x G1 => D.ex x s G1)
theorem ds_for {tg iter : Expr} {body : List Stmt} {di : DTI} {g : DTG} (po : PassesOwn (model X.prog X.w) X.A X.env X.xe) (hi : DI X W tg iter di) (hg : DG X tg g) (hb : DSs X W body d) (hc : X.calm = true := by rfl)
    (hs : ∀ x, foldedSetIterable iter X.env x = pure x := by intro _; rfl) : DS X W (.For tg iter body [] pos) (dFor di g d) := by
  obtain ⟨ti, pi_, ai⟩ := hi
  obtain ⟨tg', pg', ag⟩ := hg
  obtain ⟨t, p, a⟩ := hb
  refine ⟨⟨_, ps_for po hc pi_ pg' p hs, fun F σ H s G Dd E rs st q r => ?_⟩⟩
  refine ai F σ H s G _ _ _ rs st q (fun F1 H1 G1 J I e1 rs1 ir q1 => ?_) (r.ex.at_ st)
  obtain ⟨V, v0, here, turn, done⟩ := q1
  refine ⟨fun i m σ' H' => i + m = I.n ∧ ∃ F' s' G', FSame F1 F' ∧ RS X.K F' H' G' ∧ RepSt X.K F' σ' s' ∧ V i s' G', ⟨I.n, Nat.zero_add _, F1, s, G1, FSame.refl F1, rs1, st.mono e1, v0⟩, fun i m σ2 H2 hW => ?_⟩
  obtain ⟨em, F2, s2, G2, e2, rs2, st2, v2⟩ := hW
  by_cases hlt : i < I.n
  · refine .inr ⟨ir.go F2 H2 G2 i e2 rs2 (here i s2 G2 (Nat.le_of_lt hlt) v2) hlt, fun σ' H' => ∃ F' s' G', FSame F1 F' ∧ RS X.K F' H' G' ∧ RepSt X.K F' σ' s' ∧ V (i + 1) s' G', fun σ' H' hN => ?_, fun x H3 hy => ?_⟩
    · exact ⟨m - 1, by omega, by omega, hN⟩
    · obtain ⟨F3, dx, e3, rs3, rx, it⟩ := ir.yld F2 H2 G2 i x H3 e2 rs2 (here i s2 G2 (Nat.le_of_lt hlt) v2) hlt hy
      refine ag F3 σ2 H3 s2 G2 x dx _ _ rs3 (st2.mono e3) rx (turn i dx s2 G2 hlt it v2) fun F4 H4 G4 σ4 s4 e4 rs4 st4 q4 => ?_
      have e14 : FSame F1 F4 := (e2.trans e3).trans e4
      refine a F4 σ4 H4 s4 G4 _ _ rs4 st4 q4 ⟨?_, r.rt.mono (e1.trans e14), r.ex.mono (e1.trans e14), r.nx.mono (e1.trans e14), ?_⟩
      · exact fun F' H' G' σ' s' e' rs' st' q' => ⟨F', s', G', e14.trans e', rs', st', q'⟩
      · exact fun F' H' G' σ' s' e' rs' st' q' => ⟨F', s', G', e14.trans e', rs', st', q'⟩
  · have ei : i = I.n := by omega
    subst ei
    exact .inl ⟨ir.stop F2 H2 G2 e2 rs2 (here _ s2 G2 (Nat.le_refl _) v2), r.nx F2 H2 G2 _ _ (e1.trans e2) rs2 st2 (done s2 G2 v2)⟩
/-! what is walked -/
def itInts (lo : Int) (n : Nat) : DIt := ⟨n, fun i x => x = .int (lo + i), fun _ => True⟩
theorem itr_rng {K : PySem.W.Frag} {F : Fp} {lo : Int} {n : Nat} : ItR K F (Itr lo n) (itInts lo n) := ⟨fun _ _ _ _ _ _ => Nat.le_refl n, fun _ _ _ i _ _ _ h => h, fun F' H G i x H' e rs _ h y => by
  obtain ⟨rfl, rfl⟩ := y
  exact ⟨F', .int (lo + i), FSame.refl F', rs, .int _, rfl⟩⟩
def Sm (i : Int) : Prop := -(2 ^ 62) ≤ i ∧ i < 2 ^ 62
abbrev dRng1 (dA : DTA) : DTI := fun s G Q E => dA s G (fun xs G1 => match xs with
  | [.int j] => Sm j ∧ Q (itInts 0 j.toNat) G1
  | _ => False) E
abbrev dRng2 (dA : DTA) : DTI := fun s G Q E => dA s G (fun xs G1 => match xs with
  | [.int i, .int j] => (Sm i ∧ Sm j) ∧ Q (itInts i (j - i).toNat) G1
  | _ => False) E
variable {tg a b : Expr} {dA : DTA} {p : Pos}
theorem di_rng1 (hm : X.mg "range" = none) (h : DA X W [a] dA) (hg : Gl X "range" := by rfl) (hs : starEach [a] X.env = [(false, eval a X.env)] := by rfl) : DI X W tg (.Call (.Name "range" p) [a] [] pos) (dRng1 dA) := by
  obtain ⟨t, pa, q⟩ := h
  refine ⟨⟨_, pi_range1 hg hm pa hs, fun F σ H s G Qd Ed Q rs st hq c cx => q F σ H s G _ Ed _ rs st hq (fun F1 H1 G1 vs xs e1 rs1 rv q1 => ?_) cx⟩⟩
  split at q1
  · obtain ⟨v, rfl, r1⟩ := repl1 rv
    cases r1
    exact ⟨_, rfl, q1.1.1, q1.1.2, c F1 H1 G1 _ _ e1 rs1 itr_rng q1.2⟩
  · exact q1.elim
theorem di_rng2 (hm : X.mg "range" = none) (h : DA X W [a, b] dA) (hg : Gl X "range" := by rfl) (hs : starEach [a, b] X.env = [(false, eval a X.env), (false, eval b X.env)] := by rfl) (hs2 : starEach [b] X.env = [(false, eval b X.env)] := by rfl) : DI X W tg (.Call (.Name "range" p) [a, b] [] pos) (dRng2 dA) := by
  obtain ⟨t, pa, q⟩ := h
  refine ⟨⟨_, pi_range2 hg hm pa hs hs2, fun F σ H s G Qd Ed Q rs st hq c cx => q F σ H s G _ Ed _ rs st hq (fun F1 H1 G1 vs xs e1 rs1 rv q1 => ?_) cx⟩⟩
  split at q1
  · obtain ⟨v, u, rfl, r1, r2⟩ := repl2 rv
    cases r1
    cases r2
    exact ⟨_, _, rfl, ⟨q1.1.1.1, q1.1.1.2, q1.1.2.1, q1.1.2.2⟩, c F1 H1 G1 _ _ e1 rs1 itr_rng q1.2⟩
  · exact q1.elim
theorem for_rng {lo : Int} {n : Nat} {g : DTG} {b : DTS} {D : DEnds} {s : DSt} {G : Gp} (V : Nat → DSt → Gp → Prop) (h0 : V 0 s G)
    (turn : ∀ i s' G', i < n → V i s' G' → g (.int (lo + i)) s' G' fun s2 G2 => b { D with nx := V (i + 1), ct := V (i + 1), bk := D.nx } s2 G2) (done : ∀ s' G', V n s' G' → D.nx s' G') : forGo (itInts lo n) g b D s G :=
  ⟨V, h0, fun _ _ _ _ _ => trivial, fun i x s' G' hi it v => by
    cases it
    exact turn i s' G' hi v, done⟩
/-- the items of a list that stands still, of a tuple -/
def itList (ds : List D) : DIt := ⟨ds.length, fun i x => ds[i]? = some x, fun _ => True⟩
/-- .. of a list that might change, as long as it doesn't -/
def itRef (a : Addr) (ds : List D) : DIt := ⟨ds.length, fun i x => ds[i]? = some x, fun G => G a = some (.lst ds)⟩
theorem for_lst {ds : List D} {g : DTG} {b : DTS} {D : DEnds} {s : DSt} {G : Gp} (V : Nat → DSt → Gp → Prop) (h0 : V 0 s G)
    (turn : ∀ i x s' G', ds[i]? = some x → V i s' G' → g x s' G' fun s2 G2 => b { D with nx := V (i + 1), ct := V (i + 1), bk := D.nx } s2 G2) (done : ∀ s' G', V ds.length s' G' → D.nx s' G') : forGo (itList ds) g b D s G :=
  ⟨V, h0, fun _ _ _ _ _ => trivial, fun i x s' G' _ it v => turn i x s' G' it v, done⟩
theorem for_ref {a : Addr} {ds : List D} {g : DTG} {b : DTS} {D : DEnds} {s : DSt} {G : Gp} (V : Nat → DSt → Gp → Prop) (h0 : V 0 s G) (here : ∀ i s' G', V i s' G' → G' a = some (.lst ds))
    (turn : ∀ i x s' G', ds[i]? = some x → V i s' G' → g x s' G' fun s2 G2 => b { D with nx := V (i + 1), ct := V (i + 1), bk := D.nx } s2 G2) (done : ∀ s' G', V ds.length s' G' → D.nx s' G') : forGo (itRef a ds) g b D s G :=
  ⟨V, h0, fun i s' G' _ v => here i s' G' v, fun i x s' G' _ it v => turn i x s' G' it v, done⟩
theorem itr_list {K : PySem.W.Frag} {F : Fp} {a : Addr} {xs : List V} {ds : List D} (h : F a = some (.ob (.lst xs))) (r : RepL K F xs ds) : ItR K F (Itl K a) (itList ds) := by
  have sq : ∀ F' H G, FSame F F' → RS K F' H G → SqL K H a xs := fun F' H G e rs => .inl (.inl (rs.fr _ _ (e _ _ h)))
  refine ⟨fun F' H G e rs _ => ⟨xs, sq F' H G e rs, by rw [r.length]; exact Nat.le_refl _⟩, fun F' H G i e rs _ hi => ?_, fun F' H G i x H' e rs _ hi y => ?_⟩
  · obtain ⟨d, hd⟩ : ∃ d, ds[i]? = some d := ⟨_, List.getElem?_eq_getElem hi⟩
    obtain ⟨x, hx, _⟩ := r.get hd
    exact ⟨xs, x, sq F' H G e rs, hx⟩
  · obtain ⟨rfl, y⟩ := y
    obtain ⟨d, hd⟩ : ∃ d, ds[i]? = some d := ⟨_, List.getElem?_eq_getElem hi⟩
    obtain ⟨x', hx, rx⟩ := r.get hd
    have ex : x' = x := Option.some.inj (hx.symm.trans (y xs (sq F' _ G e rs)))
    subst ex
    exact ⟨F', d, FSame.refl F', rs, rx.mono e, hd⟩
theorem itr_tup {K : PySem.W.Frag} {F : Fp} {a : Addr} {xs : List V} {ds : List D} (h : SqT K (toH F) a xs) (r : RepL K F xs ds) : ItR K F (Itt K a) (itList ds) := by
  have sq : ∀ F' H G, FSame F F' → RS K F' H G → SqT K H a xs := fun F' H G e rs => same_t rs.same (same_t e.toH h)
  refine ⟨fun F' H G e rs _ => ⟨xs, sq F' H G e rs, by rw [r.length]; exact Nat.le_refl _⟩, fun F' H G i e rs _ hi => ?_, fun F' H G i x H' e rs _ hi y => ?_⟩
  · obtain ⟨d, hd⟩ : ∃ d, ds[i]? = some d := ⟨_, List.getElem?_eq_getElem hi⟩
    obtain ⟨x, hx, _⟩ := r.get hd
    exact ⟨xs, x, sq F' H G e rs, hx⟩
  · obtain ⟨rfl, y⟩ := y
    obtain ⟨d, hd⟩ : ∃ d, ds[i]? = some d := ⟨_, List.getElem?_eq_getElem hi⟩
    obtain ⟨x', hx, rx⟩ := r.get hd
    have ex : x' = x := Option.some.inj (hx.symm.trans (y xs (sq F' _ G e rs)))
    subst ex
    exact ⟨F', d, FSame.refl F', rs, rx.mono e, hd⟩
theorem itr_ref {K : PySem.W.Frag} {F : Fp} {a : Addr} {ds : List D} : ItR K F (Itl K a) (itRef a ds) := by
  refine ⟨fun F' H G e rs h => ?_, fun F' H G i e rs h hi => ?_, fun F' H G i x H' e rs h hi y => ?_⟩
  · obtain ⟨xs, h1, r⟩ := (rs.gf a _ h).2
    exact ⟨xs, .inl (.inl h1), by rw [r.length]; exact Nat.le_refl _⟩
  · obtain ⟨xs, h1, r⟩ := (rs.gf a _ h).2
    obtain ⟨d, hd⟩ : ∃ d, ds[i]? = some d := ⟨_, List.getElem?_eq_getElem hi⟩
    obtain ⟨x, hx, _⟩ := r.get hd
    exact ⟨xs, x, .inl (.inl h1), hx⟩
  · obtain ⟨rfl, y⟩ := y
    obtain ⟨xs, h1, r⟩ := (rs.gf a _ h).2
    obtain ⟨d, hd⟩ : ∃ d, ds[i]? = some d := ⟨_, List.getElem?_eq_getElem hi⟩
    obtain ⟨x', hx, rx⟩ := r.get hd
    have ex : x' = x := Option.some.inj (hx.symm.trans (y xs (.inl (.inl h1))))
    subst ex
    exact ⟨F', d, FSame.refl F', rs, rx, hd⟩
/-- a list or a tuple, by what comes -/
def iSeq (K : PySem.W.Frag) (tl : TE) : TI := fun σ H R => tl σ H fun x H1 => ∃ a, x = .ref a ∧ (((∃ xs, SqL K H1 a xs) ∧ R (Itl K a) H1) ∨ ((∃ xs, SqT K H1 a xs) ∧ R (Itt K a) H1))
theorem pi_seq {l : Expr} {tl : TE} (hl : PE X l tl) : PI X tg l (iSeq X.K tl) := by
  constructor
  intro pins s σ H R I h
  apply thn (hl.run pins s σ H _ I h)
  intro v s1 hv
  obtain ⟨x, H1, I1, r1, a, e, q1⟩ := hv
  subst e
  cases r1
  have fp0 : ∀ b ∈ [s1.heap.objs.size], FpOk X pins H1 b := fun b hb => by
    rw [List.mem_singleton.mp hb]
    exact I1.fpOk (Nat.le_refl _) (I1.hok.fresh (Nat.le_refl _))
  have kp : ∀ o : Obj, ∀ (b : Addr) (u : Obj), s1.heap.get? b = some u → (s1.heap.push o).get? b = some u := fun o b u q => Heap.get?_push_of_some _ q
  cases q1 with
  | inl q1 =>
    obtain ⟨⟨xs, hq⟩, q⟩ := q1
    have pl := I1.list hq
    obtain ⟨its, rv, p, hz⟩ := pl
    apply wpAny_pyIter_list p.isList
    exact ⟨_, [s1.heap.objs.size], _, Itl X.K a, H1, rfl, I1.kept (t' := s1.toks) (kp _), turn_list a _, ⟨_, Heap.get?_push_size _ rfl, rfl, rfl⟩, fp0, q⟩
  | inr q1 =>
    obtain ⟨⟨xs, hq⟩, q⟩ := q1
    have pl := I1.tuple hq
    obtain ⟨its, rv, p, hz⟩ := pl
    apply wpAny_pyIter_tuple (show s1.heap.IsTuple a its.toArray from p)
    exact ⟨_, [s1.heap.objs.size], _, Itt X.K a, H1, rfl, I1.kept (t' := s1.toks) (kp _), turn_tuple a _, ⟨_, Heap.get?_push_size _ rfl, rfl, rfl⟩, fp0, q⟩
def itScr (ns : List Int) : DIt := ⟨ns.length, fun i x => ∃ n, ns[i]? = some n ∧ x = .int n, fun _ => True⟩
theorem itr_scr {K : PySem.W.Frag} {F : Fp} {a : Addr} {ns : List Int} (h : SqL K (toH F) a (ns.map V.int)) : ItR K F (Itl K a) (itScr ns) := by
  have sq : ∀ F' H G, FSame F F' → RS K F' H G → SqL K H a (ns.map V.int) := fun F' H G e rs => rs.same.seq (e.toH.seq h)
  refine ⟨fun F' H G e rs _ => ⟨_, sq F' H G e rs, by rw [List.length_map]; exact Nat.le_refl _⟩, fun F' H G i e rs _ hi => ?_, fun F' H G i x H' e rs _ hi y => ?_⟩
  · exact ⟨_, .int ns[i], sq F' H G e rs, by rw [List.getElem?_map, List.getElem?_eq_getElem hi]; rfl⟩
  · obtain ⟨rfl, y⟩ := y
    have hx : (ns.map V.int)[i]? = some (.int ns[i]) := by rw [List.getElem?_map, List.getElem?_eq_getElem hi]; rfl
    have ex : V.int ns[i] = x := Option.some.inj (hx.symm.trans (y _ (sq F' _ G e rs)))
    subst ex
    exact ⟨F', .int ns[i], FSame.refl F', rs, .int _, ns[i], List.getElem?_eq_getElem hi, rfl⟩
abbrev dItSeq (de : DTE) : DTI := fun s G Q E => de s G (fun x G1 => match x with
  | .tup ds => Q (itList ds) G1
  | .lst ds => Q (itList ds) G1
  | .scr ns => Q (itScr ns) G1
  | .ref a => match G1 a with
    | some (.lst ds) => Q (itRef a ds) G1
    | _ => False
  | _ => False) E
theorem di_seq (h : DE X W e de) : DI X W tg e (dItSeq de) := by
  obtain ⟨t, p, q⟩ := h
  refine ⟨⟨_, pi_seq p, fun F σ H s G Qd Ed Q rs st hq c cx => q F σ H s G _ Ed _ rs st hq (fun F1 H1 G1 v x e1 rs1 rv q1 => ?_) cx⟩⟩
  cases rv with
  | @tup a xs ds h1 r1 => exact ⟨a, rfl, .inr ⟨⟨xs, same_t rs1.same h1⟩, c F1 H1 G1 _ _ e1 rs1 (itr_tup h1 r1) q1⟩⟩
  | @lst a xs ds h1 r1 => exact ⟨a, rfl, .inl ⟨⟨xs, .inl (.inl (rs1.fr _ _ h1))⟩, c F1 H1 G1 _ _ e1 rs1 (itr_list h1 r1) q1⟩⟩
  | @scr a ns h1 => exact ⟨a, rfl, .inl ⟨⟨_, rs1.same.seq h1⟩, c F1 H1 G1 _ _ e1 rs1 (itr_scr h1) q1⟩⟩
  | ref a =>
    dsimp only at q1
    split at q1
    · rename_i ds eg
      obtain ⟨xs, h1, r1⟩ := (rs1.gf a _ eg).2
      exact ⟨a, rfl, .inl ⟨⟨xs, .inl (.inl h1)⟩, c F1 H1 G1 _ _ e1 rs1 itr_ref q1⟩⟩
    · exact q1.elim
  | _ => exact False.elim q1
end
end Dl
set_option Elab.async false
set_option linter.all false
set_option maxRecDepth 100000
set_option maxHeartbeats 4000000
/-! The data layer: what the top has left, by facts that are checked; the law's end. -/
namespace Dl
open PySem PySem.Spec PyProof.Rows L2
set_option autoImplicit false
/-! ### a module's constant, read off the written part -/
mutual
def repB (K : PySem.W.Frag) : D → Value → Bool
  | .non, .none => true
  | .bl b, .bool c => b == c
  | .int i, .int j _ => decide (i = j)
  | .str x, .str y _ => decide (x = y)
  | .glo x, .ref a => decide (a = He.ga K x)
  | .tup ds, .ref a => match K.lookup a with
    | some ⟨.type c, _, .seq its _, _⟩ => decide (c = "tuple") && (decide (its.size ≤ sizeLine) && repBs K ds its.toList)
    | _ => false
  | _, _ => false
def repBs (K : PySem.W.Frag) : List D → List Value → Bool
  | [], [] => true
  | d :: ds, v :: vs => repB K d v && repBs K ds vs
  | _, _ => false
end
mutual
theorem repB_ok {K : PySem.W.Frag} : ∀ {d : D} {u : Value}, repB K d u = true → ∃ v, RelV v u ∧ ∀ F, Rep K F v d
  | .non, u, h => by
    cases u with
    | none => exact ⟨.non, rfl, fun _ => .non⟩
    | _ => simp [repB] at h
  | .bl b, u, h => by
    cases u with
    | bool c =>
      have e : b = c := by simpa [repB] using h
      subst e
      exact ⟨.bl b, rfl, fun _ => .bl b⟩
    | _ => simp [repB] at h
  | .int i, u, h => by
    cases u with
    | int j t =>
      have e : i = j := by simpa [repB] using h
      subst e
      exact ⟨.int i, ⟨t, rfl⟩, fun _ => .int i⟩
    | _ => simp [repB] at h
  | .str i, u, h => by
    cases u with
    | str j t =>
      have e : i = j := by simpa [repB] using h
      subst e
      exact ⟨.str i, ⟨t, rfl⟩, fun _ => .str i⟩
    | _ => simp [repB] at h
  | .glo x, u, h => by
    cases u with
    | ref a =>
      have e : a = He.ga K x := by simpa [repB] using h
      subst e
      exact ⟨.ref (He.ga K x), rfl, fun _ => .glo x⟩
    | _ => simp [repB] at h
  | .tup ds, u, h => by
    cases u with
    | ref a =>
      unfold repB at h
      split at h
      · rename_i c dd its n sl e
        obtain ⟨h1, h2⟩ := He.ba h
        obtain ⟨h3, h4⟩ := He.ba h2
        have hc : c = "tuple" := of_decide_eq_true h1
        subst hc
        obtain ⟨vs, r1, r2⟩ := repBs_ok h4
        exact ⟨.ref a, rfl, fun F => .tup (.inr ⟨_, its, n, e, rfl, rfl, of_decide_eq_true h3, r1⟩) (r2 F)⟩
      · cases h
    | _ => simp [repB] at h
  | .ref _, u, h => by cases u <;> simp [repB] at h
  | .ty _, u, h => by cases u <;> simp [repB] at h
  | .lst _, u, h => by cases u <;> simp [repB] at h
  | .strm, u, h => by cases u <;> simp [repB] at h
  | .scr _, u, h => by cases u <;> simp [repB] at h
  | .exn _ _ _ _, u, h => by cases u <;> simp [repB] at h
theorem repBs_ok {K : PySem.W.Frag} : ∀ {ds : List D} {us : List Value}, repBs K ds us = true → ∃ vs, Vals vs us ∧ ∀ F, RepL K F vs ds
  | [], [], _ => ⟨[], .nil, fun _ => .nil⟩
  | [], _ :: _, h => by simp [repBs] at h
  | _ :: _, [], h => by simp [repBs] at h
  | d :: ds, u :: us, h => by
    unfold repBs at h
    obtain ⟨h1, h2⟩ := He.ba h
    obtain ⟨v, r1, r2⟩ := repB_ok h1
    obtain ⟨vs, s1, s2⟩ := repBs_ok h2
    exact ⟨v :: vs, .cons r1 s1, fun F => .cons (r2 F) (s2 F)⟩
end
/-- what is looked up of such a class -/
def exIB (K : PySem.W.Frag) (C : Addr) (f : Str) : Bool :=
  (match K.lookup C with
  | some ⟨.type t, _, .cls cd, ⟨[_, _, _, _, some (.builtin n), _]⟩⟩ => match cd.mro with
    | .ref C' :: bm => decide (t = "type" ∧ n = "ValueError.__new__" ∧ C' = C) && (cd.hasDict && (!cd.hasDel && PySem.HandSPX.refsVE bm))
    | _ => false
  | _ => false) && (decide (PySem.W.findIn K (.ref C) "__setattr__" = some (some (.builtin "object.__setattr__"))) && (decide (PySem.W.subIn K (.ref C) (.type "BaseException") = some true) && (decide (PySem.W.typeIn K (.ref C) = some (.type "type")) &&
    (PySem.W.keepIn K (.ref C) && (decide (PySem.W.findIn K (.ref C) f = some none) && (decide (PySem.W.findIn K (.ref C) "__init__" = some (some (.ref (He.ma K C "__init__")))) && decide (PySem.W.typeIn K (.ref (He.ma K C "__init__")) = some (.type "function"))))))))
/-! ### facts -/
inductive Fc where
  | he (f : He.Fa)
  | con (x : Str) (d : D)
  | bfun (x : Str) (id : String)
  | catch_ (x : Str) (l : List (Str × Bool))
  | kits (l : List ((Str × (Str ⊕ String)) × Bool))
  | first (x : Str)
  | insf (x : Str)
  | tupC (x : Str)
  | exI (x f : Str)
  | prop (x f : Str)
/-- the def that a property of a class asks -/
def prA (K : PySem.W.Frag) (c f : Str) : Addr := match PySem.W.recIn K (He.ma K (He.ga K c) f) "property" with
  | some (.ref g :: _) => g
  | _ => 0
def propB (K : PySem.W.Frag) (c f : Str) : Bool := decide (PySem.W.findIn K (.ref (He.ga K c)) f = some (some (.ref (He.ma K (He.ga K c) f)))) && (decide (PySem.W.specialIn K (.ref (He.ma K (He.ga K c) f)) "__get__" = some (some (.builtin "property.__get__"))) && (decide (PySem.W.takesIn K (.ref (He.ma K (He.ga K c) f)) = some true) &&
  match PySem.W.recIn K (He.ma K (He.ga K c) f) "property" with
  | some (.ref _ :: _) => true
  | _ => false))
def excB (K : PySem.W.Frag) (D : Addr) : Bool := decide (PySem.W.findIn K (.ref D) "__getattribute__" = some (some (.builtin "BaseException.__getattribute__"))) && (decide (PySem.W.findIn K (.ref D) "__getattr__" = some none) && (decide (PySem.W.subIn K (.ref D) (.type "BaseException") = some true) && (PySem.W.hasDictIn K D && (decide (PySem.W.findIn K (.ref D) "__class__" = some (some (.builtin "object.__class__"))) &&
  (decide (PySem.W.specialIn K (.builtin "object.__class__") "__get__" = some (some (.builtin "getset_descriptor.__get__"))) && (decide (PySem.W.takesIn K (.builtin "object.__class__") = some true) && decide (PySem.W.mroIn K D (.type "object") = some true)))))))
def insB (K : PySem.W.Frag) (C : Addr) : Bool := decide (PySem.W.findIn K (.ref C) "__class__" = some (some (.builtin "object.__class__"))) && (decide (PySem.W.specialIn K (.builtin "object.__class__") "__get__" = some (some (.builtin "getset_descriptor.__get__"))) &&
  (decide (PySem.W.takesIn K (.builtin "object.__class__") = some true) && (decide (PySem.W.mroIn K C (.type "object") = some true) && decide (PySem.W.kitOne K (.ref C) (.ref C) = some true))))
def Fc.ok (K : PySem.W.Frag) : Fc → Bool
  | .he f => f.ok K
  | .con x d => match PySem.W.nsIn K mainGlobals x with
    | some (some v) => repB K d v
    | _ => false
  | .bfun x id => He.eqO (PySem.W.nsIn K mainGlobals x) (some (some (.builtin id)))
  | .catch_ x l => l.all fun p => decide (PySem.W.exmOne K (.ref (He.ga K p.1)) (.ref (He.ga K x)) = some p.2)
  | .first x => PySem.W.selfFirst K (He.ga K x)
  | .insf x => insB K (He.ga K x)
  | .exI x f => exIB K (He.ga K x) f
  | .prop x f => propB K x f
  | .tupC x => match PySem.W.nsIn K mainGlobals x with
    | some (some (.ref a)) => match K.lookup a with
      | some ⟨.type c, none, _, _⟩ => decide (c = "tuple")
      | _ => false
    | _ => false
  | .kits l => l.all fun p => excB K (He.ga K p.1.1) && decide (PySem.W.kitOne K (.ref (He.ga K p.1.1)) (match p.1.2 with
    | .inl y => .ref (He.ga K y)
    | .inr n => .type n) = some p.2)
section
variable {K : PySem.W.Frag} {h : Heap} {mg : Str → Option Value}
theorem con_ok (X : K.In h) (G : h.Ns mainGlobals mg) {x : Str} {d : D} (c : (Fc.con x d).ok K = true) : ∃ u, mg x = some u ∧ GloV K u d := by
  have c2 : (match PySem.W.nsIn K mainGlobals x with
    | some (some v) => repB K d v
    | _ => false) = true := c
  split at c2
  · rename_i v e
    exact ⟨v, PySem.W.mg_of X G e, repB_ok c2⟩
  · cases c2
/-- a constant that is a tuple and nothing more -/
def TupC (K : PySem.W.Frag) (mg : Str → Option Value) (x : Str) : Prop := ∃ a o, mg x = some (.ref a) ∧ K.lookup a = some o ∧ o.cls = .type "tuple" ∧ o.dict = none
theorem tupC_ok (X : K.In h) (G : h.Ns mainGlobals mg) {x : Str} (c : (Fc.tupC x).ok K = true) : TupC K mg x := by
  have c2 : (match PySem.W.nsIn K mainGlobals x with
    | some (some (.ref a)) => match K.lookup a with
      | some ⟨.type c, none, _, _⟩ => decide (c = "tuple")
      | _ => false
    | _ => false) = true := c
  split at c2
  · rename_i a e
    split at c2
    · rename_i t d sl e2
      exact ⟨a, _, PySem.W.mg_of X G e, e2, by rw [of_decide_eq_true c2], rfl⟩
    · cases c2
  · cases c2
theorem bfun_ok (X : K.In h) (G : h.Ns mainGlobals mg) {x : Str} {id : String} (c : (Fc.bfun x id).ok K = true) : mg x = some (.builtin id) := PySem.W.mg_of X G (He.eqO_ok c)
theorem glo_ok (X : K.In h) (G : h.Ns mainGlobals mg) {x : Str} (c : (Fc.he (.glo x)).ok K = true) : mg x = some (.ref (He.ga K x)) := He.glo_ok X G c
theorem free_ok (X : K.In h) (G : h.Ns mainGlobals mg) {x : Str} (c : (Fc.he (.free x)).ok K = true) : mg x = none := He.free_ok X G c
theorem exc_ok (X : K.In h) (G : h.Ns mainGlobals mg) {x : Str} (g : (Fc.he (.glo x)).ok K = true) (c : (Fc.he (.exc x)).ok K = true) : ExcF K mg x := ⟨He.glo_ok X G g, He.exc_ok c⟩
end
abbrev AlM : Type := Bool × List He.FnW
def obsM (fa : List Fc) (fn : List He.DefD) (K : PySem.W.Frag) : AlM := ((fa.all fun f => f.ok K) && fn.all fun d => d.ok K, fn.map fun d => He.fnW K d.at_)
def valM (fn : List He.DefD) : AlM := (true, fn.map He.DefD.val)
def SaysM (fa : List Fc) (fn : List He.DefD) (K : PySem.W.Frag) : Prop := obsM fa fn K = valM fn
def obsMG (n : Nat) (fa : List Fc) (fn : List He.DefD) (g : Addr → Option Obj) : AlM := obsM fa fn (He.frG g (He.asD g n))
def hookM (n : Nat) (fa : List Fc) (fn : List He.DefD) : PySem.W.Hook where
  α := AlM
  obs := fun s => obsMG n fa fn s.heap.get?
  val := fun _ => valM fn
  says := fun _ h => ∃ K : PySem.W.Frag, K.In h ∧ SaysM fa fn K
  of := fun _ _ e => ⟨_, He.frG_in, e⟩
  keeps := fun _ _ _ ⟨K, hK, c⟩ k => ⟨K, PySem.W.Frag.In.keeps hK k, c⟩
theorem obsMG_eq {n : Nat} {fa : List Fc} {fn : List He.DefD} {g : Addr → Option Obj} {s : Shared} (h : ∀ a, g a = s.heap.get? a) : obsMG n fa fn g = (hookM n fa fn).obs s := by
  have e : g = s.heap.get? := funext h
  rw [e] <;> rfl
section
variable {fa : List Fc} {fn : List He.DefD} {K : PySem.W.Frag}
theorem SaysM.fact (c : SaysM fa fn K) (i : Nat) {f : Fc} (h : fa[i]? = some f := by rfl) : f.ok K = true :=
  List.all_eq_true.mp (He.ba (show ((fa.all fun f => f.ok K) && fn.all fun d => d.ok K) = true from congrArg (fun z : AlM => z.1) c)).1 f (List.mem_of_getElem? h)
theorem SaysM.def_ (c : SaysM fa fn K) (i : Nat) {d : He.DefD} (h : fn[i]? = some d := by rfl) : ∃ fd, FunD K d.name d.qual d.params d.body d.scope (d.dvs K) (d.kws K) (He.fAd K d.at_) fd := by
  have all := (He.ba (show ((fa.all fun f => f.ok K) && fn.all fun d => d.ok K) = true from congrArg (fun z : AlM => z.1) c)).2
  have e2 := congrArg (fun z : List He.FnW => z[i]?) (show fn.map (fun d => He.fnW K d.at_) = fn.map He.DefD.val from congrArg (fun z : AlM => z.2) c)
  have e2 : (fn.map fun d => He.fnW K d.at_)[i]? = (fn.map He.DefD.val)[i]? := e2
  rw [List.getElem?_map, List.getElem?_map, h] at e2
  exact He.DefD.funD (Option.some.inj e2) (List.all_eq_true.mp all d (List.mem_of_getElem? h))
end
/-! ### the law -/
/-- the law hands back True, whatever the script -/
def spLaw : DSp := fun ds G Q _ => ∃ ns : List Int, ds = [.scr ns] ∧ ns.length ≤ 63 ∧ (∀ z ∈ ns, Builtin.Int.intBits z ≤ 1048576) ∧ ∀ G', Q (.bl true) G'
theorem walk_dl {l : PySem.W.OpenLaw} {k : Nat} {q : Program} {loose : List Str} {XP : (Str → Option Value) → Heap → Prop} {d : DefRec} {x : Str} {fa : List Fc} {fn : List He.DefD} {nn : Nat}
    (hn : l.most = some 63) (hdf : d.params.defaults = []) (hr : Room k callerA)
    (F : ∀ (w : World) (mg : Str → Option Value) (h : Heap) (K : PySem.W.Frag) (a : Addr), K.In h → h.Ns mainGlobals mg → SaysM fa fn K → mg d.name = some (.ref a) →
      ∃ fd : FuncData, (∀ (s : Shared) (u : Value), BindsTo s fd ⟨[u], []⟩ [(x, u)]) ∧ ∀ base : Heap, K.In base → base.Ns mainGlobals mg → DFn l.prog w K mg base k a fd [x] spLaw) :
    PySem.W.WalkO q loose XP (hookM nn fa fn).says l.row.toRowW d [] (fun f vs => PySem.call f vs) := by
  refine LamX.walk_ofTsE (l := l) (n := 63) (k := k) (x := x) (CX := fun w => L2.CX l.prog w) hn (by decide) hdf hr (fun w mg a h Y G hmg => ?_) (fun w H s e s' z => ?_)
  · obtain ⟨K, KX, c⟩ := Y
    obtain ⟨fd, hb, hF⟩ := F w mg h K a KX G c hmg
    refine ⟨K, KX, fd, [], lift K spLaw, fun _ z => (nomatch z), fun _ z => (nomatch z), fun _ z => (nomatch z), hb, fun H a ns hl hbits _ hS => ?_, fun base h1 h2 _ => hF base h1 h2⟩
    have eH : toH (fun b => (H b).map FO.ob) = H := by
      funext b
      show (match (H b).map FO.ob with
        | some (FO.ob o) => some o
        | _ => none) = H b
      cases H b <;> rfl
    refine ⟨fun b => (H b).map FO.ob, fun _ => none, [.scr ns], fun d _ => d = .bl true, fun _ _ => False, ⟨fun b o e => ?_, fun b e => ?_, fun b g e => nomatch e⟩, .cons (.scr (by rw [eH]; exact hS)) .nil, ⟨ns, rfl, hl, hbits, fun _ => rfl⟩, fun F' H' G' v x _ _ rv e => ?_, fun _ _ _ _ _ _ _ _ _ z => z⟩
    · cases e1 : H b with
      | none =>
        rw [e1] at e
        cases e
      | some u =>
        rw [e1] at e
        cases e
        rfl
    · cases e1 : H b with
      | none =>
        rw [e1] at e
        cases e
      | some u =>
        rw [e1] at e
        cases e
    · subst e
      cases rv
      rfl
  · obtain ⟨_, _, _, _, _, _, _, _, _, _, _, _, z⟩ := z
    exact z
end Dl
set_option Elab.async false
set_option linter.all false
set_option maxRecDepth 100000
set_option maxHeartbeats 4000000
namespace Dl
open PySem PySem.Spec PyProof.Rows L2
set_option autoImplicit false
abbrev gSub : G2 := gI0 fun i j => .int (i - j)
abbrev gAddI : G2 := gI0 fun i j => .int (i + j)
abbrev gDiv : G2 := gI CDivW fun i j => .int (i / j)
abbrev gDivN : G2 := gI CDivN fun i j => .int (i.fdiv j)
abbrev gMod : G2 := gI (fun _ j => 0 < j) fun i j => .int (i % j)
abbrev gModN : G2 := gI (fun _ j => j ≠ 0) fun i j => .int (i.fmod j)
abbrev gPow : G2 := gI CPow fun i j => .int (i ^ j.toNat)
abbrev gLt : G2 := gI0 fun i j => .bl (decide (i < j))
abbrev gLe : G2 := gI0 fun i j => .bl (decide (i ≤ j))
abbrev gGt : G2 := gI0 fun i j => .bl (decide (j < i))
abbrev gGe : G2 := gI0 fun i j => .bl (decide (j ≤ i))
abbrev gGcd : GC := g2 (gI0 fun i j => .int ((Nat.gcd i.natAbs j.natAbs : Nat) : Int))
abbrev gMax2 : GC := g2 (gI0 fun i j => .int (if j > i then j else i))
abbrev gMin2 : GC := g2 (gI0 fun i j => .int (if j < i then j else i))
section
variable {P : Program} {w : World} {K : PySem.W.Frag} {mg : Str → Option Value} {base : Heap} {x qual : Str} {params : Arguments} {body : List Stmt} {scope : Scope} {kws : List (Str × V)} {f : Addr} {fd : FuncData} {ps : List Str}
theorem bindsD (F : FunD K x qual params body scope [] kws f fd)
    (h : ∀ (kV doc pm : Value) (an : Option Addr) (cdv ct : Value) (us : List Value), us.length = ps.length → bindArgs (PySem.W.fnOf x qual params body scope .none kV doc pm an cdv ct) ⟨us, []⟩ = pure (ps.zip us)) : Binds K fd ps [] := F.bindsN h
end
section
variable {X : Cx} {W : WX} {e a b : Expr} {es : List Expr} {de : DTE} {dA : DTA} {pos : Pos}
theorem de_con {x : Str} {d : D} (h : ∃ u, X.mg x = some u ∧ GloV X.K u d) (hg : Gl X x := by rfl) (hd : (x == ("__debug__" : Str)) = false := by decide) : DE X W (.Name x pos) (dC d) := by
  obtain ⟨u, h1, h2⟩ := h
  exact de_glob h1 h2 hg hd
theorem de_callBf {id : String} {g : GC} {x : Str} {p : Pos} (hc : DCall X (.builtin id) g) (hm : X.mg x = some (.builtin id)) (ha : DA X W (e :: es) dA) (hg : Gl X x := by rfl) (hdb : (x == ("__debug__" : Str)) = false := by decide)
    (he : starEach (e :: es) X.env = (false, eval e X.env) :: starEach es X.env := by rfl) (hpl : (backTo pos (starEach es X.env)).any (·.1) = false := by rfl) : DE X W (.Call (.Name x p) (e :: es) [] pos) (dCB g dA) := by
  obtain ⟨r, h1, h2⟩ := hc
  obtain ⟨t, p, q⟩ := ha
  exact ⟨⟨_, pe_callBfun h1 hg hm p hdb he hpl, fun F σ H s G Qd Ed Q rs st hq c cx => q F σ H s G _ Ed _ rs st hq (fun F1 H1 G1 vs xs e1 rs1 rv q1 => h2 F1 H1 G1 vs xs Qd Q rs1 rv q1 (c.mono e1)) cx⟩⟩
/-! methods of lists -/
abbrev GM := D → List D → Gp → DK → Prop
structure DM (X : Cx) (id : String) (g : GM) : Prop where
  ex : ∃ r, MtR X id r ∧ ∀ F H G v vs x xs Qd Q, RS X.K F H G → Rep X.K F v x → RepL X.K F vs xs → g x xs G Qd → Cont X.K F Qd Q → r v vs H Q
/-- the receiver is a list that may change -/
def isL (x : D) (G : Gp) : Prop := match x with
  | .ref a => match G a with
    | some (.lst _) => True
    | _ => False
  | _ => False
theorem isL_ty {K : PySem.W.Frag} {F : Fp} {H : Hp} {G : Gp} {v : V} {x : D} (rs : RS K F H G) (r : Rep K F v x) (h : isL x G) : tyV K "list" v H := by
  cases r with
  | ref a =>
    unfold isL at h
    dsimp only at h
    split at h
    · rename_i ds eg
      obtain ⟨xs, h1, _⟩ := (rs.gf a _ eg).2
      exact .inl ⟨rfl, xs, .inl (.inl h1)⟩
    · exact h.elim
  | _ => exact False.elim h
abbrev dBM (g : GM) (do_ : DTE) (dA : DTA) : DTE := fun s G Q E => do_ s G (fun x G1 => isL x G1 ∧ dA s G1 (fun xs G2 => g x xs G2 Q) E) E
abbrev dBM0 (g : GM) (do_ : DTE) : DTE := fun s G Q E => do_ s G (fun x G1 => isL x G1 ∧ g x [] G1 Q) E
variable {o : Expr} {do_ : DTE} {name : Str} {apos cpos : Pos} {id : String} {g : GM}
theorem de_bm (pa : PlainAttrs "list") (slot : Slot "list" name id) (hty : typeOf (.builtin id) = pure (.type "method_descriptor")) (hm : DM X id g) (ho : DE X W o do_) (ha : DA X W (e :: es) dA)
    (hbase : attributeBase o name X.env (eval o X.env) = eval o X.env := by rfl)
    (hfew : ((backTo cpos (starEach (e :: es) X.env)).all (fun x => !x.1) && (backToKw cpos (keywordEach [] X.env)).all (fun x => x.1.isSome)
      && decide ((e :: es).length + ([] : List Keyword).length + (if ([] : List Keyword).isEmpty then 0 else 1) < 30)) = true := by rfl)
    (hline : (apos.endLine == cpos.line) = true := by rfl) (hs : starEach (e :: es) X.env = (false, eval e X.env) :: starEach es X.env := by rfl) (hplain : (backTo cpos (starEach es X.env)).any (·.1) = false := by rfl) :
    DE X W (.Call (.Attribute o name apos) (e :: es) [] cpos) (dBM g do_ dA) := by
  obtain ⟨r, h1, h2⟩ := hm
  obtain ⟨t, p, q⟩ := ho
  obtain ⟨u, p2, q2⟩ := ha
  refine ⟨⟨_, pe_bm pa slot hty h1 p p2 hbase hfew hline hs hplain, fun F σ H s G Qd Ed Q rs st hq c cx => q F σ H s G _ Ed _ rs st hq (fun F1 H1 G1 v x e1 rs1 rv q1 => ⟨isL_ty rs1 rv q1.1, ?_⟩) cx⟩⟩
  exact q2 F1 σ H1 s G1 _ Ed _ rs1 (st.mono e1) q1.2 (fun F2 H2 G2 vs xs e2 rs2 rvs q3 => h2 F2 H2 G2 v vs x xs Qd Q rs2 (rv.mono e2) rvs q3 (c.mono (e1.trans e2))) (cx.mono e1)
theorem de_bm0 (pa : PlainAttrs "list") (slot : Slot "list" name id) (hty : typeOf (.builtin id) = pure (.type "method_descriptor")) (hm : DM X id g) (ho : DE X W o do_)
    (hbase : attributeBase o name X.env (eval o X.env) = eval o X.env := by rfl) (hline : (apos.endLine == cpos.line) = true := by rfl) : DE X W (.Call (.Attribute o name apos) [] [] cpos) (dBM0 g do_) := by
  obtain ⟨r, h1, h2⟩ := hm
  obtain ⟨t, p, q⟩ := ho
  exact ⟨⟨_, pe_bm0 pa slot hty h1 p hbase hline, fun F σ H s G Qd Ed Q rs st hq c cx => q F σ H s G _ Ed _ rs st hq (fun F1 H1 G1 v x e1 rs1 rv q1 => ⟨isL_ty rs1 rv q1.1, h2 F1 H1 G1 v [] x [] Qd Q rs1 rv .nil q1.2 (c.mono e1)⟩) cx⟩⟩
def dmAppend : GM := fun x xs G Q => match x, xs with
  | .ref a, [y] => match G a with
    | some (.lst ds) => ds.length < sizeLine ∧ Q .non (gupd G a (.lst (ds ++ [y])))
    | _ => False
  | _, _ => False
theorem dm_append : DM X "list.append" dmAppend := ⟨⟨_, mt_append, fun F H G v vs x xs Qd Q rs rv rvs q c => by
  unfold dmAppend at q
  split at q
  · rename_i a y
    split at q
    · rename_i ds eg
      cases rv
      obtain ⟨u, rfl, ru⟩ := repl1 rvs
      obtain ⟨ys, h1, r1⟩ := (rs.gf a _ eg).2
      refine ⟨a, ys, u, rfl, rfl, h1, by rw [r1.length]; exact q.1, ?_⟩
      exact c F _ _ _ _ (FSame.refl F) (rs.setG eg (g := .lst (ds ++ [y])) ⟨_, upd_same, r1.append (.cons ru .nil)⟩) .non q.2
    · exact q.elim
  · exact q.elim⟩⟩
def dmExtend : GM := fun x xs G Q => match x, xs with
  | .ref a, [y] => match G a, lv y G with
    | some (.lst ds), some es => ds.length + es.length ≤ sizeLine ∧ Q .non (gupd G a (.lst (ds ++ es)))
    | _, _ => False
  | _, _ => False
theorem dm_extend : DM X "list.extend" dmExtend := ⟨⟨_, mt_extend, fun F H G v vs x xs Qd Q rs rv rvs q c => by
  unfold dmExtend at q
  split at q
  · rename_i a y
    split at q
    · rename_i ds es eg el
      cases rv
      obtain ⟨u, rfl, ru⟩ := repl1 rvs
      obtain ⟨ys, h1, r1⟩ := (rs.gf a _ eg).2
      obtain ⟨b, zs, rfl, h2, r2⟩ := lv_at rs ru el
      refine ⟨a, b, ys, zs, rfl, rfl, h1, h2, by rw [r1.length, r2.length]; exact q.1, ?_⟩
      exact c F _ _ _ _ (FSame.refl F) (rs.setG eg (g := .lst (ds ++ es)) ⟨_, upd_same, r1.append r2⟩) .non q.2
    · exact q.elim
  · exact q.elim⟩⟩
def dmPop : GM := fun x xs G Q => match x, xs with
  | .ref a, [] => match G a with
    | some (.lst ds) => match ds[ds.length - 1]? with
      | some d => Q d (gupd G a (.lst ds.dropLast))
      | none => False
    | _ => False
  | _, _ => False
theorem dm_pop : DM X "list.pop" dmPop := ⟨⟨_, mt_pop, fun F H G v vs x xs Qd Q rs rv rvs q c => by
  unfold dmPop at q
  split at q
  · rename_i a
    split at q
    · rename_i ds eg
      split at q
      · rename_i d ed
        cases rv
        cases rvs
        obtain ⟨ys, h1, r1⟩ := (rs.gf a _ eg).2
        obtain ⟨y, hy, ry⟩ := r1.get ed
        refine ⟨a, ys, y, rfl, rfl, h1, by rw [r1.length]; exact hy, ?_⟩
        exact c F _ _ _ _ (FSame.refl F) (rs.setG eg (g := .lst ds.dropLast) ⟨_, upd_same, r1.dropLast⟩) ry q
      · exact q.elim
    · exact q.elim
  · exact q.elim⟩⟩
/-! xs[::-1] -/
abbrev dRev (de : DTE) : DTE := fun s G Q E => de s G (fun x G1 => match lv x G1 with
  | some ds => Q (.lst ds.reverse) G1
  | none => False) E
theorem de_rev {k : Nat} {p1 p2 p3 : Pos} (h : DE X W e de) : DE X W (.Subscript e (.Slice none none (some (.UnaryOp .USub (.Constant (.int 1) k p1) p2)) p3) pos) (dRev de) := by
  obtain ⟨t, p, q⟩ := h
  refine ⟨⟨_, pe_revL p, fun F σ H s G Qd Ed Q rs st hq c cx => q F σ H s G _ Ed _ rs st hq (fun F1 H1 G1 v x e1 rs1 rv q1 => ?_) cx⟩⟩
  split at q1
  · rename_i ds el
    obtain ⟨a, xs, rfl, h1, r1⟩ := lv_at rs1 rv el
    exact ⟨a, xs, rfl, .inl (.inl h1), (c.mono e1).lst rs1 r1.reverse q1⟩
  · exact q1.elim
end
/-! comprehensions -/
def wipeD (s : DSt) : List Nat → DSt
  | [] => s
  | v :: vs => (wipeD s vs).set v none
theorem repst_wipe {K : PySem.W.Frag} {F : Fp} {σ : St} {s : DSt} (r : RepSt K F σ s) : ∀ vs : List Nat, RepSt K F (wipe σ vs) (wipeD s vs)
  | [] => r
  | v :: vs => (repst_wipe r vs).clear v none
theorem wipe_set {σ : St} {i : Nat} {x : Option V} : ∀ {vs : List Nat}, i ∈ vs → wipe (σ.set i x) vs = wipe σ vs
  | [], h => by cases h
  | v :: vs, h => by
    unfold wipe
    by_cases e : i ∈ vs
    · rw [wipe_set e]
    · have e2 : i = v := (List.mem_cons.mp h).resolve_right e
      subst e2
      have z : ∀ us : List Nat, i ∉ us → (wipe (σ.set i x) us) = (wipe σ us).set i x := fun us => by
        induction us with
        | nil => intro _; rfl
        | cons u us ih =>
          intro hn
          have n1 : i ≠ u := fun q => hn (by rw [q]; exact List.mem_cons_self)
          have n2 : i ∉ us := fun q => hn (List.mem_cons_of_mem _ q)
          show (wipe (σ.set i x) us).set u none = ((wipe σ us).set u none).set i x
          rw [ih n2, List.set_comm _ _ n1]
      rw [z vs e, List.set_set]
theorem wipe_wipe {σ : St} : ∀ vs us : List Nat, (∀ v ∈ vs, v ∈ us) → wipe (wipe σ vs) us = wipe σ us
  | [], _, _ => rfl
  | v :: vs, us, h => by
    show wipe ((wipe σ vs).set v none) us = wipe σ us
    rw [wipe_set (h v List.mem_cons_self), wipe_wipe vs us fun u hu => h u (List.mem_cons_of_mem _ hu)]
def ContW (K : PySem.W.Frag) (F : Fp) (σ0 : St) (vs : List Nat) (Qd : DSt → Gp → Prop) (Q : St → Hp → Prop) : Prop := ∀ F' H' G' σ s, FSame F F' → RS K F' H' G' → RepSt K F' σ s → wipe σ vs = wipe σ0 vs → Qd s G' → Q σ H'
structure DGv (X : Cx) (vs : List Nat) (e : Expr) (d : DTG) : Prop where
  ex : ∃ t, PG X e t ∧ ∀ F σ H s G v x Qd Q, RS X.K F H G → RepSt X.K F σ s → Rep X.K F v x → d x s G Qd → ContW X.K F σ vs Qd Q → t v σ H Q
structure DGvs (X : Cx) (vs : List Nat) (es : List Expr) (d : DTGs) : Prop where
  ex : ∃ t, PGs X es t ∧ ∀ F σ H s G us xs Qd Q, RS X.K F H G → RepSt X.K F σ s → RepL X.K F us xs → d xs s G Qd → ContW X.K F σ vs Qd Q → t us σ H Q
section
variable {X : Cx} {vs : List Nat} {pos : Pos}
theorem dgv_name (i : Nat) {x : Str} (hN : X.N.Nodup) (hv : i ∈ vs := by decide) (hi : X.N[i]? = some x := by rfl) (hx : Loc X.env.scope x := by first | exact Or.inl rfl | exact Or.inr rfl) (hf : X.fn x = true ∨ X.env.scope.names.lookup x = some .local := by first | exact .inl rfl | exact .inr rfl) : DGv X vs (.Name x pos) (dgName i) :=
  ⟨⟨_, pg_name hN hi hx hf, fun F σ H s G v x Qd Q rs st rv q c => c F H G _ _ (FSame.refl F) rs (st.set i rv) (wipe_set hv) q⟩⟩
theorem dgvs_nil : DGvs X vs [] dgNil := ⟨⟨_, pgs_nil, fun F σ H s G us xs Qd Q rs st rv q c => by
  obtain ⟨rfl, q⟩ := q
  cases rv
  exact ⟨rfl, c F H G _ _ (FSame.refl F) rs st rfl q⟩⟩⟩
theorem dgvs_cons {e : Expr} {es : List Expr} {d : DTG} {ds : DTGs} (h : DGv X vs e d) (h2 : DGvs X vs es ds) (hs : (assignEach (e :: es) X.env).map (·.2) = assign e X.env :: (assignEach es X.env).map (·.2) := by rfl) : DGvs X vs (e :: es) (dgCons d ds) := by
  obtain ⟨t, p, a⟩ := h
  obtain ⟨u, p2, a2⟩ := h2
  refine ⟨⟨_, pgs_cons p p2 hs, fun F σ H s G us xs Qd Q rs st rv q c => ?_⟩⟩
  cases rv with
  | nil => exact False.elim q
  | cons rx rr =>
    refine ⟨_, _, rfl, a F σ H s G _ _ _ _ rs st rx q fun F1 H1 G1 σ1 s1 e1 rs1 st1 w1 q1 => ?_⟩
    exact a2 F1 σ1 H1 s1 G1 _ _ Qd Q rs1 st1 (rr.mono e1) q1 fun F2 H2 G2 σ2 s2 e2 rs2 st2 w2 q2 => c F2 H2 G2 σ2 s2 (e1.trans e2) rs2 st2 (w2.trans w1) q2
theorem dgv_tup {es : List Expr} {k n : Nat} {d : DTGs} (hc : X.calm = true) (h : DGvs X vs es d)
    (hn : (assignEach es X.env).length = n := by rfl) (hst : (assignEach es X.env).findIdx? (·.1) = none := by rfl) : DGv X vs (.Tuple es k pos) (dgTup n d) := by
  obtain ⟨t, p, a⟩ := h
  refine ⟨⟨_, pg_or (pg_tup hc p hn hst) (pg_unl hc p hn hst), fun F σ H s G v x Qd Q rs st rv q c => ?_⟩⟩
  have viaL : (match lv x G with
    | some ds => ds.length = n ∧ d ds s G Qd
    | none => False) → gUnl X.K n t v σ H Q := fun q => by
    split at q
    · rename_i ds e
      obtain ⟨b, xs, rfl, h1, r1⟩ := lv_at rs rv e
      exact ⟨b, xs, rfl, .inl (.inl h1), by rw [r1.length]; exact q.1, a F σ H s G xs ds Qd Q rs st r1 q.2 c⟩
    · exact q.elim
  cases rv with
  | @tup b xs ds h1 r1 => exact .inl ⟨b, xs, rfl, same_t rs.same h1, by rw [r1.length]; exact q.1, a F σ H s G xs ds Qd Q rs st r1 q.2 c⟩
  | ref a => exact .inr (viaL q)
  | lst h r => exact .inr (viaL q)
  | str _ => exact .inr (viaL q)
  | non => exact .inr (viaL q)
  | bl _ => exact .inr (viaL q)
  | int _ => exact .inr (viaL q)
  | ty _ => exact .inr (viaL q)
  | glo _ => exact .inr (viaL q)
  | strm _ => exact .inr (viaL q)
  | scr _ => exact .inr (viaL q)
  | exn _ _ _ => exact .inr (viaL q)
structure DTs (X : Cx) (ifs : List Expr) (d : DTT) : Prop where
  ex : ∃ t, PTs X ifs t ∧ AT X.K W0 t d
abbrev dYes : DTT := fun _ G Q _ => Q true G
theorem dts_nil : DTs X [] dYes := ⟨⟨_, pts_nil, fun F σ H s G Qd Ed Q rs st q c cx => c F H G true (FSame.refl F) rs q⟩⟩
theorem dts_one {c : Expr} {d : DTT} (h : DT X W0 c d) : DTs X [c] d := by
  obtain ⟨t, p, q⟩ := h
  exact ⟨⟨_, pts_one p, q⟩⟩
end
/-- the turns of a comprehension whose list is at p -/
def lcTurns (I : DIt) (g : DTG) (tt : DTT) (te : DTE) (s : DSt) (G1 : Gp) (p : Addr) (fin : List D → Gp → Prop) : Prop :=
  ∃ V : Nat → List D → Gp → Prop, V 0 [] (gupd G1 p (.lst [])) ∧ (∀ i acc G', i ≤ I.n → V i acc G' → G' p = some (.lst acc) ∧ I.here G') ∧
    (∀ i x acc G', i < I.n → I.item i x → V i acc G' → g x s G' fun s2 G2 => tt s2 G2 (fun b G3 => if b = true then te s2 G3 (fun y G4 => G4 p = some (.lst acc) ∧ acc.length < sizeLine ∧ V (i + 1) (acc ++ [y]) (gupd G4 p (.lst (acc ++ [y])))) X0 else V (i + 1) acc G3) X0) ∧
    ∀ acc G', V I.n acc G' → fin acc G'
abbrev dLc (di : DTI) (g : DTG) (tt : DTT) (te : DTE) (vs : List Nat) : DTE := fun s G Q E => di s G (fun I G1 => ∀ p, G1 p = none → lcTurns I g tt te (wipeD s vs) G1 p fun acc G' => Q (.lst acc) (gdel G' p)) E
abbrev dLcM (di : DTI) (g : DTG) (tt : DTT) (te : DTE) (vs : List Nat) : DTE := fun s G Q E => di s G (fun I G1 => ∀ p, G1 p = none → lcTurns I g tt te (wipeD s vs) G1 p fun _ G' => Q (.ref p) G') E
section
variable {X : Cx} {W : WX} {tg iter elt : Expr} {ifs : List Expr} {scope : Scope} {own : List (Str × Nat)} {di : DTI} {g : DTG} {tt : DTT} {te : DTE} {pos : Pos}
theorem lc_core' {K : PySem.W.Frag} {W : WX} {ti : TI} {tg : TG} {t1 : TT} {t2 : TE} {vs : List Nat} (ai : AI K W ti di)
    (ag : ∀ F σ H s G v x Qd Q, RS K F H G → RepSt K F σ s → Rep K F v x → g x s G Qd → ContW K F σ vs Qd Q → tg v σ H Q) (at_ : AT K W0 t1 tt) (ae : AE K W0 t2 te)
    {F : Fp} {σ : St} {H : Hp} {s : DSt} {G : Gp} {Ed : DX} {Q : VK} {fin : Addr → List D → Gp → Prop} (rs : RS K F H G) (st : RepSt K F σ s)
    (q : di s G (fun I G1 => ∀ p, G1 p = none → lcTurns I g tt te (wipeD s vs) G1 p (fin p)) Ed) (cx : ContX K F W σ Ed)
    (hf : ∀ F' H' G' p acc, FSame F F' → RS K F' H' G' → G' p = some (.lst acc) → fin p acc G' → Q (.ref p) H') : tLc ti tg t1 t2 vs σ H Q := by
  refine ai F σ H s G _ Ed _ rs st q (fun F1 H1 G1 J I e1 rs1 ir q1 D hD => ?_) cx
  obtain ⟨V, v0, here, turn, done⟩ := q1 D (rs1.free hD).2
  have rs0 : RS K F1 (upd H1 D (.lst [])) (gupd G1 D (.lst [])) := rs1.newG hD (g := .lst []) ⟨[], upd_same, .nil⟩
  refine ⟨fun i m H' => i + m = I.n ∧ ∃ F' acc G', FSame F1 F' ∧ RS K F' H' G' ∧ V i acc G', ⟨I.n, Nat.zero_add _, F1, [], _, FSame.refl F1, rs0, v0⟩, fun i m H2 hW => ?_⟩
  obtain ⟨em, F2, acc, G2, e2, rs2, v2⟩ := hW
  by_cases hlt : i < I.n
  · have hr := here i acc G2 (Nat.le_of_lt hlt) v2
    refine .inr ⟨ir.go F2 H2 G2 i e2 rs2 hr.2 hlt, fun H' => ∃ F' acc G', FSame F1 F' ∧ RS K F' H' G' ∧ V (i + 1) acc G', fun H' hN => ⟨m - 1, by omega, by omega, hN⟩, fun x H3 hy => ?_⟩
    obtain ⟨F3, dx, e3, rs3, rx, it⟩ := ir.yld F2 H2 G2 i x H3 e2 rs2 hr.2 hlt hy
    have e03 := (e1.trans e2).trans e3
    refine ag F3 (wipe σ vs) H3 (wipeD s vs) G2 x dx _ _ rs3 (repst_wipe (st.mono e03) vs) rx (turn i dx acc G2 hlt it v2) fun F4 H4 G4 σ4 s4 e4 rs4 st4 w4 q4 => ⟨w4.trans (wipe_wipe vs vs fun _ h => h), ?_⟩
    refine at_ F4 σ4 H4 s4 G4 _ _ _ rs4 st4 q4 (fun F5 H5 G5 b e5 rs5 q5 => ?_) (fun _ _ _ _ _ _ _ _ _ z => z)
    cases b with
    | false => exact ⟨F5, acc, G5, ((e2.trans e3).trans e4).trans e5, rs5, q5⟩
    | true =>
      refine ae F5 σ4 H5 s4 G5 _ _ _ rs5 (st4.mono e5) q5 (fun F6 H6 G6 y dy e6 rs6 ry q6 => ?_) (fun _ _ _ _ _ _ _ _ _ z => z)
      obtain ⟨eD, lt, v6⟩ := q6
      obtain ⟨xs, h1, r1⟩ := (rs6.gf D _ eD).2
      exact ⟨xs, h1, by rw [r1.length]; exact lt, F6, acc ++ [dy], _, (((e2.trans e3).trans e4).trans e5).trans e6, rs6.setG eD (g := .lst (acc ++ [dy])) ⟨_, upd_same, r1.append (.cons ry .nil)⟩, v6⟩
  · have ei : i = I.n := by omega
    subst ei
    have hr := here I.n acc G2 (Nat.le_refl _) v2
    exact .inl ⟨ir.stop F2 H2 G2 e2 rs2 hr.2, hf F2 H2 G2 D acc (e1.trans e2) rs2 hr.1 (done acc G2 v2)⟩
theorem ae_lc {K : PySem.W.Frag} {W : WX} {ti : TI} {tg : TG} {t1 : TT} {t2 : TE} {vs : List Nat} (ai : AI K W ti di)
    (ag : ∀ F σ H s G v x Qd Q, RS K F H G → RepSt K F σ s → Rep K F v x → g x s G Qd → ContW K F σ vs Qd Q → tg v σ H Q) (at_ : AT K W0 t1 tt) (ae : AE K W0 t2 te) : AE K W (tLc ti tg t1 t2 vs) (dLc di g tt te vs) := fun F σ H s G Qd Ed Q rs st q c cx =>
  lc_core' ai ag at_ ae rs st q cx fun F' H' G' p acc e' rs' ep f => by
    obtain ⟨F2, e2, rs2, r2⟩ := rs'.freeze ep
    exact c F2 H' _ _ _ (e'.trans e2) rs2 r2 f
theorem ae_lcM {K : PySem.W.Frag} {W : WX} {ti : TI} {tg : TG} {t1 : TT} {t2 : TE} {vs : List Nat} (ai : AI K W ti di)
    (ag : ∀ F σ H s G v x Qd Q, RS K F H G → RepSt K F σ s → Rep K F v x → g x s G Qd → ContW K F σ vs Qd Q → tg v σ H Q) (at_ : AT K W0 t1 tt) (ae : AE K W0 t2 te) : AE K W (tLc ti tg t1 t2 vs) (dLcM di g tt te vs) := fun F σ H s G Qd Ed Q rs st q c cx =>
  lc_core' ai ag at_ ae rs st q cx fun F' H' G' p acc e' rs' ep f => c F' H' _ _ _ e' rs' (.ref p) f
/-- the reading that hangs on the datum's own alone -/
def tOf (K : PySem.W.Frag) (W : WX) (d : DTE) : TE := fun σ H Q => ∃ F s G Qd Ed, RS K F H G ∧ RepSt K F σ s ∧ d s G Qd Ed ∧ Cont K F Qd Q ∧ ContX K F W σ Ed
def ttOf (K : PySem.W.Frag) (W : WX) (d : DTT) : TT := fun σ H Q => ∃ F s G Qd Ed, RS K F H G ∧ RepSt K F σ s ∧ d s G Qd Ed ∧ ContT K F Qd Q ∧ ContX K F W σ Ed
def tgOf (K : PySem.W.Frag) (vs : List Nat) (d : DTG) : TG := fun v σ H Q => ∃ F s G x Qd, RS K F H G ∧ RepSt K F σ s ∧ Rep K F v x ∧ d x s G Qd ∧ ContW K F σ vs Qd Q
theorem DE.pe {X : Cx} {W : WX} {e : Expr} {d : DTE} (h : DE X W e d) : PE X e (tOf X.K W d) := by
  obtain ⟨t, p, a⟩ := h
  refine ⟨fun pins s σ H Q I q => p.run pins s σ H Q I ?_⟩
  obtain ⟨F, s, G, Qd, Ed, h1, h2, h3, h4, h5⟩ := q
  exact a F σ H s G Qd Ed Q h1 h2 h3 h4 h5
theorem DTs.pt {X : Cx} {es : List Expr} {d : DTT} (h : DTs X es d) : PTs X es (ttOf X.K W0 d) := by
  obtain ⟨t, p, a⟩ := h
  refine ⟨fun pins s σ H Q I q => p.run pins s σ H Q I ?_⟩
  obtain ⟨F, s, G, Qd, Ed, h1, h2, h3, h4, h5⟩ := q
  exact a F σ H s G Qd Ed Q h1 h2 h3 h4 h5
theorem DGv.pg {X : Cx} {vs : List Nat} {e : Expr} {d : DTG} (h : DGv X vs e d) : PG X e (tgOf X.K vs d) := by
  obtain ⟨t, p, a⟩ := h
  refine ⟨fun pins s σ H v u Q I r q => p.run pins s σ H v u Q I r ?_⟩
  obtain ⟨F, s, G, x, Qd, h1, h2, h3, h4, h5⟩ := q
  exact a F σ H s G v x Qd Q h1 h2 h3 h4 h5
theorem ae_of {K : PySem.W.Frag} {W : WX} {d : DTE} : AE K W (tOf K W d) d := fun F σ H s G Qd Ed Q h1 h2 h3 h4 h5 => ⟨F, s, G, Qd, Ed, h1, h2, h3, h4, h5⟩
theorem at_of' {K : PySem.W.Frag} {W : WX} {d : DTT} : AT K W (ttOf K W d) d := fun F σ H s G Qd Ed Q h1 h2 h3 h4 h5 => ⟨F, s, G, Qd, Ed, h1, h2, h3, h4, h5⟩
theorem de_lc (hc : X.calm = true) (hN : X.N.Nodup) (hi : DI X W tg iter di) (ok : BlkOk X.N X.env.scope scope own)
    (hg : ∀ (s : Shared) (H : Hp) (C : Addr) (cl : List (Str × Addr)) (fp : List Addr), DGv (X.blk s H scope (compEnvC scope cl C X.env) fp) (own.map (·.2)) tg g)
    (ht : ∀ (s : Shared) (H : Hp) (C : Addr) (cl : List (Str × Addr)) (fp : List Addr), DTs (X.blk s H scope (compEnvC scope cl C X.env) fp) ifs tt)
    (he : ∀ (s : Shared) (H : Hp) (C : Addr) (cl : List (Str × Addr)) (fp : List Addr), DE (X.blk s H scope (compEnvC scope cl C X.env) fp) W0 elt te) (hs : ∀ x, foldedSetIterable iter X.env x = pure x := by intro _; rfl) :
    DE X W (.ListComp elt [⟨tg, iter, ifs, 0⟩] scope pos) (dLc di g tt te (own.map (·.2))) := by
  obtain ⟨ti, p, ai⟩ := hi
  exact ⟨⟨_, pe_lc (g := tgOf X.K (own.map (·.2)) g) (tt := ttOf X.K W0 tt) (te := tOf X.K W0 te) hc hN p ok (fun s H C cl fp => (hg s H C cl fp).pg) (fun s H C cl fp => (ht s H C cl fp).pt) (fun s H C cl fp => (he s H C cl fp).pe) hs,
    ae_lc ai (fun F σ H s G v x Qd Q h1 h2 h3 h4 h5 => ⟨F, s, G, x, Qd, h1, h2, h3, h4, h5⟩) at_of' ae_of⟩⟩
theorem de_lcM (hc : X.calm = true) (hN : X.N.Nodup) (hi : DI X W tg iter di) (ok : BlkOk X.N X.env.scope scope own)
    (hg : ∀ (s : Shared) (H : Hp) (C : Addr) (cl : List (Str × Addr)) (fp : List Addr), DGv (X.blk s H scope (compEnvC scope cl C X.env) fp) (own.map (·.2)) tg g)
    (ht : ∀ (s : Shared) (H : Hp) (C : Addr) (cl : List (Str × Addr)) (fp : List Addr), DTs (X.blk s H scope (compEnvC scope cl C X.env) fp) ifs tt)
    (he : ∀ (s : Shared) (H : Hp) (C : Addr) (cl : List (Str × Addr)) (fp : List Addr), DE (X.blk s H scope (compEnvC scope cl C X.env) fp) W0 elt te) (hs : ∀ x, foldedSetIterable iter X.env x = pure x := by intro _; rfl) :
    DE X W (.ListComp elt [⟨tg, iter, ifs, 0⟩] scope pos) (dLcM di g tt te (own.map (·.2))) := by
  obtain ⟨ti, p, ai⟩ := hi
  exact ⟨⟨_, pe_lc (g := tgOf X.K (own.map (·.2)) g) (tt := ttOf X.K W0 tt) (te := tOf X.K W0 te) hc hN p ok (fun s H C cl fp => (hg s H C cl fp).pg) (fun s H C cl fp => (ht s H C cl fp).pt) (fun s H C cl fp => (he s H C cl fp).pe) hs,
    ae_lcM ai (fun F σ H s G v x Qd Q h1 h2 h3 h4 h5 => ⟨F, s, G, x, Qd, h1, h2, h3, h4, h5⟩) at_of' ae_of⟩⟩
/-- y = [.. for ..] -/
theorem ds_setLc {i : Nat} {y : Str} {py spos : Pos} (hc : X.calm = true) (hN : X.N.Nodup) (hy : X.N[i]? = some y) (hyl : X.env.scope.names.lookup y = some .local)
    (hsw : swapsWith (.ListComp elt [⟨tg, iter, ifs, 0⟩] scope pos) (some (.Name y py)) spos.line X.env = pure true) (hi : DI X W tg iter di) (ok : BlkOk X.N X.env.scope scope own)
    (hg : ∀ (s : Shared) (H : Hp) (C : Addr) (cl : List (Str × Addr)) (fp : List Addr), DGv (X.blk s H scope (compEnvC scope cl C X.env) fp) (own.map (·.2)) tg g)
    (ht : ∀ (s : Shared) (H : Hp) (C : Addr) (cl : List (Str × Addr)) (fp : List Addr), DTs (X.blk s H scope (compEnvC scope cl C X.env) fp) ifs tt)
    (he : ∀ (s : Shared) (H : Hp) (C : Addr) (cl : List (Str × Addr)) (fp : List Addr), DE (X.blk s H scope (compEnvC scope cl C X.env) fp) W0 elt te) (hs : ∀ x, foldedSetIterable iter X.env x = pure x := by intro _; rfl) :
    DS X W (.Assign [.Name y py] (.ListComp elt [⟨tg, iter, ifs, 0⟩] scope pos) spos) (dSet i (dLc di g tt te (own.map (·.2)))) := by
  obtain ⟨ti, p, ai⟩ := hi
  refine ⟨⟨_, ps_setLc (g := tgOf X.K (own.map (·.2)) g) (tt := ttOf X.K W0 tt) (te := tOf X.K W0 te) hc hN hy hyl hsw p ok (fun s H C cl fp => (hg s H C cl fp).pg) (fun s H C cl fp => (ht s H C cl fp).pt) (fun s H C cl fp => (he s H C cl fp).pe) hs, fun F σ H s G Dd E rs st q r => ?_⟩⟩
  exact ae_lc ai (fun F σ H s G v x Qd Q h1 h2 h3 h4 h5 => ⟨F, s, G, x, Qd, h1, h2, h3, h4, h5⟩) at_of' ae_of F σ H s G _ _ _ rs st q (fun F1 H1 G1 v x e1 rs1 rv q1 => r.nx F1 H1 G1 _ _ e1 rs1 ((st.mono e1).set i rv) q1) (r.ex.at_ st)
theorem ds_setLcM {i : Nat} {y : Str} {py spos : Pos} (hc : X.calm = true) (hN : X.N.Nodup) (hy : X.N[i]? = some y) (hyl : X.env.scope.names.lookup y = some .local)
    (hsw : swapsWith (.ListComp elt [⟨tg, iter, ifs, 0⟩] scope pos) (some (.Name y py)) spos.line X.env = pure true) (hi : DI X W tg iter di) (ok : BlkOk X.N X.env.scope scope own)
    (hg : ∀ (s : Shared) (H : Hp) (C : Addr) (cl : List (Str × Addr)) (fp : List Addr), DGv (X.blk s H scope (compEnvC scope cl C X.env) fp) (own.map (·.2)) tg g)
    (ht : ∀ (s : Shared) (H : Hp) (C : Addr) (cl : List (Str × Addr)) (fp : List Addr), DTs (X.blk s H scope (compEnvC scope cl C X.env) fp) ifs tt)
    (he : ∀ (s : Shared) (H : Hp) (C : Addr) (cl : List (Str × Addr)) (fp : List Addr), DE (X.blk s H scope (compEnvC scope cl C X.env) fp) W0 elt te) (hs : ∀ x, foldedSetIterable iter X.env x = pure x := by intro _; rfl) :
    DS X W (.Assign [.Name y py] (.ListComp elt [⟨tg, iter, ifs, 0⟩] scope pos) spos) (dSet i (dLcM di g tt te (own.map (·.2)))) := by
  obtain ⟨ti, p, ai⟩ := hi
  refine ⟨⟨_, ps_setLc (g := tgOf X.K (own.map (·.2)) g) (tt := ttOf X.K W0 tt) (te := tOf X.K W0 te) hc hN hy hyl hsw p ok (fun s H C cl fp => (hg s H C cl fp).pg) (fun s H C cl fp => (ht s H C cl fp).pt) (fun s H C cl fp => (he s H C cl fp).pe) hs, fun F σ H s G Dd E rs st q r => ?_⟩⟩
  exact ae_lcM ai (fun F σ H s G v x Qd Q h1 h2 h3 h4 h5 => ⟨F, s, G, x, Qd, h1, h2, h3, h4, h5⟩) at_of' ae_of F σ H s G _ _ _ rs st q (fun F1 H1 G1 v x e1 rs1 rv q1 => r.nx F1 H1 G1 _ _ e1 rs1 ((st.mono e1).set i rv) q1) (r.ex.at_ st)
end
/-! bounds, in short -/
theorem cmul_l {i j : Int} (h : -(2 ^ 64) < i ∧ i < 2 ^ 64) : CMulD i j := .inr (.inl h)
theorem cmul_r {i j : Int} (h : -(2 ^ 64) < j ∧ j < 2 ^ 64) : CMulD i j := .inr (.inr h)
theorem cmul_w {i j : Int} (a b : Nat) (hi : i.natAbs < 2 ^ a) (hj : j.natAbs < 2 ^ b) (h0 : 0 < a := by decide) (h1 : 0 < b := by decide) (h : a + b ≤ 1000000 := by decide) : CMulD i j := .inl (wide_mul hi hj h0 h1 h)
theorem cdiv_w {i j : Int} (b : Nat) (h : 0 < j) (hj : j.natAbs < 2 ^ b) (h0 : 0 < b := by decide) (h9 : b ≤ 9000 := by decide) : CDivW i j := wide_div h hj h0 h9
theorem cdiv_s {i j : Int} (h : 0 < j) (hj : j < 18446744073709551616) : CDivW i j := cdiv_w 64 h (by
  have e : (2 : Nat) ^ 64 = 18446744073709551616 := by decide
  omega)
theorem cdiv_x {i i' j : Int} (h : CDivW i j) : CDivW i' j := h
theorem cpow_10 {j : Int} (h0 : 0 ≤ j) (h1 : j ≤ 1000000) : CPow 10 j := ⟨h0, h1, by decide⟩
theorem cpow_2 {j : Int} (h0 : 0 ≤ j) (h1 : j ≤ 1000000) : CPow 2 j := ⟨h0, h1, by decide⟩
theorem size_le {n : Nat} (h : n ≤ 16777216) : n ≤ sizeLine := by
  rw [sizeLine_eq]
  exact h
theorem size_lt {n : Nat} (h : n < 16777216) : n < sizeLine := by
  rw [sizeLine_eq]
  exact h
theorem size_1 : (1 ≤ sizeLine) = True := eq_true (size_le (by decide))
theorem size_2 : (2 ≤ sizeLine) = True := eq_true (size_le (by decide))
theorem size_3 : (3 ≤ sizeLine) = True := eq_true (size_le (by decide))
theorem size_4 : (4 ≤ sizeLine) = True := eq_true (size_le (by decide))
theorem size_5 : (5 ≤ sizeLine) = True := eq_true (size_le (by decide))
theorem size_6 : (6 ≤ sizeLine) = True := eq_true (size_le (by decide))
theorem size_7 : (7 ≤ sizeLine) = True := eq_true (size_le (by decide))
theorem size_8 : (8 ≤ sizeLine) = True := eq_true (size_le (by decide))
theorem size_0 : (0 ≤ sizeLine) = True := eq_true (Nat.zero_le _)
theorem kit_ii : kitB "int" "int" = some true := by decide +kernel
theorem kit_ib : kitB "int" "bool" = some false := by decide +kernel
theorem kit_bi : kitB "bool" "int" = some true := by decide +kernel
theorem kit_bb : kitB "bool" "bool" = some true := by decide +kernel
theorem kit_tt : kitB "tuple" "tuple" = some true := by decide +kernel
theorem kit_tl : kitB "tuple" "list" = some false := by decide +kernel
theorem kit_lt : kitB "list" "tuple" = some false := by decide +kernel
theorem kit_ll : kitB "list" "list" = some true := by decide +kernel
theorem kit_it : kitB "int" "tuple" = some false := by decide +kernel
theorem kit_nt : kitB "NoneType" "tuple" = some false := by decide +kernel
theorem kit_ti : kitB "tuple" "int" = some false := by decide +kernel
theorem kit_st : kitB "str" "tuple" = some false := by decide +kernel
theorem kit_si : kitB "str" "int" = some false := by decide +kernel
theorem kit_ss : kitB "str" "str" = some true := by decide +kernel
theorem atI_0 {α : Type} {x : α} {r : List α} : atI (x :: r) 0 = some x := by
  unfold atI ixN
  rw [if_pos (by decide), if_pos (by simp only [List.length_cons]; omega)]
  rfl
theorem atI_1 {α : Type} {x y : α} {r : List α} : atI (x :: y :: r) 1 = some y := by
  unfold atI ixN
  rw [if_pos (by decide), if_pos (by simp only [List.length_cons]; omega)]
  rfl
theorem atI_2 {α : Type} {x y z : α} {r : List α} : atI (x :: y :: z :: r) 2 = some z := by
  unfold atI ixN
  rw [if_pos (by decide), if_pos (by simp only [List.length_cons]; omega)]
  rfl
theorem atI_3 {α : Type} {x y z u : α} {r : List α} : atI (x :: y :: z :: u :: r) 3 = some u := by
  unfold atI ixN
  rw [if_pos (by decide), if_pos (by simp only [List.length_cons]; omega)]
  rfl
theorem atI_4 {α : Type} {x y z u v : α} {r : List α} : atI (x :: y :: z :: u :: v :: r) 4 = some v := by
  unfold atI ixN
  rw [if_pos (by decide), if_pos (by simp only [List.length_cons]; omega)]
  rfl
theorem atI_5 {α : Type} {x y z u v w : α} {r : List α} : atI (x :: y :: z :: u :: v :: w :: r) 5 = some w := by
  unfold atI ixN
  rw [if_pos (by decide), if_pos (by simp only [List.length_cons]; omega)]
  rfl
/-- an item of a written list, at a place that lies in it -/
theorem atI_in {α : Type} {xs : List α} {i : Int} (h0 : 0 ≤ i) (h1 : i < xs.length) : ∃ x, atI xs i = some x ∧ x ∈ xs := by
  unfold atI ixN
  rw [if_pos h0, if_pos h1, Option.bind_some]
  have l : i.toNat < xs.length := by omega
  exact ⟨xs[i.toNat], List.getElem?_eq_getElem l, List.getElem_mem l⟩
theorem atI_get {α : Type} {xs : List α} {i : Nat} {x : α} (h : xs[i]? = some x) : atI xs (i : Int) = some x := atI_nat h
/-- the two ways meet: a name that one of them turns -/
theorem ite_meet {α : Type} {c : Prop} [Decidable c] {P : α → Prop} {a b : α} (h : P (if c then a else b)) : if c then P a else P b := by
  by_cases k : c
  · rw [if_pos k] at h ⊢
    exact h
  · rw [if_neg k] at h ⊢
    exact h
end Dl
set_option Elab.async false
set_option linter.all false
set_option maxRecDepth 100000
set_option maxHeartbeats 4000000
/-! The data layer: a tuple backwards; try. -/
namespace Dl
open PySem PySem.Spec PyProof.Rows L2
set_option autoImplicit false
section
variable {prog : Program} {w : World} {A : Around} {E : Value → Shared → Prop} {s : Shared}
theorem back_pick (xs : Array Value) : ((List.range xs.size).filterMap fun (k : Nat) => xs[(((xs.size : Int) - 1) + (k : Int) * (-1)).toNat]?) = xs.toList.reverse := by
  have e1 : (fun (k : Nat) => xs[(((xs.size : Int) - 1) + (k : Int) * (-1)).toNat]?) = (xs[·]?) ∘ fun k => xs.size - 1 - k := by
    funext k
    show xs[(((xs.size : Int) - 1) + (k : Int) * (-1)).toNat]? = xs[xs.size - 1 - k]?
    congr 1
    omega
  rw [e1, ← List.filterMap_map, PySem.W.krv_range, List.filterMap_reverse, PySem.W.krv_all]
theorem back_places (n : Nat) : Builtin.Slice.slicePlaces ((n : Int) - 1) (-1) (-1) = n := by
  unfold Builtin.Slice.slicePlaces
  rw [if_neg (show ¬ ((-1 : Int) > 0) by decide)]
  by_cases h : (n : Int) - 1 > -1
  · rw [if_pos h, show (-(-1) : Int) = 1 by decide, Int.ediv_one]
    omega
  · rw [if_neg h]
    omega
theorem back_item {t sl : Addr} {xs : Array Value} {vs : Value} {Q : Value → Shared → Prop} (ht : IsTup s.heap t xs) (hs : s.heap.IsSliceOf sl .none .none vs) (pv : IsPart vs (some (-1))) (hz : xs.size ≤ sizeLine)
    (q : Q (.ref s.heap.objs.size) { s with heap := s.heap.push { cls := .type "tuple", data := .seq xs.toList.reverse.toArray } }) : wpAny (model prog w) A (getItem (.ref t) (.ref sl)) Q E s := by
  have hs' := hs
  obtain ⟨ob, hob, hcb, hdb⟩ := hs'
  have hT : s.TypeIs (.ref sl) "slice" := ⟨ob, hob, hcb⟩
  have fit : sizeOk (.seq xs.toList.reverse.toArray) := by
    show xs.toList.reverse.toArray.size ≤ sizeLine
    rw [List.size_toArray, List.length_reverse, Array.length_toList]
    exact hz
  unfold getItem
  first | (with_reducible refine wpAny_holding ?_) | skip
  first | refine wpAny_bind (wpAny_pure ?_) | skip
  refine wpAny_bind (wpAny_sequenceKey (ht.typeIs) (by decide) ?_)
  refine wpAny_bind (wpAny_callSpecial?_slot (name := Str.ofString "__getitem__") (ht.typeIs) PyProof.Rows.slot_tuple_getitem (wpAny_call_entry PyProof.Rows.slot_tuple_getitem (ht.typeIs) PyProof.Rows.entry_tuple_getitem ?_ (PyProof.Rows.args_tuple_getitem _ _)))
  show wpAny (model prog w) _ (Builtin.Tuple.tupleItemsOf (.ref t) >>= _) _ _ s
  refine wpAny_bind (PyProof.Rows.tupleItemsOf_ ht (wpAny_bind (wpAny_typeOf hT ?_)))
  rw [if_pos (by decide)]
  refine wpAny_bind (?_ : wpAny (model prog w) _ (Builtin.Slice.sliceApplied (.ref sl) (pure (xs.size : Int))) _ _ s)
  unfold Builtin.Slice.sliceApplied Builtin.Slice.sliceFields
  refine wpAny_bind (wpAny_bind (wpAny_field hob hdb (x := .none) rfl (wpAny_bind (wpAny_field hob hdb (x := .none) rfl (wpAny_bind (wpAny_field hob hdb (x := vs) rfl (wpAny_pure ?_)))))))
  refine wpAny_bind (HT.slicePart_ pv ?_)
  show wpAny _ _ (if ((-1 : Int) == 0) = true then _ else _) _ _ s
  rw [if_neg (by decide)]
  refine wpAny_bind (PyProof.Rows.slicePart_none (wpAny_bind (PyProof.Rows.slicePart_none (wpAny_bind (wpAny_pure ?_)))))
  show wpAny _ _ (pure (((xs.size : Int) - 1), (-1 : Int), Builtin.Slice.slicePlaces ((xs.size : Int) - 1) (-1) (-1))) _ _ s
  rw [back_places]
  refine wpAny_pure ?_
  have no : ¬ ((((xs.size : Int) - 1) == 0 && (-1 : Int) == 1 && xs.size == xs.size) = true) := by
    rw [show ((-1 : Int) == 1) = false by decide, Bool.and_false, Bool.false_and]
    exact Bool.false_ne_true
  show wpAny _ _ (if (((xs.size : Int) - 1) == 0 && (-1 : Int) == 1 && xs.size == xs.size) = true then _ else _) _ _ s
  rw [if_neg no, back_pick]
  have fin : ∀ {A' : Around} {Q' : Value → Shared → Prop}, Q' (.ref s.heap.objs.size) { s with heap := s.heap.push { cls := .type "tuple", data := .seq xs.toList.reverse.toArray } } → wpAny (model prog w) A' (Builtin.Tuple.tupleExact xs.toList.reverse.toArray) Q' E s := fun z => wpAny_newObj_type z fit
  first
    | exact wpAny_bind (m := Builtin.Tuple.tupleExact _) (wpAny_newObj_type (wpAny_pure ⟨_, rfl, wpAny_pure q⟩) fit)
    | exact wpAny_bind (m := Builtin.Tuple.tupleExact _) (wpAny_newObj_type (wpAny_bind (wpAny_pure (wpAny_pure ⟨_, rfl, wpAny_pure q⟩))) fit)
    | exact wpAny_bind (wpAny_bind (m := Builtin.Tuple.tupleExact _) (wpAny_newObj_type (wpAny_pure (wpAny_pure ⟨_, rfl, wpAny_pure q⟩)) fit))
    | exact wpAny_bind (wpAny_bind (m := Builtin.Tuple.tupleExact _) (wpAny_newObj_type (wpAny_pure ⟨_, rfl, wpAny_pure q⟩) fit))
end
section
variable {X : Cx} {W : WX} {e : Expr} {de : DTE} {pos : Pos}
def tBack (K : PySem.W.Frag) (te : TE) : TE := fun σ H Q => te σ H fun x H1 => ∃ a xs, x = .ref a ∧ SqT K H1 a xs ∧ ∀ p, H1 p = none → Q (.ref p) (upd H1 p (.tup xs.reverse))
theorem pe_back {te : TE} {k : Nat} {p1 p2 p3 : Pos} (he : PE X e te) : PE X (.Subscript e (.Slice none none (some (.UnaryOp .USub (.Constant (.int 1) k p1) p2)) p3) pos) (tBack X.K te) := by
  constructor
  intro pins s σ H Q I h
  refine Subscript_ (thn (he.run pins s σ H _ I h) fun v s1 hv => ?_)
  obtain ⟨x, H1, I1, r1, a, xs, ex, hx, q⟩ := hv
  subst ex
  cases r1
  have hst : PO X (some (.UnaryOp .USub (.Constant (.int 1) k p1) p2)) (tPart (tUn (rU fun i => .int (-i)) (tC (.int 1)))) := po_some (pe_un un_neg pe_int)
  refine wpAny_Slice ?_
  refine thn (po_none.run pins s1 σ H1 (fun o H2 => o = none ∧ H2 = H1) I1 ⟨rfl, rfl⟩) fun vl s2 z2 => ?_
  obtain ⟨l, H2, I2, pl, rfl, rfl⟩ := z2
  refine thn (po_none.run pins s2 σ H2 (fun o H3 => o = none ∧ H3 = H2) I2 ⟨rfl, rfl⟩) fun vu s3 z3 => ?_
  obtain ⟨u, H3, I3, pu, rfl, rfl⟩ := z3
  refine thn (hst.run pins s3 σ H3 (fun o H4 => o = some (-1) ∧ H4 = H3) I3 ⟨1, rfl, -1, rfl, rfl, rfl⟩) fun vs s4 z4 => ?_
  obtain ⟨o, H4, I4, ps, rfl, rfl⟩ := z4
  cases pl
  cases pu
  have I5 : Inv X pins σ H4 { s4 with heap := s4.heap.push { cls := .type "slice", data := .fields #[.none, .none, vs] } } := I4.kept (t' := s4.toks) fun b ob z => Heap.get?_push_of_some _ z
  obtain ⟨its, r, ht, hz⟩ := I5.tuple hx
  have hlen := r.length
  refine tail_any (ops := [.ref a, .ref s4.heap.objs.size]) ht.typeIs PyProof.Rows.slot_tuple_getitem.lookup ?_ (by with_unfolding_all rfl)
  refine back_item ht (Heap.IsSliceOf.new _ .none .none vs) ps (by rw [List.size_toArray, ← hlen]; exact hz) ?_
  refine ⟨.ref _, _, I5.laid (t' := s4.toks) (o := .tup xs.reverse) (fun b ob z => Heap.get?_push_of_some _ z) (Nat.le_refl _) ?_, rfl, q _ (I5.hok.fresh (Nat.le_refl _))⟩
  exact ⟨by rw [List.length_reverse]; exact hz, _, r.reverse, ⟨_, Heap.get?_push_size _ rfl, rfl, 0, rfl⟩⟩
/-- t[::-1], a tuple -/
abbrev dRevT (de : DTE) : DTE := fun s G Q E => de s G (fun x G1 => match x with
  | .tup ds => Q (.tup ds.reverse) G1
  | _ => False) E
theorem de_revT {k : Nat} {p1 p2 p3 : Pos} (h : DE X W e de) : DE X W (.Subscript e (.Slice none none (some (.UnaryOp .USub (.Constant (.int 1) k p1) p2)) p3) pos) (dRevT de) := by
  obtain ⟨t, p, q⟩ := h
  refine ⟨⟨_, pe_back p, fun F σ H s G Qd Ed Q rs st hq c cx => q F σ H s G _ Ed _ rs st hq (fun F1 H1 G1 v x e1 rs1 rv q1 => ?_) cx⟩⟩
  cases rv with
  | @tup a xs ds h1 r1 => exact ⟨a, xs, rfl, same_t rs1.same h1, (c.mono e1).tup rs1 r1.reverse q1⟩
  | _ => exact False.elim q1
end
/-! ### try -/
def tsOf (K : PySem.W.Frag) (W : WX) (d : DTS) : TS := fun E σ H => ∃ F s G Dd, RS K F H G ∧ RepSt K F σ s ∧ d Dd s G ∧ EndsR K F W Dd E
theorem DSs.pss {X : Cx} {W : WX} {b : List Stmt} {d : DTS} (h : DSs X W b d) : PSs X b (tsOf X.K W d) := by
  obtain ⟨t, p, a⟩ := h
  constructor
  intro pins s σ H D I q
  refine p.run pins s σ H D I ?_
  obtain ⟨F, s', G, Dd, h1, h2, h3, h4⟩ := q
  exact a F σ H s' G Dd D h1 h2 h3 h4
/-- which classes a clause takes: what is known of it -/
structure Catch (K : PySem.W.Frag) (c : Value) (m : Str → Option Bool) : Prop where
  ok : ∀ y b, m y = some b → PySem.W.exmOne K (.ref (He.ga K y)) c = some b
/-- the suite's own ends: nothing is let out -/
abbrev sEnds (D : DEnds) : DEnds := { D with ex := fun _ _ _ => False }
abbrev dTry (m : Str → Option Bool) (db : DTS) (ds : Exn → Addr → DTS) : DTS := fun D s G => db { D with ex := fun e s' G' => match m e.cls with
  | some true => ∀ a, G' a = none → ds e a (sEnds D) s' G'
  | some false => D.ex e s' G'
  | none => False } s G
/-- what a suite's derivation may lean on -/
structure HeldAt (K : PySem.W.Frag) (e : Exn) (cls : Value) (d : Option Addr) (oe : Obj) : Prop where
  cl : cls = .ref (He.ga K e.cls)
  nd : e.fs = none → d = none
  z : Zc cls d oe
  f : ∃ vs, oe.data = .fields vs
def tsHeld (K : PySem.W.Frag) (ds : Exn → Addr → DTS) (a : Addr) (cls : Value) (d : Option Addr) : TS := fun E σ H => ∃ e : Exn, cls = .ref (He.ga K e.cls) ∧ (e.fs = none → d = none) ∧ tsOf K W0 (ds e a) E σ H
section
variable {X : Cx} {W : WX} {x : Str} {c : Value} {body suite : List Stmt} {b₀ : Stmt} {np pos pos' : Pos} {m : Str → Option Bool} {db : DTS} {ds : Exn → Addr → DTS}
theorem pss_held (hsu : ∀ (a : Addr) (oe : Obj) (e : Exn) (cls : Value) (d : Option Addr) (pn : List (Addr × Obj)), HeldAt X.K e cls d oe → DSs (X.suite a ((a, oe) :: pn)) W0 suite (ds e a)) (a : Addr) (oe : Obj) (cls : Value) (d : Option Addr) (pn : List (Addr × Obj))
    (hz : Zc cls d oe) (hf : ∃ vs, oe.data = .fields vs) : PSs (X.suite a ((a, oe) :: pn)) suite (tsHeld X.K ds a cls d) := by
  constructor
  intro pins s σ H D I q
  obtain ⟨e, e1, e2, q⟩ := q
  exact (hsu a oe e cls d pn ⟨e1, e2, hz, hf⟩).pss.run pins s σ H D I q
theorem held_of {K : PySem.W.Frag} {F : Fp} {σ : St} {s : DSt} {H : Hp} {G : Gp} {D : Ends} {Dd : DEnds} {e : Exn} {a : Addr} {cls : Value} {dd : Option Addr} (rs : RS K F H G) (st : RepSt K F σ s) (rx : RepX K F cls dd e) (q : ds e a (sEnds Dd) s G) (r : EndsR K F W Dd D) :
    tsHeld K ds a cls dd D σ H := by
  refine ⟨e, rx.1, fun z => ?_, F, s, G, sEnds Dd, rs, st, q, ⟨r.nx, r.rt, fun _ _ _ _ _ _ _ _ _ _ _ _ z => z, r.bk, r.ct⟩⟩
  have h := rx.2
  rw [z] at h
  exact h
theorem ds_try (hs : X.stack = X.env :: X.outer) (hf : X.env.frame = some X.env.locals) (hc : Names X x c) (tk : Takes X W) (hm : Catch X.K c m)
    (hb : ∀ (W' : WX) (pn : List (Addr × Obj)) (xe : Value → Shared → Prop), Takes (X.tr pn xe) W' → PassesOwn (model X.prog X.w) X.A X.env xe → DSs (X.tr pn xe) W' body db)
    (hsu : ∀ (a : Addr) (oe : Obj) (e : Exn) (cls : Value) (d : Option Addr) (pn : List (Addr × Obj)), HeldAt X.K e cls d oe → DSs (X.suite a ((a, oe) :: pn)) W0 (b₀ :: suite) (ds e a)) :
    DS X W (.Try body [.ExceptHandler (some (.Name x np)) none (b₀ :: suite) pos'] [] [] pos) (dTry m db ds) := by
  refine ⟨⟨_, ps_try_only (tb := fun W' => tsOf X.K W' db) (ts := tsHeld X.K ds) (Wout := W) hs hf hc tk (fun W' pn xe t po => (hb W' pn xe t po).pss) (pss_held hsu), fun F σ H s G Dd E rs st q r => ?_⟩⟩
  refine ⟨F, s, G, _, rs, st, q, r.nx, r.rt, ?_, r.bk, r.ct⟩
  intro F' H' G' cls dd e σ' s' hF rs' rx st' q'
  dsimp only at q'
  cases em : m e.cls with
  | none =>
    rw [em] at q'
    exact q'.elim
  | some b =>
    rw [em] at q'
    have ex := hm.ok _ _ em
    rw [← rx.1] at ex
    refine ⟨b, ex, fun hb1 a ha => ?_, fun hb0 => ?_⟩
    · subst hb1
      exact held_of rs' st' rx (q' a (rs'.free ha).2) (r.mono hF)
    · subst hb0
      exact r.ex F' H' G' cls dd e σ' s' hF rs' rx st' q'
/-- try .. except X as n (n in slot i) -/
abbrev dTryAs (i : Nat) (m : Str → Option Bool) (db : DTS) (ds : Exn → Addr → DTS) : DTS := fun D s G => db { D with ex := fun e s' G' => match m e.cls with
  | some true => ∀ a, G' a = none → ds e a { nx := fun s G => D.nx (s.set i none) G, rt := D.rt, ex := fun _ _ _ => False, bk := fun s G => D.bk (s.set i none) G, ct := fun s G => D.ct (s.set i none) G } (s'.set i (some (.ref a))) G'
  | some false => D.ex e s' G'
  | none => False } s G
theorem ds_tryAs (i : Nat) {n : Str} (hs : X.stack = X.env :: X.outer) (hf : X.env.frame = some X.env.locals) (hN : X.N.Nodup) (hi : X.N[i]? = some n) (hln : X.env.kindOf n = some .local) (hc : Names X x c) (tk : Takes X W) (hm : Catch X.K c m)
    (hb : ∀ (W' : WX) (pn : List (Addr × Obj)) (xe : Value → Shared → Prop), Takes (X.tr pn xe) W' → PassesOwn (model X.prog X.w) X.A X.env xe → DSs (X.tr pn xe) W' body db)
    (hsu : ∀ (a : Addr) (oe : Obj) (e : Exn) (cls : Value) (d : Option Addr) (pn : List (Addr × Obj)), HeldAt X.K e cls d oe → DSs (X.suite a ((a, oe) :: pn)) W0 (b₀ :: suite) (ds e a)) :
    DS X W (.Try body [.ExceptHandler (some (.Name x np)) (some n) (b₀ :: suite) pos'] [] [] pos) (dTryAs i m db ds) := by
  refine ⟨⟨_, ps_try_as (i := i) (tb := fun W' => tsOf X.K W' db) (ts := tsHeld X.K ds) (Wout := W) hs hf hN hi hln hc tk (fun W' pn xe t po => (hb W' pn xe t po).pss) (pss_held hsu), fun F σ H s G Dd E rs st q r => ?_⟩⟩
  refine ⟨F, s, G, _, rs, st, q, r.nx, r.rt, ?_, r.bk, r.ct⟩
  intro F' H' G' cls dd e σ' s' hF rs' rx st' q'
  dsimp only at q'
  cases em : m e.cls with
  | none =>
    rw [em] at q'
    exact q'.elim
  | some b =>
    rw [em] at q'
    have ex := hm.ok _ _ em
    rw [← rx.1] at ex
    refine ⟨b, ex, fun hb1 a ha => ?_, fun hb0 => ?_⟩
    · subst hb1
      have r' := r.mono hF
      refine ⟨e, rx.1, fun z => ?_, F', _, G', _, rs', st'.set i (.ref a), q' a (rs'.free ha).2, ⟨?_, r'.rt, fun _ _ _ _ _ _ _ _ _ _ _ _ z => z, ?_, ?_⟩⟩
      · have h := rx.2
        rw [z] at h
        exact h
      · exact fun F2 H2 G2 σ2 s2 h2 rs2 st2 q2 => r'.nx F2 H2 G2 _ _ h2 rs2 (st2.clear i none) q2
      · exact fun F2 H2 G2 σ2 s2 h2 rs2 st2 q2 => r'.bk F2 H2 G2 _ _ h2 rs2 (st2.clear i none) q2
      · exact fun F2 H2 G2 σ2 s2 h2 rs2 st2 q2 => r'.ct F2 H2 G2 _ _ h2 rs2 (st2.clear i none) q2
    · subst hb0
      exact r.ex F' H' G' cls dd e σ' s' hF rs' rx st' q'
end
/-! several clauses, without names -/
def pick (ex : Exn → DSt → Gp → Prop) (go : (Exn → Addr → DTS) → Exn → DSt → Gp → Prop) : List ((Str → Option Bool) × (Exn → Addr → DTS)) → Exn → DSt → Gp → Prop
  | [], e, s, G => ex e s G
  | (m, ds) :: r, e, s, G => match m e.cls with
    | some true => go ds e s G
    | some false => pick ex go r e s G
    | none => False
abbrev dTryM (l : List ((Str → Option Bool) × (Exn → Addr → DTS))) (db : DTS) : DTS := fun D s G => db { D with ex := pick D.ex (fun ds e s' G' => ∀ a, G' a = none → ds e a (sEnds D) s' G') l } s G
inductive HdsD (X : Cx) : List ExceptHandler → List ((Str → Option Bool) × (Exn → Addr → DTS)) → Prop
  | nil : HdsD X [] []
  | cons {x : Str} {c : Value} {m : Str → Option Bool} {ds : Exn → Addr → DTS} {b₀ : Stmt} {suite : List Stmt} {np pos' : Pos} {hds : List ExceptHandler} {l : List ((Str → Option Bool) × (Exn → Addr → DTS))} (hc : Names X x c) (hm : Catch X.K c m)
      (hsu : ∀ (a : Addr) (oe : Obj) (e : Exn) (cls : Value) (d : Option Addr) (pn : List (Addr × Obj)), HeldAt X.K e cls d oe → DSs (X.suite a ((a, oe) :: pn)) W0 (b₀ :: suite) (ds e a)) (r : HdsD X hds l) :
      HdsD X (.ExceptHandler (some (.Name x np)) none (b₀ :: suite) pos' :: hds) ((m, ds) :: l)
theorem HdsD.ok {X : Cx} {hds : List ExceptHandler} {l : List ((Str → Option Bool) × (Exn → Addr → DTS))} (h : HdsD X hds l) : ∃ lc, HdsOk X hds lc ∧ ∀ (W : WX) (D : Ends) (Dd : DEnds) (F : Fp) (H : Hp) (G : Gp) (cls : Value) (dd : Option Addr) (e : Exn) (σ : St) (s : DSt),
    RS X.K F H G → RepX X.K F cls dd e → RepSt X.K F σ s → EndsR X.K F W Dd D → pick Dd.ex (fun ds e s' G' => ∀ a, G' a = none → ds e a (sEnds Dd) s' G') l e s G → wMany X.K W D lc cls dd σ H := by
  induction h with
  | nil => exact ⟨[], .nil, fun W D Dd F H G cls dd e σ s rs rx st r q => r.ex F H G cls dd e σ s (FSame.refl F) rs rx st q⟩
  | @cons x c m ds b₀ suite np pos' hds l hc hm hsu r ih =>
    obtain ⟨lc, h1, h2⟩ := ih
    refine ⟨(c, tsHeld X.K ds) :: lc, .cons hc (pss_held hsu) h1, fun W D Dd F H G cls dd e σ s rs rx st r q => ?_⟩
    unfold pick at q
    cases em : m e.cls with
    | none =>
      rw [em] at q
      exact q.elim
    | some b =>
      rw [em] at q
      have ex := hm.ok _ _ em
      rw [← rx.1] at ex
      refine ⟨b, ex, fun hb1 a ha => ?_, fun hb0 => ?_⟩
      · subst hb1
        exact held_of rs st rx (q a (rs.free ha).2) r
      · subst hb0
        exact h2 W D Dd F H G cls dd e σ s rs rx st r q
theorem ds_tryM {X : Cx} {W : WX} {body : List Stmt} {h₀ : ExceptHandler} {hds : List ExceptHandler} {l : List ((Str → Option Bool) × (Exn → Addr → DTS))} {pos : Pos} {db : DTS} (hs : X.stack = X.env :: X.outer) (hf : X.env.frame = some X.env.locals) (tk : Takes X W)
    (hb : ∀ (W' : WX) (pn : List (Addr × Obj)) (xe : Value → Shared → Prop), Takes (X.tr pn xe) W' → PassesOwn (model X.prog X.w) X.A X.env xe → DSs (X.tr pn xe) W' body db) (hh : HdsD X (h₀ :: hds) l) :
    DS X W (.Try body (h₀ :: hds) [] [] pos) (dTryM l db) := by
  obtain ⟨lc, h1, h2⟩ := hh.ok
  refine ⟨⟨_, ps_try_many (tb := fun W' => tsOf X.K W' db) (Wout := W) hs hf tk (fun W' pn xe t po => (hb W' pn xe t po).pss) h1, fun F σ H s G Dd E rs st q r => ?_⟩⟩
  refine ⟨F, s, G, _, rs, st, q, r.nx, r.rt, ?_, r.bk, r.ct⟩
  intro F' H' G' cls dd e σ' s' hF rs' rx st' q'
  exact h2 W E Dd F' H' G' cls dd e σ' s' rs' rx st' (r.mono hF) q'
/-! isinstance(e, c) in a suite -/
structure KitE (K : PySem.W.Frag) (m : Str → D → Option Bool) : Prop where
  ok : ∀ y c b, m y c = some b → ExcC K (He.ga K y) ∧ ∃ cv, (∀ F v, Rep K F v c → ∀ u, RelV v u → u = cv) ∧ PySem.W.kitOne K (.ref (He.ga K y)) cv = some b
def gIsE (m : Str → D → Option Bool) (e : Exn) (a : Addr) : D → D → Gp → DK → Prop := fun x c G Q => x = .ref a ∧ e.fs = none ∧ match m e.cls c with
  | some b => Q (.bl b) G
  | none => False
theorem dc_isE {X : Cx} {m : Str → D → Option Bool} {e : Exn} {cls : Value} {d : Option Addr} {a : Addr} {oe : Obj} {pn : List (Addr × Obj)} (hm : KitE X.K m) (h : HeldAt X.K e cls d oe) : DCall (X.suite a ((a, oe) :: pn)) (.builtin "isinstance") (g2 (gIsE m e a)) := by
  obtain ⟨rfl, nd, z, f⟩ := h
  by_cases hfs : e.fs = none
  · have hd := nd hfs
    subst hd
    by_cases hy : ∃ c b, m e.cls c = some b
    · obtain ⟨c0, b0, e0⟩ := hy
      refine dcall2 (call_isE (pn := pn) (hm.ok _ _ _ e0).1 z f) fun F H G v u x y Qd Q rs rv ru q c => ?_
      obtain ⟨rfl, _, q⟩ := q
      cases rv
      split at q
      · rename_i b eb
        obtain ⟨_, cv, h1, h2⟩ := hm.ok _ _ _ eb
        exact ⟨u, cv, b, rfl, h1 F u ru, h2, c F H G _ _ (FSame.refl F) rs (.bl b) q⟩
      · exact q.elim
    · refine ⟨⟨fun _ _ _ => False, fun _ _ _ _ _ _ _ _ _ h => h.elim, fun F H G vs xs Qd Q rs rv q c => ?_⟩⟩
      unfold g2 at q
      split at q
      · obtain ⟨_, _, q⟩ := q
        split at q
        · rename_i b eb
          exact hy ⟨_, _, eb⟩
        · exact q
      · exact q
  · refine ⟨⟨fun _ _ _ => False, fun _ _ _ _ _ _ _ _ _ h => h.elim, fun F H G vs xs Qd Q rs rv q c => ?_⟩⟩
    unfold g2 at q
    split at q
    · exact hfs q.2.1
    · exact q
/-! the tables of classes -/
def lk {α β : Type} [DecidableEq α] (a : α) : List (α × β) → Option β
  | [] => none
  | (c, d) :: r => if a = c then some d else lk a r
theorem lookup_mem {α β : Type} [DecidableEq α] {a : α} {b : β} : ∀ {l : List (α × β)}, lk a l = some b → (a, b) ∈ l
  | [], h => nomatch h
  | (c, d) :: r, h => by
    unfold lk at h
    split at h
    · rename_i e
      cases h
      rw [e]
      exact List.mem_cons_self
    · exact List.mem_cons_of_mem _ (lookup_mem h)
abbrev catT (l : List (Str × Bool)) : Str → Option Bool := fun y => lk y l
theorem catch_of {K : PySem.W.Frag} {x : Str} {l : List (Str × Bool)} (h : (Fc.catch_ x l).ok K = true) : Catch K (.ref (He.ga K x)) (catT l) := ⟨fun y b e => by
  have z := List.all_eq_true.mp (show (l.all fun p => decide (PySem.W.exmOne K (.ref (He.ga K p.1)) (.ref (He.ga K x)) = some p.2)) = true from h) _ (lookup_mem e)
  exact of_decide_eq_true z⟩
def kkey : D → Option (Str ⊕ String)
  | .glo y => some (.inl y)
  | .ty n => some (.inr n)
  | _ => none
abbrev kitT (l : List ((Str × (Str ⊕ String)) × Bool)) : Str → D → Option Bool := fun y c => match kkey c with
  | some k => lk (y, k) l
  | none => none
theorem excC_of {K : PySem.W.Frag} {D : Addr} (h : excB K D = true) : ExcC K D := by
  unfold excB at h
  obtain ⟨h1, h⟩ := He.ba h
  obtain ⟨h2, h⟩ := He.ba h
  obtain ⟨h3, h⟩ := He.ba h
  obtain ⟨h4, h⟩ := He.ba h
  obtain ⟨h5, h⟩ := He.ba h
  obtain ⟨h6, h⟩ := He.ba h
  obtain ⟨h7, h8⟩ := He.ba h
  exact ⟨of_decide_eq_true h1, of_decide_eq_true h2, of_decide_eq_true h3, h4, of_decide_eq_true h5, of_decide_eq_true h6, of_decide_eq_true h7, of_decide_eq_true h8⟩
theorem kits_of {K : PySem.W.Frag} {l : List ((Str × (Str ⊕ String)) × Bool)} (h : (Fc.kits l).ok K = true) : KitE K (kitT l) := ⟨fun y c b e => by
  cases ek : kkey c with
  | none =>
    have e' : (match kkey c with
      | some k => lk (y, k) l
      | none => none) = some b := e
    rw [ek] at e'
    cases e'
  | some k =>
    have e' : (match kkey c with
      | some k => lk (y, k) l
      | none => none) = some b := e
    rw [ek] at e'
    have z := List.all_eq_true.mp (show (l.all fun p => excB K (He.ga K p.1.1) && decide (PySem.W.kitOne K (.ref (He.ga K p.1.1)) (match p.1.2 with
      | .inl y => .ref (He.ga K y)
      | .inr n => .type n) = some p.2)) = true from h) _ (lookup_mem e')
    obtain ⟨z1, z2⟩ := He.ba z
    have z3 := of_decide_eq_true z2
    refine ⟨excC_of z1, ?_⟩
    cases c with
    | glo x =>
      cases ek
      exact ⟨_, fun F v rv u ru => by cases rv; exact ru, z3⟩
    | ty n =>
      cases ek
      exact ⟨_, fun F v rv u ru => by cases rv; exact ru, z3⟩
    | _ => cases ek⟩
end Dl
set_option Elab.async false
set_option linter.all false
set_option maxRecDepth 100000
set_option maxHeartbeats 4000000
/-! The data layer: calls by keywords. -/
namespace Dl
open PySem PySem.Spec PyProof.Rows L2
set_option autoImplicit false
section
variable {X : Cx} {CX : CXT} {k n : Nat} {f : Addr} {fd : FuncData} {ps ks : List Str} {sp : Sp} {E : St → XK} {x : Str} {p pos : Pos} {e : Expr} {es : List Expr} {kws : List Keyword} {t tk : TA}
abbrev KB (K : PySem.W.Frag) (fd : FuncData) (ps : List Str) (n : Nat) (ks : List Str) : Prop := KBn K fd ps n ks (fun us ws => us ++ ws) (fun vs zs => vs ++ zs)
/-- f(e, .., k = v, ..): what is raised is wished for at the caller's slots -/
theorem pe_callKS (F : FnOk X.prog X.w X.K X.mg X.base CX k f fd ps sp) (hr : Room k X.A) (hg : Gl X x) (hm : X.mg x = some (.ref f)) (hk : PySem.W.keepIn X.K (.ref f) = true) (hb : KB X.K fd ps n ks) (hx : ∀ σ, PassesAt CX X σ (E σ)) (ha : PA X (e :: es) t) (hkw : PK X kws tk)
    (hall : (backToKw pos (keywordEach kws X.env)).all (·.1.isSome) = true) (hks : (backToKw pos (keywordEach kws X.env)).filterMap (·.1) = ks) (hdb : (x == ("__debug__" : Str)) = false) (he : starEach (e :: es) X.env = (false, eval e X.env) :: starEach es X.env)
    (hpl : ((backTo pos (starEach (e :: es) X.env)).any (·.1) || (backToKw pos (keywordEach kws X.env)).any (·.1.isNone)) = false) :
    PE X (.Call (.Name x p) (e :: es) kws pos) (fun σ H Q => t σ H fun vs H1 => tk σ H1 fun zs H2 => vs.length = n ∧ zs.length = ks.length ∧ sp (vs ++ zs) H2 Q (E σ)) := by
  constructor
  intro pins s σ H Q I h
  refine wpAny_Call_Name_kw (ld_glob I hg hm (PySem.W.callWith_KW (h₀ := X.base) I.ok.mod.kin hk hall (thn (ha.run pos pins s σ H _ I h) fun us s1 z1 => ?_) hpl he) hdb)
  obtain ⟨vs, H1, I1, r, q⟩ := z1
  refine thn (hkw.run pos pins s1 σ H1 _ I1 q) fun ws s2 z2 => ?_
  obtain ⟨zs, H2, I2, rz, l1, l2, q2⟩ := z2
  refine ⟨I2.kIn, ?_⟩
  rw [hks]
  have bt := hb.to s2 us ws I2.kIn (r.length.symm.trans l1) (rz.length.symm.trans l2)
  refine wpAny_call (codeAny_mono (F.run X.A X.stack s2 H2 ⟨us, ks.zip ws⟩ (us ++ ws) (vs ++ zs) Q (E σ) hr I2.env0 bt (hb.rel r rz) q2) fun r s' hq => ?_)
  cases r with
  | error u => exact hx σ pins H2 s2 u s' I2 hq
  | ok fl =>
    cases fl with
    | ret u => exact I2.after hq
    | _ => exact hq.elim
end
section
variable {K : PySem.W.Frag} {x qual : Str} {params : Arguments} {body : List Stmt} {scope : Scope} {kws : List (Str × V)} {f : Addr} {fd : FuncData} {ps ks : List Str} {n : Nat}
theorem kb_of (F : FunD K x qual params body scope [] kws f fd)
    (h : ∀ (kV doc pm : Value) (an : Option Addr) (cdv ct : Value) (us ws : List Value), us.length = n → ws.length = ks.length → bindArgs (PySem.W.fnOf x qual params body scope .none kV doc pm an cdv ct) ⟨us, ks.zip ws⟩ = pure (ps.zip (us ++ ws))) : KB K fd ps n ks := by
  obtain ⟨oc, od, dV, kV, doc, pm, an, cdv, ct, osl, rfl, lk, hcd, hD, hK⟩ := F.ex
  rcases hD with ⟨_, rfl⟩ | ⟨e, _⟩
  · exact ⟨fun s us ws X l1 l2 => .of_eq (h kV doc pm an cdv ct us ws l1 l2), fun r1 r2 => r1.append r2⟩
  · exact absurd rfl e
end
section
variable (P : Program) (w : World) (K : PySem.W.Frag) (mg : Str → Option Value) (base : Heap)
/-- what a call by keywords wants of its callee: n values, then the keywords ks; left out: the defaults dvs -/
structure CalleeK (x : Str) (k : Nat) (ps : List Str) (sp : DSp) (n : Nat) (ks : List Str) (dvs : List V) : Prop where
  ex : ∃ fd, DFn P w K mg base k (He.ga K x) fd ps sp ∧ KB K fd ps n ks ∧ (dvs ≠ [] → ∃ ds, Vals dvs ds ∧ Binds K fd ps ds)
  g : mg x = some (.ref (He.ga K x))
  kp : PySem.W.keepIn K (.ref (He.ga K x)) = true
end
structure DKw (X : Cx) (W : WX) (kws : List Keyword) (d : DTA) : Prop where
  ex : ∃ t, PK X kws t ∧ AA X.K W t d
abbrev dCallK (sp : DSp) (n m : Nat) (dA dK : DTA) : DTE := fun s G Q E => dA s G (fun xs G1 => dK s G1 (fun ys G2 => xs.length = n ∧ ys.length = m ∧ sp (xs ++ ys) G2 Q E) E) E
abbrev dCallD (sp : DSp) (dds : List D) (dA : DTA) : DTE := fun s G Q E => dA s G (fun xs G1 => sp (xs ++ dds) G1 Q E) E
section
variable {X : Cx} {W : WX} {x : Str} {k n : Nat} {ps ks : List Str} {sp : DSp} {dvs : List V} {dds : List D} {p pos kpos : Pos} {e : Expr} {es : List Expr} {kws : List Keyword} {de : DTE} {dA dK : DTA} {nm : Option Str}
theorem dk_nil : DKw X W [] dNil := ⟨⟨_, pk_nil, fun F σ H s G Qd Ed Q rs st q c cx => c F H G [] [] (FSame.refl F) rs .nil q⟩⟩
theorem dk_cons (h : DE X W e de) (h2 : DKw X W kws dA) : DKw X W (⟨nm, e, kpos⟩ :: kws) (dCons de dA) := by
  obtain ⟨t, p, q⟩ := h
  obtain ⟨u, p2, q2⟩ := h2
  exact ⟨⟨_, pk_cons p p2, fun F σ H s G Qd Ed Q rs st hq c cx => q F σ H s G _ Ed _ rs st hq (fun F1 H1 G1 v x e1 rs1 rv q1 =>
    q2 F1 σ H1 s G1 _ Ed _ rs1 (st.mono e1) q1 (fun F2 H2 G2 vs xs e2 rs2 rvs q2 => c F2 H2 G2 _ _ (e1.trans e2) rs2 (.cons (rv.mono e2) rvs) q2) (cx.mono e1)) cx⟩⟩
theorem de_callK (c : CalleeK X.prog X.w X.K X.mg X.base x k ps sp n ks dvs) (hr : Room k X.A) (tk : Takes X W) (ha : DA X W (e :: es) dA) (hkw : DKw X W kws dK)
    (hg : Gl X x := by rfl) (hall : (backToKw pos (keywordEach kws X.env)).all (·.1.isSome) = true := by rfl) (hks : (backToKw pos (keywordEach kws X.env)).filterMap (·.1) = ks := by rfl) (hdb : (x == ("__debug__" : Str)) = false := by decide)
    (he : starEach (e :: es) X.env = (false, eval e X.env) :: starEach es X.env := by rfl) (hpl : ((backTo pos (starEach (e :: es) X.env)).any (·.1) || (backToKw pos (keywordEach kws X.env)).any (·.1.isNone)) = false := by rfl) :
    DE X W (.Call (.Name x p) (e :: es) kws pos) (dCallK sp n ks.length dA dK) := by
  obtain ⟨⟨fd, F, hb, _⟩, g, kp⟩ := c
  obtain ⟨t, p1, q1⟩ := ha
  obtain ⟨u, p2, q2⟩ := hkw
  refine ⟨⟨_, pe_callKS F hr hg g kp hb (fun σ => passAt tk σ) p1 p2 hall hks hdb he hpl, fun F σ H s G Qd Ed Q rs st hq c cx => q1 F σ H s G _ Ed _ rs st hq (fun F1 H1 G1 vs xs e1 rs1 rv z1 => ?_) cx⟩⟩
  refine q2 F1 σ H1 s G1 _ Ed _ rs1 (st.mono e1) z1 (fun F2 H2 G2 zs ys e2 rs2 rz z2 => ?_) (cx.mono e1)
  obtain ⟨l1, l2, z2⟩ := z2
  refine ⟨by rw [rv.length]; exact l1, by rw [rz.length]; exact l2, F2, G2, xs ++ ys, Qd, Ed, rs2, (rv.mono e2).append rz, z2, c.mono (e1.trans e2), ?_⟩
  exact fun F3 H3 G3 cls dd x e3 rs3 rx q3 => cx F3 H3 G3 cls dd x ((e1.trans e2).trans e3) rs3 rx q3
theorem de_callD (c : CalleeK X.prog X.w X.K X.mg X.base x k ps sp n ks dvs) (hr : Room k X.A) (tk : Takes X W) (ha : DA X W (e :: es) dA) (hd : dvs ≠ []) (hds : ∀ F, RepL X.K F dvs dds)
    (hg : Gl X x := by rfl) (hdb : (x == ("__debug__" : Str)) = false := by decide) (he : starEach (e :: es) X.env = (false, eval e X.env) :: starEach es X.env := by rfl) (hpl : (backTo pos (starEach es X.env)).any (·.1) = false := by rfl) :
    DE X W (.Call (.Name x p) (e :: es) [] pos) (dCallD sp dds dA) := by
  obtain ⟨⟨fd, F, _, hb⟩, g, kp⟩ := c
  obtain ⟨us, hv, hb⟩ := hb hd
  obtain ⟨t, p1, q1⟩ := ha
  refine ⟨⟨_, pe_callSD F hr hg g kp hb hv (fun σ => passAt tk σ) p1 hdb he hpl, fun F σ H s G Qd Ed Q rs st hq c cx => q1 F σ H s G _ Ed _ rs st hq (fun F1 H1 G1 vs xs e1 rs1 rv z1 => ?_) cx⟩⟩
  exact ⟨F1, G1, xs ++ dds, Qd, Ed, rs1, rv.append (hds F1), z1, c.mono e1, fun F3 H3 G3 cls dd x e3 rs3 rx q3 => cx F3 H3 G3 cls dd x (e1.trans e3) rs3 rx q3⟩
end
/-! list(range(..)) -/
def rgD (a b : Int) : List D := (List.range (b - a).toNat).map fun i => D.int (a + (i : Nat))
theorem rgD_len (a b : Int) : (rgD a b).length = (b - a).toNat := by
  unfold rgD
  rw [List.length_map, List.length_range]
theorem rg_rep {K : PySem.W.Frag} {F : Fp} (a b : Int) : RepL K F (rgV a b) (rgD a b) := by
  unfold rgV rgD
  generalize List.range (b - a).toNat = l
  induction l with
  | nil => exact .nil
  | cons i r ih => exact .cons (.int _) ih
abbrev dListRg1 (d : DTE) : DTE := fun s G Q E => d s G (fun x G1 => match x with
  | .int n => RgOk 0 n ∧ Q (.lst (rgD 0 n)) G1
  | _ => False) E
abbrev dListRg1M (d : DTE) : DTE := fun s G Q E => d s G (fun x G1 => match x with
  | .int n => RgOk 0 n ∧ ∀ p, G1 p = none → Q (.ref p) (gupd G1 p (.lst (rgD 0 n)))
  | _ => False) E
abbrev dListRg2 (d d' : DTE) : DTE := fun s G Q E => d s G (fun x G1 => d' s G1 (fun y G2 => match x, y with
  | .int a, .int b => RgOk a b ∧ Q (.lst (rgD a b)) G2
  | _, _ => False) E) E
section
variable {X : Cx} {W : WX} {a b : Expr} {da db : DTE} {p p1 p2 pos pos' : Pos}
theorem de_listRg1 (hc : X.calm = true) (hm : X.mg "list" = none) (hr : X.mg "range" = none) (h : DE X W a da) (hg : Gl X "list" := by rfl) (hg2 : Gl X "range" := by rfl) (na : starEach [a] X.env = (false, eval a X.env) :: starEach [] X.env := by rfl)
    (na2 : starEach [.Call (.Name "range" p1) [a] [] pos'] X.env = (false, eval (.Call (.Name "range" p1) [a] [] pos') X.env) :: starEach [] X.env := by rfl) : DE X W (.Call (.Name "list" p) [.Call (.Name "range" p1) [a] [] pos'] [] pos) (dListRg1 da) := by
  obtain ⟨t, pa, q⟩ := h
  refine ⟨⟨_, pe_listRg hc hg hm (prg_1 hg2 hr pa na) na2, fun F σ H s G Qd Ed Q rs st hq c cx => q F σ H s G _ Ed _ rs st hq (fun F1 H1 G1 v x e1 rs1 rv q1 => ?_) cx⟩⟩
  cases rv with
  | int n => exact ⟨n, rfl, q1.1, (c.mono e1).lst rs1 (rg_rep 0 n) q1.2⟩
  | _ => exact False.elim q1
theorem de_listRg1M (hc : X.calm = true) (hm : X.mg "list" = none) (hr : X.mg "range" = none) (h : DE X W a da) (hg : Gl X "list" := by rfl) (hg2 : Gl X "range" := by rfl) (na : starEach [a] X.env = (false, eval a X.env) :: starEach [] X.env := by rfl)
    (na2 : starEach [.Call (.Name "range" p1) [a] [] pos'] X.env = (false, eval (.Call (.Name "range" p1) [a] [] pos') X.env) :: starEach [] X.env := by rfl) : DE X W (.Call (.Name "list" p) [.Call (.Name "range" p1) [a] [] pos'] [] pos) (dListRg1M da) := by
  obtain ⟨t, pa, q⟩ := h
  refine ⟨⟨_, pe_listRg hc hg hm (prg_1 hg2 hr pa na) na2, fun F σ H s G Qd Ed Q rs st hq c cx => q F σ H s G _ Ed _ rs st hq (fun F1 H1 G1 v x e1 rs1 rv q1 => ?_) cx⟩⟩
  cases rv with
  | int n => exact ⟨n, rfl, q1.1, (c.mono e1).lstM rs1 (rg_rep 0 n) q1.2⟩
  | _ => exact False.elim q1
theorem de_listRg2 (hc : X.calm = true) (hm : X.mg "list" = none) (hr : X.mg "range" = none) (h : DE X W a da) (h2 : DE X W b db) (hg : Gl X "list" := by rfl) (hg2 : Gl X "range" := by rfl) (na : starEach [a, b] X.env = (false, eval a X.env) :: starEach [b] X.env := by rfl) (nb : starEach [b] X.env = (false, eval b X.env) :: starEach [] X.env := by rfl)
    (hp : (backTo pos' (starEach [b] X.env)).any (·.1) = false := by rfl)
    (na2 : starEach [.Call (.Name "range" p1) [a, b] [] pos'] X.env = (false, eval (.Call (.Name "range" p1) [a, b] [] pos') X.env) :: starEach [] X.env := by rfl) : DE X W (.Call (.Name "list" p) [.Call (.Name "range" p1) [a, b] [] pos'] [] pos) (dListRg2 da db) := by
  obtain ⟨t, pa, q⟩ := h
  obtain ⟨u, pb, q2⟩ := h2
  refine ⟨⟨_, pe_listRg hc hg hm (prg_2 hg2 hr pa pb na nb hp) na2, fun F σ H s G Qd Ed Q rs st hq c cx => q F σ H s G _ Ed _ rs st hq (fun F1 H1 G1 v x e1 rs1 rv q1 => ?_) cx⟩⟩
  refine q2 F1 σ H1 s G1 _ Ed _ rs1 (st.mono e1) q1 (fun F2 H2 G2 u y e2 rs2 ru q3 => ?_) (cx.mono e1)
  cases rv with
  | int n =>
    cases ru with
    | int m => exact ⟨n, m, rfl, rfl, q3.1, (c.mono (e1.trans e2)).lst rs2 (rg_rep n m) q3.2⟩
    | _ => exact False.elim q3
  | _ => exact False.elim q3
end
end Dl
set_option Elab.async false
set_option linter.all false
set_option maxRecDepth 100000
set_option maxHeartbeats 4000000
/-! The data layer: several clauses with names. -/
namespace Dl
open PySem PySem.Spec PyProof.Rows L2
set_option autoImplicit false
/-- what the clauses, each with its slot, wish of the body's exception -/
def wNam (K : PySem.W.Frag) (Wo : WX) (D : Ends) : List (Nat × Value × (Addr → Value → Option Addr → TS)) → WX
  | [] => Wo
  | (i, c, ts) :: r => wAs K c i ts (wNam K Wo D r) D
inductive HdsN (X : Cx) : List ExceptHandler → List (Nat × Value × (Addr → Value → Option Addr → TS)) → Prop
  | nil : HdsN X [] []
  | cons {i : Nat} {n x : Str} {c : Value} {ts : Addr → Value → Option Addr → TS} {b1 : Stmt} {bs : List Stmt} {p1 p2 : Pos} {hds : List ExceptHandler} {l : List (Nat × Value × (Addr → Value → Option Addr → TS))} (hi : X.N[i]? = some n) (hl : X.env.kindOf n = some .local) (hc : Names X x c)
      (sui : ∀ (b : Addr) (ob : Obj) (k : Value) (dd : Option Addr) (pq : List (Addr × Obj)), Zc k dd ob → (∃ vs, ob.data = .fields vs) → PSs (X.suite b ((b, ob) :: pq)) (b1 :: bs) (ts b k dd)) (r : HdsN X hds l) :
      HdsN X (.ExceptHandler (some (.Name x p1)) (some n) (b1 :: bs) p2 :: hds) ((i, c, ts) :: l)
section
variable {X : Cx} {body : List Stmt} {hd0 : ExceptHandler} {hds : List ExceptHandler} {l : List (Nat × Value × (Addr → Value → Option Addr → TS))} {pos : Pos} {tb : WX → TS} {Wo : WX}
theorem not_frame {B h : Heap} {es : List Env} {b : Addr} {o : Obj} {vs : Array Value} (ff : h.FunFrames B es) (e : h.get? b = some o) (dd : o.data = .fields vs) : b ∉ frs es := fun hm => by
  obtain ⟨_, o2, e2, hn⟩ := ff.mem hm
  cases e.symm.trans e2
  exact hn _ dd
theorem ps_try_nam (hs : X.stack = X.env :: X.outer) (hf : X.env.frame = some X.env.locals) (hN : X.N.Nodup) (tk : Takes X Wo)
    (hb : ∀ (U : WX) (pq : List (Addr × Obj)) (xe : Value → Shared → Prop), Takes (X.tr pq xe) U → PassesOwn (model X.prog X.w) X.A X.env xe → PSs (X.tr pq xe) body (tb U)) (hh : HdsN X (hd0 :: hds) l) :
    PS X (.Try body (hd0 :: hds) [] [] pos) (fun D σ H => tb (wNam X.K Wo D l) D σ H) := by
  refine ⟨fun pins s σ H D I h => ?_⟩
  have xok := I.ok
  have xfr : X.A.frames = some (X.env :: X.outer) := xok.frames.trans (by rw [hs])
  refine wpAny_Try_except ?_
  have base := (hb (wNam X.K Wo D l) (X.pn ++ pins) (fun ev t1 => wpAny (model X.prog X.w) X.A (noteFrame ev X.env) (fun _ t2 => wpAny (model X.prog X.w) X.A (setFlight ev none)
      (fun _ t3 => wpAny (model X.prog X.w) X.A (handleBy ev X.env (hd0 :: hds)) (SP X pins D) X.xe t3) X.xe t2) X.xe t1) (fun ev t xx => ?_) PassesOwn.looking).run [] s σ H D (I.toTry _) h
  · refine wpAny_mono base (fun fl t r => ?_) (fun _ _ he => he)
    cases fl with
    | next =>
      obtain ⟨σ2, H2, J, q⟩ := r
      exact wpAny_execs_nil ⟨σ2, H2, J.ofTry xok, q⟩
    | ret v =>
      obtain ⟨y, σ2, H2, J, ry, q⟩ := r
      exact ⟨y, σ2, H2, J.ofTry xok, ry, q⟩
    | brk =>
      obtain ⟨σ2, H2, J, q⟩ := r
      exact ⟨σ2, H2, J.ofTry xok, q⟩
    | cont =>
      obtain ⟨σ2, H2, J, q⟩ := r
      exact ⟨σ2, H2, J.ofTry xok, q⟩
  · obtain ⟨b, B, tI, pq, τ, T, k, dd, rfl, J0, nb, up, sky0, nT, os, ag, w⟩ := xx
    have J : Inv X pins τ T tI := J0.ofTry xok
    have sky : Sky B (X.env :: X.outer) b (Zc k dd) X.env.locals t.heap := hs ▸ sky0
    show wpAny (model X.prog X.w) X.A (noteFrame (.ref b) X.env) _ _ _
    refine Sky.land Zc.steady xfr hf sky fun g3 f3 up3 => ?_
    have J3 : Inv X pins τ T { t with heap := g3 } := J.landed nb f3.1 (up.trans up3) os ag
    obtain ⟨o3, vs3, e3, z3, d3⟩ := f3.there
    have nfr := not_frame f3.2.2.1 e3 d3
    have nL : b ≠ X.env.locals := fun z => nfr (List.mem_filterMap.mpr ⟨_, .head _, by rw [hf, z]⟩)
    have nF : b ∉ X.fs := fun hm => by
      obtain ⟨en, hen, q⟩ := List.mem_filterMap.mp hm
      exact nfr (List.mem_filterMap.mpr ⟨en, .tail _ hen, q⟩)
    have S3 := J3.suite e3 d3 nT nL nF
    have all : ∀ {hs2 : List ExceptHandler} {l2 : List (Nat × Value × (Addr → Value → Option Addr → TS))}, HdsN X hs2 l2 → wNam X.K Wo D l2 k dd τ T → wpAny (model X.prog X.w) X.A (handleBy (.ref b) X.env hs2) (SP X pins D) X.xe { t with heap := g3 } := by
      intro hs2 l2 hk
      induction hk with
      | nil =>
        intro w
        refine wpAny_handleBy_nil ?_
        obtain ⟨k1, k2, k3, oe, vs, TT, oT, ts2, he, hz, hd, h1, hr⟩ := id f3
        unfold PySem.passOn
        refine wpAny_bind (wpAny_field he hd h1 ?_)
        rw [if_neg (by simp : ¬ ((Value.ref TT == Value.none) = true))]
        have out : wpAny (model X.prog X.w) X.A (setFlight (.ref b) X.env.frame) (fun _ t4 => wpAny (model X.prog X.w) X.A (throw (.ref b) : Sem Flow) (SP X pins D) X.xe t4) X.xe { t with heap := g3 } := by
          rw [hf]
          exact HandSPX.setFlight_upZ f3 fun g4 h4 up4 => wpAny_throw (tk _ _ ⟨b, B, tI, pins, τ, T, k, dd, rfl, J, nb, (up.trans up3).trans up4, .inr (.inr (hs.symm ▸ h4)), nT, os, ag, w⟩)
        first
          | exact wpAny_bind (wpAny_pure (wpAny_bind out))
          | exact wpAny_bind out
      | @cons i n x c ts b1 bs p1 p2 hds2 l2 hi hl hc sui r ih =>
        intro w
        obtain ⟨bb, hb1, hyes, hno⟩ := w
        refine wpAny_handleBy_cons (codeAny_handlers_test ?_) (fun q => nomatch q)
        have kn : PySem.W.Looks (model X.prog X.w) g3 (typeOf (.ref b)) k := fun _ _ _ _ m q => wpAny_typeOf_ref (m _ _ e3) (z3.1.symm ▸ q)
        have match_ := PySem.W.exm_one (M := model X.prog X.w) (J3.kIn) kn hb1
        have name_ : ∀ {Q E : Value → Shared → Prop}, Q c { t with heap := g3 } → wpAny (model X.prog X.w) (X.A.mark (some (.ref b))) (eval (.Name x p1) X.env) Q E { t with heap := g3 } := fun {Q E} q => by
          rcases hc with ⟨hg, hdb, hm | ⟨hm, hv, hnn⟩⟩
          · exact ld_glob (X := X.suite b ((b, o3) :: (X.pn ++ pins))) S3 hg hm q hdb
          · exact ld_blt (X := X.suite b ((b, o3) :: (X.pn ++ pins))) S3 hg hm hv q hnn hdb
        refine name_ (match_.here ?_)
        cases bb with
        | false =>
          show wpAny _ X.A (handleBy (.ref b) X.env hds2) _ _ _
          exact ih (hno rfl)
        | true =>
          refine codeAny_handlers_suite_as ?_
          refine HandSPX.lands_againZ f3 fun g4 f4 up4 => ?_
          have J4 : Inv X pins τ T { t with heap := g4 } := J.landed nb f4.1 ((up.trans up3).trans up4) os ag
          obtain ⟨o4, vs4, e4, z4, d4⟩ := f4.there
          have S4 := J4.suite e4 d4 nT nL nF
          refine store_ok (X := X.suite b ((b, o4) :: (X.pn ++ pins))) (v := .ref b) S4 hN hi (.inl hl) rfl (fun t5 S5 => ?_) (.inr hl)
          have run := (sui b o4 k dd (X.pn ++ pins) z4 ⟨_, d4⟩).run [] t5 _ T _ S5 (hyes rfl b nT)
          refine wpAny_mono run (fun fl t6 r6 => ?_) (fun _ _ z => z.elim)
          have off : ∀ {τ6 : St} {T6 : Hp} {Q : Shared → Prop}, Inv (X.suite b ((b, o4) :: (X.pn ++ pins))) [] τ6 T6 t6 → (∀ t7, Inv X pins (τ6.set i none) T6 t7 → Q t7) →
              wpAny (model X.prog X.w) X.A (do bindName X.env n .none; unbindBehindTheSuite X.env n p2) (fun _ t7 => Q t7) X.xe t6 := fun {τ6 T6 Q} S6 hq => gone_ok (S6.unsuite xok) hN hi hl hq
          cases fl with
          | next =>
            obtain ⟨τ6, T6, S6, q6⟩ := r6
            exact off S6 fun _ J7 => ⟨_, _, J7, q6⟩
          | ret v =>
            obtain ⟨y6, τ6, T6, S6, ry6, q6⟩ := r6
            exact off S6 fun _ J7 => ⟨_, _, _, J7, ry6, q6⟩
          | brk =>
            obtain ⟨τ6, T6, S6, q6⟩ := r6
            exact off S6 fun _ J7 => ⟨_, _, J7, q6⟩
          | cont =>
            obtain ⟨τ6, T6, S6, q6⟩ := r6
            exact off S6 fun _ J7 => ⟨_, _, J7, q6⟩
    exact all hh w
end
/-! by data -/
abbrev asEnds (i : Nat) (D : DEnds) : DEnds := { nx := fun s G => D.nx (s.set i none) G, rt := D.rt, ex := fun _ _ _ => False, bk := fun s G => D.bk (s.set i none) G, ct := fun s G => D.ct (s.set i none) G }
def pickN (D : DEnds) : List (Nat × (Str → Option Bool) × (Exn → Addr → DTS)) → Exn → DSt → Gp → Prop
  | [], e, s, G => D.ex e s G
  | (i, m, ds) :: r, e, s, G => match m e.cls with
    | some true => ∀ a, G a = none → ds e a (asEnds i D) (s.set i (some (.ref a))) G
    | some false => pickN D r e s G
    | none => False
abbrev dTryN (l : List (Nat × (Str → Option Bool) × (Exn → Addr → DTS))) (db : DTS) : DTS := fun D s G => db { D with ex := pickN D l } s G
inductive HdsND (X : Cx) : List ExceptHandler → List (Nat × (Str → Option Bool) × (Exn → Addr → DTS)) → Prop
  | nil : HdsND X [] []
  | cons (i : Nat) {n x : Str} {c : Value} {m : Str → Option Bool} {ds : Exn → Addr → DTS} {b1 : Stmt} {bs : List Stmt} {p1 p2 : Pos} {hds : List ExceptHandler} {l : List (Nat × (Str → Option Bool) × (Exn → Addr → DTS))} (hi : X.N[i]? = some n) (hl : X.env.kindOf n = some .local) (hc : Names X x c) (hm : Catch X.K c m)
      (sui : ∀ (a : Addr) (oe : Obj) (e : Exn) (cls : Value) (d : Option Addr) (pn : List (Addr × Obj)), HeldAt X.K e cls d oe → DSs (X.suite a ((a, oe) :: pn)) W0 (b1 :: bs) (ds e a)) (r : HdsND X hds l) :
      HdsND X (.ExceptHandler (some (.Name x p1)) (some n) (b1 :: bs) p2 :: hds) ((i, m, ds) :: l)
theorem held_as {K : PySem.W.Frag} {F : Fp} {σ : St} {s : DSt} {H : Hp} {G : Gp} {D : Ends} {Dd : DEnds} {W : WX} {ds : Exn → Addr → DTS} {i : Nat} {e : Exn} {a : Addr} {cls : Value} {dd : Option Addr} (rs : RS K F H G) (st : RepSt K F σ s) (rx : RepX K F cls dd e)
    (q : ds e a (asEnds i Dd) (s.set i (some (.ref a))) G) (r : EndsR K F W Dd D) :
    tsHeld K ds a cls dd { nx := fun σ' H' => D.nx (σ'.set i none) H', rt := D.rt, bk := fun σ' H' => D.bk (σ'.set i none) H', ct := fun σ' H' => D.ct (σ'.set i none) H' } (σ.set i (some (.ref a))) H := by
  refine ⟨e, rx.1, fun z => ?_, F, _, G, asEnds i Dd, rs, st.set i (.ref a), q, ⟨?_, r.rt, fun _ _ _ _ _ _ _ _ _ _ _ _ z => z, ?_, ?_⟩⟩
  · have h := rx.2
    rw [z] at h
    exact h
  · exact fun F2 H2 G2 σ2 s2 h2 rs2 st2 q2 => r.nx F2 H2 G2 _ _ h2 rs2 (st2.clear i none) q2
  · exact fun F2 H2 G2 σ2 s2 h2 rs2 st2 q2 => r.bk F2 H2 G2 _ _ h2 rs2 (st2.clear i none) q2
  · exact fun F2 H2 G2 σ2 s2 h2 rs2 st2 q2 => r.ct F2 H2 G2 _ _ h2 rs2 (st2.clear i none) q2
theorem HdsND.ok {X : Cx} {hds : List ExceptHandler} {l : List (Nat × (Str → Option Bool) × (Exn → Addr → DTS))} (h : HdsND X hds l) : ∃ lc, HdsN X hds lc ∧ ∀ (W : WX) (D : Ends) (Dd : DEnds) (F : Fp) (H : Hp) (G : Gp) (cls : Value) (dd : Option Addr) (e : Exn) (σ : St) (s : DSt),
    RS X.K F H G → RepX X.K F cls dd e → RepSt X.K F σ s → EndsR X.K F W Dd D → pickN Dd l e s G → wNam X.K W D lc cls dd σ H := by
  induction h with
  | nil => exact ⟨[], .nil, fun W D Dd F H G cls dd e σ s rs rx st r q => r.ex F H G cls dd e σ s (FSame.refl F) rs rx st q⟩
  | @cons i n x c m ds b1 bs p1 p2 hds l hi hl hc hm sui r ih =>
    obtain ⟨lc, h1, h2⟩ := ih
    refine ⟨(i, c, tsHeld X.K ds) :: lc, .cons hi hl hc (pss_held sui) h1, fun W D Dd F H G cls dd e σ s rs rx st r q => ?_⟩
    unfold pickN at q
    cases em : m e.cls with
    | none =>
      rw [em] at q
      exact q.elim
    | some b =>
      rw [em] at q
      have ex := hm.ok _ _ em
      rw [← rx.1] at ex
      refine ⟨b, ex, fun hb1 a ha => ?_, fun hb0 => ?_⟩
      · subst hb1
        exact held_as rs st rx (q a (rs.free ha).2) r
      · subst hb0
        exact h2 W D Dd F H G cls dd e σ s rs rx st r q
theorem ds_tryN {X : Cx} {W : WX} {body : List Stmt} {h0 : ExceptHandler} {hds : List ExceptHandler} {l : List (Nat × (Str → Option Bool) × (Exn → Addr → DTS))} {pos : Pos} {db : DTS} (hs : X.stack = X.env :: X.outer) (hf : X.env.frame = some X.env.locals) (hN : X.N.Nodup) (tk : Takes X W)
    (hb : ∀ (W' : WX) (pn : List (Addr × Obj)) (xe : Value → Shared → Prop), Takes (X.tr pn xe) W' → PassesOwn (model X.prog X.w) X.A X.env xe → DSs (X.tr pn xe) W' body db) (hh : HdsND X (h0 :: hds) l) :
    DS X W (.Try body (h0 :: hds) [] [] pos) (dTryN l db) := by
  obtain ⟨lc, h1, h2⟩ := hh.ok
  refine ⟨⟨_, ps_try_nam (tb := fun W' => tsOf X.K W' db) (Wo := W) hs hf hN tk (fun W' pn xe t po => (hb W' pn xe t po).pss) h1, fun F σ H s G Dd E rs st q r => ?_⟩⟩
  refine ⟨F, s, G, _, rs, st, q, r.nx, r.rt, ?_, r.bk, r.ct⟩
  intro F' H' G' cls dd e σ' s' hF rs' rx st' q'
  exact h2 W E Dd F' H' G' cls dd e σ' s' rs' rx st' (r.mono hF) q'
/-! from here on a name's list stands still -/
abbrev dFrzV (k : Nat) (d : DTS) : DTS := fun D s G => match s[k]? with
  | some (some (.ref a)) => match G a with
    | some (.lst ds) => d D (s.set k (some (.lst ds))) (gdel G a)
    | _ => False
  | _ => False
theorem RepSt.setD {K : PySem.W.Frag} {F : Fp} {σ : St} {s : DSt} {k : Nat} {v : V} {d : D} (r : RepSt K F σ s) (h : σ[k]? = some (some v)) (hd : Rep K F v d) : RepSt K F σ (s.set k (some d)) := by
  have z := r.set k hd
  rwa [show σ.set k (some v) = σ from by
    obtain ⟨hl, e⟩ := List.getElem?_eq_some_iff.mp h
    rw [← e, List.set_getElem_self]] at z
theorem ds_frzV {X : Cx} {W : WX} {st : Stmt} {d : DTS} (k : Nat) (h : DS X W st d) : DS X W st (dFrzV k d) := by
  obtain ⟨t, p, a⟩ := h
  refine ⟨⟨t, p, fun F σ H s G Dd E rs sr q r => ?_⟩⟩
  unfold dFrzV at q
  split at q
  · rename_i b e
    split at q
    · rename_i ds eg
      obtain ⟨v, h1, h2⟩ := sr.at_ k _ e
      cases h2
      obtain ⟨F2, e2, rs2, r2⟩ := rs.freeze eg
      exact a F2 σ H _ _ Dd E rs2 ((sr.mono e2).setD h1 r2) q (r.mono e2)
    · exact q.elim
  · exact q.elim
end Dl
set_option Elab.async false
set_option linter.all false
set_option maxRecDepth 100000
set_option maxHeartbeats 4000000
/-! The data layer: instances. -/
namespace Dl
open PySem PySem.Spec PyProof.Rows L2
set_option autoImplicit false
/-- the j-th statement of a class -/
def inC (s : Stmt) (j : Nat) : Stmt := match s with
  | .ClassDef (body := b) .. => b.getD j (.Pass ⟨0, 0, 0, 0⟩)
  | s => s
/-! ### attributes -/
def putD (f : Str) (d : D) : List (Str × D) → List (Str × D)
  | [] => [(f, d)]
  | (g, x) :: r => if g = f then (g, d) :: r else (g, x) :: putD f d r
section
variable {K : PySem.W.Frag} {F : Fp}
theorem repf_inv {v : Str × V} {vs : List (Str × V)} {d : Str × D} {fs : List (Str × D)} (h : RepF K F (v :: vs) (d :: fs)) : v.1 = d.1 ∧ Rep K F v.2 d.2 ∧ RepF K F vs fs := by
  obtain ⟨h1, h2⟩ := h
  rw [List.map_cons, List.map_cons] at h1 h2
  cases h2 with
  | cons a b => exact ⟨(List.cons.inj h1).1, a, (List.cons.inj h1).2, b⟩
theorem repf_nil {vs : List (Str × V)} (h : RepF K F vs []) : vs = [] := List.map_eq_nil_iff.mp h.1
theorem repf_cons {f : Str} {v : V} {d : D} {vs : List (Str × V)} {fs : List (Str × D)} (r : Rep K F v d) (h : RepF K F vs fs) : RepF K F ((f, v) :: vs) ((f, d) :: fs) := by
  refine ⟨?_, ?_⟩
  · rw [List.map_cons, List.map_cons, h.1]
  · rw [List.map_cons, List.map_cons]
    exact .cons r h.2
theorem RepF.look {f : Str} : ∀ {fs : List (Str × D)} {vs : List (Str × V)}, RepF K F vs fs → (∀ d, fs.lookup f = some d → ∃ v, vs.lookup f = some v ∧ Rep K F v d) ∧ (fs.lookup f = none → vs.lookup f = none)
  | [], vs, h => by
    rw [repf_nil h]
    exact ⟨fun _ e => (nomatch e), fun _ => rfl⟩
  | (g, x) :: fs, [], h => by
    have z := h.1
    cases z
  | (g, x) :: fs, (k, y) :: vs, h => by
    obtain ⟨e, r, h'⟩ := repf_inv h
    have e' : k = g := e
    subst e'
    obtain ⟨i1, i2⟩ := RepF.look (f := f) h'
    rw [List.lookup_cons, List.lookup_cons]
    cases f == k with
    | true => exact ⟨fun d e => ⟨y, rfl, by cases e; exact r⟩, fun e => (nomatch e)⟩
    | false => exact ⟨i1, i2⟩
theorem RepF.put {f : Str} {v : V} {d : D} (r : Rep K F v d) : ∀ {fs : List (Str × D)} {vs : List (Str × V)}, RepF K F vs fs → RepF K F (putF f v vs) (putD f d fs)
  | [], vs, h => by
    have z := repf_nil h
    subst z
    exact repf_cons r h
  | (g, x) :: fs, [], h => by
    have z := h.1
    cases z
  | (g, x) :: fs, (k, y) :: vs, h => by
    obtain ⟨e, r', h'⟩ := repf_inv h
    have e' : k = g := e
    subst e'
    unfold putF putD
    split
    · exact repf_cons r h'
    · exact repf_cons r' (RepF.put r h')
theorem RepF.len {fs : List (Str × D)} {vs : List (Str × V)} (h : RepF K F vs fs) : vs.length = fs.length := by
  have z := congrArg List.length h.1
  rwa [List.length_map, List.length_map] at z
end
def gIns (c : Str) (x : D) (G : Gp) (P : Addr → List (Str × D) → Prop) : Prop := match x with
  | .ref a => match G a with
    | some (.ins k fs) => k = c ∧ P a fs
    | _ => False
  | _ => False
theorem gins_at {K : PySem.W.Frag} {F : Fp} {H : Hp} {G : Gp} {c : Str} {v : V} {x : D} {P : Addr → List (Str × D) → Prop} (rs : RS K F H G) (r : Rep K F v x) (h : gIns c x G P) :
    ∃ a fs dx vs, v = .ref a ∧ x = .ref a ∧ G a = some (.ins c fs) ∧ H a = some (.ins (He.ga K c) dx vs) ∧ RepF K F vs fs ∧ P a fs := by
  cases x with
  | ref a =>
    have h' : (match G a with
      | some (.ins k fs) => k = c ∧ P a fs
      | _ => False) := h
    split at h'
    · rename_i k fs eg
      obtain ⟨rfl, hp⟩ := h'
      cases r with
      | ref =>
        obtain ⟨dx, vs, h1, h2⟩ := (rs.gf a _ eg).2
        exact ⟨a, fs, dx, vs, rfl, rfl, eg, h1, h2, hp⟩
    · exact h'.elim
  | _ => exact False.elim h
def gFld (f : Str) (G : Gp) (Q : DK) : Addr → List (Str × D) → Prop := fun _ fs => match fs.lookup f with
  | some d => Q d G
  | none => False
abbrev dFld (c f : Str) (de : DTE) : DTE := fun s G Q E => de s G (fun x G1 => gIns c x G1 (gFld f G1 Q)) E
section
variable {X : Cx} {W : WX} {e o value : Expr} {de do_ dv_ : DTE} {c f : Str} {pos pos' : Pos}
theorem de_fld (hc : Cls X.K (He.ga X.K c)) (hn : NoAttr X.K (He.ga X.K c) f) (h : DE X W e de) (hb : attributeBase e f X.env (eval e X.env) = eval e X.env := by rfl) : DE X W (.Attribute e f pos) (dFld c f de) := by
  obtain ⟨t, p, a⟩ := h
  refine ⟨⟨_, pe_fld p hb, fun F σ H s G Qd Ed Q rs st q k kx => a F σ H s G _ Ed _ rs st q (fun F1 H1 G1 v x e1 rs1 rv q1 => ?_) kx⟩⟩
  obtain ⟨b, fs, dx, vs, rfl, rfl, eg, eh, rf, q2⟩ := gins_at rs1 rv q1
  unfold gFld at q2
  split at q2
  · rename_i d ed
    obtain ⟨y, hy, ry⟩ := (rf.look (f := f)).1 d ed
    exact ⟨b, _, dx, vs, y, rfl, eh, hc, hn, hy, k F1 H1 G1 _ _ e1 rs1 ry q2⟩
  · exact q2.elim
/-- o.f = value -/
abbrev dFldSet (c f : Str) (do_ dv_ : DTE) : DTS := fun D s G => dv_ s G (fun y G1 => do_ s G1 (fun x G2 => gIns c x G2 fun a fs => fs.length < 1000 ∧ D.nx s (gupd G2 a (.ins c (putD f y fs)))) (fun x G2 => D.ex x s G2)) (fun x G1 => D.ex x s G1)
theorem RS.setIns {K : PySem.W.Frag} {F : Fp} {H : Hp} {G : Gp} {a : Addr} {fs : List (Str × D)} {dx : Addr} {vs : List (Str × V)} {y : V} {d : D} (rs : RS K F H G) (eg : G a = some (.ins c fs)) (rf : RepF K F vs fs) (r : Rep K F y d) :
    RS K F (upd H a (.ins (He.ga K c) dx (putF f y vs))) (gupd G a (.ins c (putD f d fs))) := rs.setG eg ⟨dx, _, upd_same, rf.put r⟩
theorem ds_fld (hc : Cls X.K (He.ga X.K c)) (hn : NoAttr X.K (He.ga X.K c) f) (ho : DE X W o do_) (hv : DE X W value dv_) (hs : swapsWith value (some (.Attribute o f pos')) pos.line X.env = pure false := by rfl) : DS X W (.Assign [.Attribute o f pos'] value pos) (dFldSet c f do_ dv_) := by
  obtain ⟨t, p, a⟩ := ho
  obtain ⟨u, p2, a2⟩ := hv
  refine ⟨⟨_, ps_fld p p2 hs, fun F σ H s G Dd E rs st q r => a2 F σ H s G _ _ _ rs st q (fun F1 H1 G1 v y e1 rs1 rv q1 => ?_) (r.ex.at_ st)⟩⟩
  refine a F1 σ H1 s G1 _ _ _ rs1 (st.mono e1) q1 (fun F2 H2 G2 v2 x e2 rs2 rx q2 => ?_) ((r.mono e1).ex.at_ (st.mono e1))
  obtain ⟨b, fs, dx, vs, rfl, rfl, eg, eh, rf, hl, q3⟩ := gins_at rs2 rx q2
  refine ⟨b, _, dx, vs, rfl, eh, hc, hn, by rw [rf.len]; exact hl, ?_⟩
  exact r.nx F2 _ _ σ s (e1.trans e2) (rs2.setIns eg rf (rv.mono e2)) (st.mono (e1.trans e2)) q3
end
/-! ### methods -/
section
variable {X : Cx} {CX : CXT} {k n : Nat} {g C : Addr} {fd : FuncData} {ps ks : List Str} {sp : Sp} {E : St → XK} {m x : Str} {p pos apos : Pos} {e o : Expr} {es : List Expr} {kws : List Keyword} {ta : TE} {t tk : TA} {dvs : List V} {dds : List Value}
def tMethS (C : Addr) (m : Str) (sp : Sp) (dvs : List V) (E : St → XK) (ta : TE) (t : TA) : TE := fun σ H Q => ta σ H fun x H1 => ∃ a dx fs, x = .ref a ∧ H1 a = some (.ins C dx fs) ∧ fs.lookup m = none ∧ t σ H1 fun vs H2 => sp (x :: (vs ++ dvs)) H2 Q (E σ)
abbrev MTree (X : Cx) (o : Expr) (m : Str) (apos pos : Pos) (args : List Expr) (kws : List Keyword) (pl : Sem Bool) : Prop := eval (.Call (.Attribute o m apos) args kws pos) X.env = (do
  let z ← eval o X.env
  standAt apos.atName
  let (h, first) ← holding [z] (getMethod z m pl)
  callWith pos h first (backTo pos (starEach args X.env)) (backToKw pos (keywordEach kws X.env)))
theorem pe_methS1 {pl : Sem Bool} (po : PE X o ta) (hc : Cls X.K C) (hm : Meth X.K C m g) (Fn : FnOk X.prog X.w X.K X.mg X.base CX k g fd ps sp) (hr : Room k X.A) (hb : Binds X.K fd ps dds) (hd : Vals dvs dds) (hx : ∀ σ, PassesAt CX X σ (E σ)) (pa : PA X (e :: es) t)
    (h1 : starEach (e :: es) X.env = (false, eval e X.env) :: starEach es X.env) (h2 : (backTo pos (starEach es X.env)).any (·.1) = false) (ht : MTree X o m apos pos (e :: es) [] pl) : PE X (.Call (.Attribute o m apos) (e :: es) [] pos) (tMethS C m sp dvs E ta t) := by
  constructor
  intro pins s σ H Q I h
  refine PySem.W.methodCall_KW (pl := pl) (thn (po.run pins s σ H _ I h) fun u s1 z1 => ?_) ht
  obtain ⟨y, H1, I1, ry, a, dx, fs, rfl, ea, l, q⟩ := z1
  cases ry
  refine getmeth_ok I1 ea hc hm l (PySem.W.callWith_K (first := [.ref a]) (h₀ := X.base) I.ok.mod.kin hm.kp (thn (pa.run pos pins s1 σ H1 _ I1 q) fun us s2 z2 => ?_) h1 h2)
  obtain ⟨vs, H2, I2, r, q2⟩ := z2
  exact ⟨I2.kIn, run_fnSD (us := .ref a :: us) (vs := .ref a :: vs) Fn hr hb hd (hx σ) I2 (.cons rfl r) q2⟩
theorem pe_methS0 {pl : Sem Bool} (po : PE X o ta) (hc : Cls X.K C) (hm : Meth X.K C m g) (Fn : FnOk X.prog X.w X.K X.mg X.base CX k g fd ps sp) (hr : Room k X.A) (hb : Binds X.K fd ps dds) (hd : Vals dvs dds) (hx : ∀ σ, PassesAt CX X σ (E σ))
    (ht : MTree X o m apos pos [] [] pl) : PE X (.Call (.Attribute o m apos) [] [] pos) (tMethS C m sp dvs E ta tNil) := by
  constructor
  intro pins s σ H Q I h
  refine PySem.W.methodCall_KW (pl := pl) (thn (po.run pins s σ H _ I h) fun u s1 z1 => ?_) ht
  obtain ⟨y, H1, I1, ry, a, dx, fs, rfl, ea, l, q⟩ := z1
  cases ry
  exact getmeth_ok I1 ea hc hm l (PySem.W.callWith_K0 (first := [.ref a]) I1.kIn hm.kp (run_fnSD (us := [.ref a]) (vs := [.ref a]) Fn hr hb hd (hx σ) I1 (.cons rfl .nil) q))
def tMethK (C : Addr) (m : Str) (sp : Sp) (n nk : Nat) (E : St → XK) (ta : TE) (t tk : TA) : TE := fun σ H Q => ta σ H fun x H1 => ∃ a dx fs, x = .ref a ∧ H1 a = some (.ins C dx fs) ∧ fs.lookup m = none ∧ t σ H1 fun vs H2 => tk σ H2 fun zs H3 => vs.length = n ∧ zs.length = nk ∧ sp (x :: (vs ++ zs)) H3 Q (E σ)
theorem pe_methKS {pl : Sem Bool} (po : PE X o ta) (hc : Cls X.K C) (hm : Meth X.K C m g) (Fn : FnOk X.prog X.w X.K X.mg X.base CX k g fd ps sp) (hr : Room k X.A) (hb : KB X.K fd ps (n + 1) ks) (hx : ∀ σ, PassesAt CX X σ (E σ)) (pa : PA X (e :: es) t) (hkw : PK X kws tk)
    (hall : (backToKw pos (keywordEach kws X.env)).all (·.1.isSome) = true) (hks : (backToKw pos (keywordEach kws X.env)).filterMap (·.1) = ks) (h1 : starEach (e :: es) X.env = (false, eval e X.env) :: starEach es X.env)
    (h2 : ((backTo pos (starEach (e :: es) X.env)).any (·.1) || (backToKw pos (keywordEach kws X.env)).any (·.1.isNone)) = false) (ht : MTree X o m apos pos (e :: es) kws pl) : PE X (.Call (.Attribute o m apos) (e :: es) kws pos) (tMethK C m sp n ks.length E ta t tk) := by
  constructor
  intro pins s σ H Q I h
  refine PySem.W.methodCall_KW (pl := pl) (thn (po.run pins s σ H _ I h) fun u s1 z1 => ?_) ht
  obtain ⟨y, H1, I1, ry, a, dx, fs, rfl, ea, l, q⟩ := z1
  cases ry
  refine getmeth_ok I1 ea hc hm l (PySem.W.callWith_KW (first := [.ref a]) (h₀ := X.base) I.ok.mod.kin hm.kp hall (thn (pa.run pos pins s1 σ H1 _ I1 q) fun us s2 z2 => ?_) h2 h1)
  obtain ⟨vs, H2, I2, r, q2⟩ := z2
  refine thn (hkw.run pos pins s2 σ H2 _ I2 q2) fun ws s3 z3 => ?_
  obtain ⟨zs, H3, I3, rz, l1, l2, q3⟩ := z3
  refine ⟨I3.kIn, ?_⟩
  rw [hks]
  have bt := hb.to s3 (.ref a :: us) ws I3.kIn (by rw [List.length_cons, ← r.length, l1]) (rz.length.symm.trans l2)
  refine wpAny_call (codeAny_mono (Fn.run X.A X.stack s3 H3 ⟨.ref a :: us, ks.zip ws⟩ (.ref a :: us ++ ws) (.ref a :: vs ++ zs) Q (E σ) hr I3.env0 bt (hb.rel (.cons rfl r) rz) q3) fun res s' hq => ?_)
  cases res with
  | error u => exact hx σ pins H3 s3 u s' I3 hq
  | ok fl =>
    cases fl with
    | ret u => exact I3.after hq
    | _ => exact hq.elim
/-! C(..) -/
def tMakeS (C : Addr) (sp : Sp) (E : St → XK) (t : TA) : TE := fun σ H Q => t σ H fun vs H1 => ∀ x dx, H1 x = none → H1 dx = none → dx ≠ x → sp (.ref x :: vs) (upd (upd H1 dx (.own x)) x (.ins C dx [])) (fun v H2 => v = .non ∧ Q (.ref x) H2) (E σ)
theorem run_makeS {pins : List (Addr × Obj)} {σ : St} {H : Hp} {s : Shared} {Q : VK} {us : List Value} {vs : List V} (M : Mk X.K C g) (Fn : FnOk X.prog X.w X.K X.mg X.base CX k g fd ps sp) (hr : Room (k + 1) X.A) (hb : Binds X.K fd ps []) (hx : ∀ σ, PassesAt CX X σ (E σ)) (I : Inv X pins σ H s) (r : Vals vs us)
    (q : ∀ x dx, H x = none → H dx = none → dx ≠ x → sp (.ref x :: vs) (upd (upd H dx (.own x)) x (.ins C dx [])) (fun v H2 => v = .non ∧ Q (.ref x) H2) (E σ)) : wpAny (model X.prog X.w) X.A (call (.ref C) us) (EP X pins σ Q) X.xe s := by
  have z := q (s.heap.objs.size + 1) s.heap.objs.size (I.hok.fresh (Nat.le_succ _)) (I.hok.fresh (Nat.le_refl _)) (Nat.ne_of_lt (Nat.lt_succ_self _))
  have J := Inv.made (C := C) I
  have rr : Vals (.ref (s.heap.objs.size + 1) :: vs) (Value.ref (s.heap.objs.size + 1) :: us) := .cons rfl r
  have hl : (Value.ref (s.heap.objs.size + 1) :: us ++ []).length = ps.length := by rw [List.append_nil, ← rr.length, Fn.len _ _ _ _ z]
  have bt := hb _ _ J.kIn hl
  rw [List.append_nil] at bt
  have run := Fn.run _ X.stack _ _ ⟨Value.ref (s.heap.objs.size + 1) :: us, []⟩ _ _ _ _ (hr.make C us []) (J.env0.make C us []) bt rr z
  refine wpAny_call (make_map (f := g) I.kIn M.makes M.init (beq_iff_eq.mp M.fn) (codeAny_mono run fun res s' hq => ?_))
  cases res with
  | error u => exact hx σ pins _ _ u s' J hq
  | ok fl =>
    cases fl with
    | ret u =>
      obtain ⟨v, H2, J2, rv, rfl, q2⟩ := J.after hq
      exact ⟨rv, ⟨V.ref _, H2, J2, rfl, q2⟩⟩
    | _ => exact hq.elim
theorem pe_makeS (M : Mk X.K C g) (Fn : FnOk X.prog X.w X.K X.mg X.base CX k g fd ps sp) (hr : Room (k + 1) X.A) (hg : Gl X x) (hm : X.mg x = some (.ref C)) (hb : Binds X.K fd ps []) (hx : ∀ σ, PassesAt CX X σ (E σ)) (pa : PA X (e :: es) t) (hdb : (x == ("__debug__" : Str)) = false)
    (h1 : starEach (e :: es) X.env = (false, eval e X.env) :: starEach es X.env) (h2 : (backTo pos (starEach es X.env)).any (·.1) = false) : PE X (.Call (.Name x p) (e :: es) [] pos) (tMakeS C sp E t) := by
  constructor
  intro pins s σ H Q I h
  refine wpAny_Call_Name_kw (ld_glob I hg hm (PySem.W.callWith_K (h₀ := X.base) I.ok.mod.kin M.kp (thn (pa.run pos pins s σ H _ I h) fun us s1 z1 => ?_) h1 h2) hdb)
  obtain ⟨vs, H1, I1, r, q⟩ := z1
  exact ⟨I1.kIn, run_makeS M Fn hr hb hx I1 r q⟩
theorem pe_makeS0 (M : Mk X.K C g) (Fn : FnOk X.prog X.w X.K X.mg X.base CX k g fd ps sp) (hr : Room (k + 1) X.A) (hg : Gl X x) (hm : X.mg x = some (.ref C)) (hb : Binds X.K fd ps []) (hx : ∀ σ, PassesAt CX X σ (E σ)) (hdb : (x == ("__debug__" : Str)) = false) :
    PE X (.Call (.Name x p) [] [] pos) (tMakeS C sp E tNil) := by
  constructor
  intro pins s σ H Q I h
  exact wpAny_Call_Name_kw (ld_glob I hg hm (PySem.W.callWith_K0 I.kIn M.kp (run_makeS (us := []) M Fn hr hb hx I .nil h)) hdb)
end
/-! by data -/
section
variable (P : Program) (w : World) (K : PySem.W.Frag) (mg : Str → Option Value) (base : Heap)
structure CalleeM (c m : Str) (k : Nat) (ps : List Str) (sp : DSp) : Prop where
  ex : ∃ fd, DFn P w K mg base k (He.ma K (He.ga K c) m) fd ps sp ∧ Binds K fd ps []
  cl : Cls K (He.ga K c)
  me : Meth K (He.ga K c) m (He.ma K (He.ga K c) m)
structure CalleeMK (c m : Str) (k : Nat) (ps : List Str) (sp : DSp) (n : Nat) (ks : List Str) (dvs : List V) : Prop where
  ex : ∃ fd, DFn P w K mg base k (He.ma K (He.ga K c) m) fd ps sp ∧ KB K fd ps (n + 1) ks ∧ (dvs ≠ [] → ∃ ds, Vals dvs ds ∧ Binds K fd ps ds)
  cl : Cls K (He.ga K c)
  me : Meth K (He.ga K c) m (He.ma K (He.ga K c) m)
structure CalleeI (c : Str) (k : Nat) (ps : List Str) (sp : DSp) : Prop where
  ex : ∃ fd, DFn P w K mg base k (He.ma K (He.ga K c) "__init__") fd ps sp ∧ Binds K fd ps []
  made : Mk K (He.ga K c) (He.ma K (He.ga K c) "__init__")
  g : mg c = some (.ref (He.ga K c))
end
abbrev gMeth (c m : Str) (x : D) (G : Gp) (P : Prop) : Prop := gIns c x G fun _ fs => fs.lookup m = none ∧ P
abbrev dMeth (c m : Str) (sp : DSp) (do_ : DTE) (dA : DTA) : DTE := fun s G Q E => do_ s G (fun x G1 => gMeth c m x G1 (dA s G1 (fun ds G2 => sp (x :: ds) G2 Q E) E)) E
abbrev dMethD (c m : Str) (sp : DSp) (dds : List D) (do_ : DTE) (dA : DTA) : DTE := fun s G Q E => do_ s G (fun x G1 => gMeth c m x G1 (dA s G1 (fun ds G2 => sp (x :: (ds ++ dds)) G2 Q E) E)) E
abbrev dMethK (c m : Str) (sp : DSp) (n nk : Nat) (do_ : DTE) (dA dK : DTA) : DTE := fun s G Q E => do_ s G (fun x G1 => gMeth c m x G1 (dA s G1 (fun xs G2 => dK s G2 (fun ys G3 => xs.length = n ∧ ys.length = nk ∧ sp (x :: (xs ++ ys)) G3 Q E) E) E)) E
abbrev dMake (c : Str) (sp : DSp) (dA : DTA) : DTE := fun s G Q E => dA s G (fun ds G1 => ∀ p, G1 p = none → sp (.ref p :: ds) (gupd G1 p (.ins c [])) (fun d G2 => d = .non ∧ Q (.ref p) G2) E) E
section
variable {X : Cx} {W : WX} {c m x : Str} {k n : Nat} {ps ks : List Str} {sp : DSp} {dvs : List V} {dds : List D} {p pos apos : Pos} {e o : Expr} {es : List Expr} {kws : List Keyword} {de do_ : DTE} {dA dK : DTA}
theorem ae_meth {K : PySem.W.Frag} {ta : TE} {t : TA} {vs0 : List V} (h : AE K W ta do_) (h2 : AA K W t dA) (hds : ∀ F, RepL K F vs0 dds) : AE K W (tMethS (He.ga K c) m (lift K sp) vs0 (WE W) ta t) (dMethD c m sp dds do_ dA) := fun F σ H s G Qd Ed Q rs st q k kx =>
  h F σ H s G _ Ed _ rs st q (fun F1 H1 G1 v y e1 rs1 rv q1 => by
    obtain ⟨b, fs, dx, vs, rfl, rfl, eg, eh, rf, l, q2⟩ := gins_at rs1 rv q1
    refine ⟨b, dx, vs, rfl, eh, (rf.look (f := m)).2 l, h2 F1 σ H1 s G1 _ Ed _ rs1 (st.mono e1) q2 (fun F2 H2 G2 us xs e2 rs2 ru q3 => ?_) (kx.mono e1)⟩
    exact ⟨F2, G2, _, Qd, Ed, rs2, .cons (rv.mono e2) (ru.append (hds F2)), q3, k.mono (e1.trans e2), fun F3 H3 G3 cls dd z e3 rs3 rx q4 => kx F3 H3 G3 cls dd z ((e1.trans e2).trans e3) rs3 rx q4⟩) kx
theorem meth_D {c m : Str} {sp : DSp} {do_ : DTE} {dA : DTA} : dMethD c m sp [] do_ dA = dMeth c m sp do_ dA := by
  funext s G Q E
  simp only [dMethD, dMeth, List.append_nil]
theorem de_meth {pl : Sem Bool} (cc : CalleeM X.prog X.w X.K X.mg X.base c m k ps sp) (hr : Room k X.A) (tk : Takes X W) (ho : DE X W o do_) (ha : DA X W (e :: es) dA)
    (h1 : starEach (e :: es) X.env = (false, eval e X.env) :: starEach es X.env := by rfl) (h2 : (backTo pos (starEach es X.env)).any (·.1) = false := by rfl) (ht : MTree X o m apos pos (e :: es) [] pl := by rfl) : DE X W (.Call (.Attribute o m apos) (e :: es) [] pos) (dMeth c m sp do_ dA) := by
  obtain ⟨⟨fd, F, hb⟩, cl, me⟩ := cc
  obtain ⟨ta, p1, a1⟩ := ho
  obtain ⟨t, p2, a2⟩ := ha
  have z := ae_meth (c := c) (m := m) (sp := sp) (dds := []) a1 a2 (vs0 := []) fun _ => .nil
  rw [meth_D] at z
  exact ⟨⟨_, pe_methS1 p1 cl me F hr hb .nil (fun σ => passAt tk σ) p2 h1 h2 ht, z⟩⟩
theorem de_meth0 {pl : Sem Bool} (cc : CalleeM X.prog X.w X.K X.mg X.base c m k ps sp) (hr : Room k X.A) (tk : Takes X W) (ho : DE X W o do_) (ht : MTree X o m apos pos [] [] pl := by rfl) : DE X W (.Call (.Attribute o m apos) [] [] pos) (dMeth c m sp do_ dNil) := by
  obtain ⟨⟨fd, F, hb⟩, cl, me⟩ := cc
  obtain ⟨ta, p1, a1⟩ := ho
  have z := ae_meth (c := c) (m := m) (sp := sp) (dds := []) (t := tNil) (dA := dNil) a1 (fun F σ H s G Qd Ed Q rs st q k kx => k F H G [] [] (FSame.refl F) rs .nil q) (vs0 := []) fun _ => .nil
  rw [meth_D] at z
  exact ⟨⟨_, pe_methS0 p1 cl me F hr hb .nil (fun σ => passAt tk σ) ht, z⟩⟩
theorem de_methD {pl : Sem Bool} (cc : CalleeMK X.prog X.w X.K X.mg X.base c m k ps sp n ks dvs) (hr : Room k X.A) (tk : Takes X W) (ho : DE X W o do_) (ha : DA X W (e :: es) dA) (hd : dvs ≠ []) (hds : ∀ F, RepL X.K F dvs dds)
    (h1 : starEach (e :: es) X.env = (false, eval e X.env) :: starEach es X.env := by rfl) (h2 : (backTo pos (starEach es X.env)).any (·.1) = false := by rfl) (ht : MTree X o m apos pos (e :: es) [] pl := by rfl) : DE X W (.Call (.Attribute o m apos) (e :: es) [] pos) (dMethD c m sp dds do_ dA) := by
  obtain ⟨⟨fd, F, _, hb⟩, cl, me⟩ := cc
  obtain ⟨us, hv, hb⟩ := hb hd
  obtain ⟨ta, p1, a1⟩ := ho
  obtain ⟨t, p2, a2⟩ := ha
  exact ⟨⟨_, pe_methS1 p1 cl me F hr hb hv (fun σ => passAt tk σ) p2 h1 h2 ht, ae_meth a1 a2 hds⟩⟩
theorem de_methK {pl : Sem Bool} (cc : CalleeMK X.prog X.w X.K X.mg X.base c m k ps sp n ks dvs) (hr : Room k X.A) (tk : Takes X W) (ho : DE X W o do_) (ha : DA X W (e :: es) dA) (hkw : DKw X W kws dK)
    (hall : (backToKw pos (keywordEach kws X.env)).all (·.1.isSome) = true := by rfl) (hks : (backToKw pos (keywordEach kws X.env)).filterMap (·.1) = ks := by rfl) (h1 : starEach (e :: es) X.env = (false, eval e X.env) :: starEach es X.env := by rfl)
    (h2 : ((backTo pos (starEach (e :: es) X.env)).any (·.1) || (backToKw pos (keywordEach kws X.env)).any (·.1.isNone)) = false := by rfl) (ht : MTree X o m apos pos (e :: es) kws pl := by rfl) : DE X W (.Call (.Attribute o m apos) (e :: es) kws pos) (dMethK c m sp n ks.length do_ dA dK) := by
  obtain ⟨⟨fd, F, hb, _⟩, cl, me⟩ := cc
  obtain ⟨ta, p1, a1⟩ := ho
  obtain ⟨t, p2, a2⟩ := ha
  obtain ⟨u, p3, a3⟩ := hkw
  refine ⟨⟨_, pe_methKS p1 cl me F hr hb (fun σ => passAt tk σ) p2 p3 hall hks h1 h2 ht, fun F σ H s G Qd Ed Q rs st q k kx => a1 F σ H s G _ Ed _ rs st q (fun F1 H1 G1 v y e1 rs1 rv q1 => ?_) kx⟩⟩
  obtain ⟨b, fs, dx, vs, rfl, rfl, eg, eh, rf, l, q2⟩ := gins_at rs1 rv q1
  refine ⟨b, dx, vs, rfl, eh, (rf.look (f := m)).2 l, a2 F1 σ H1 s G1 _ Ed _ rs1 (st.mono e1) q2 (fun F2 H2 G2 us xs e2 rs2 ru q3 => ?_) (kx.mono e1)⟩
  refine a3 F2 σ H2 s G2 _ Ed _ rs2 (st.mono (e1.trans e2)) q3 (fun F3 H3 G3 zs ys e3 rs3 rz q4 => ?_) (kx.mono (e1.trans e2))
  obtain ⟨l1, l2, q4⟩ := q4
  exact ⟨by rw [ru.length]; exact l1, by rw [rz.length]; exact l2, F3, G3, _, Qd, Ed, rs3, .cons (rv.mono (e2.trans e3)) ((ru.mono e3).append rz), q4, k.mono ((e1.trans e2).trans e3), fun F4 H4 G4 cls dd z e4 rs4 rx q5 => kx F4 H4 G4 cls dd z (((e1.trans e2).trans e3).trans e4) rs4 rx q5⟩
theorem ae_make {K : PySem.W.Frag} {t : TA} (h : AA K W t dA) : AE K W (tMakeS (He.ga K c) (lift K sp) (WE W) t) (dMake c sp dA) := fun F σ H s G Qd Ed Q rs st q k kx =>
  h F σ H s G _ Ed _ rs st q (fun F1 H1 G1 us xs e1 rs1 ru q1 => by
    intro y dx hy hdx ne
    obtain ⟨f1, g1⟩ := rs1.free hy
    have rs2 : RS K F1 (upd H1 dx (.own y)) G1 := by
      refine ⟨fun a o e => ?_, fun a e => ?_, fun a g e => ?_⟩
      · have w := rs1.fr a o e
        rw [upd_ne (ne_of_none w hdx)]
        exact w
      · obtain ⟨i, j, l, w⟩ := rs1.st a e
        exact ⟨i, j, l, by rw [upd_ne (ne_of_none w hdx)]; exact w⟩
      · obtain ⟨w1, w2⟩ := rs1.gf a g e
        exact ⟨w1, w2.mono (FSame.refl F1) fun o w => by rw [upd_ne (ne_of_none w hdx)]; exact w⟩
    have hy2 : upd H1 dx (.own y) y = none := by
      rw [upd_ne (fun z => ne z.symm)]
      exact hy
    have rs3 := rs2.newG hy2 (o := .ins (He.ga K c) dx []) (g := .ins c []) ⟨dx, [], upd_same, rfl, .nil⟩
    refine ⟨F1, _, _, _, Ed, rs3, .cons (.ref y) ru, q1 y g1, fun F2 H2 G2 v d e2 rs4 rv q2 => ?_, fun F3 H3 G3 cls dd z e3 rs4 rx q4 => kx F3 H3 G3 cls dd z (e1.trans e3) rs4 rx q4⟩
    obtain ⟨rfl, q2⟩ := q2
    cases rv
    exact ⟨rfl, k F2 H2 G2 _ _ (e1.trans e2) rs4 (.ref y) q2⟩) kx
theorem de_make (cc : CalleeI X.prog X.w X.K X.mg X.base c k ps sp) (hr : Room (k + 1) X.A) (tk : Takes X W) (ha : DA X W (e :: es) dA) (hg : Gl X c := by rfl) (hdb : (c == ("__debug__" : Str)) = false := by decide)
    (h1 : starEach (e :: es) X.env = (false, eval e X.env) :: starEach es X.env := by rfl) (h2 : (backTo pos (starEach es X.env)).any (·.1) = false := by rfl) : DE X W (.Call (.Name c p) (e :: es) [] pos) (dMake c sp dA) := by
  obtain ⟨⟨fd, F, hb⟩, mk, g⟩ := cc
  obtain ⟨t, p2, a2⟩ := ha
  exact ⟨⟨_, pe_makeS mk F hr hg g hb (fun σ => passAt tk σ) p2 hdb h1 h2, ae_make a2⟩⟩
theorem de_make0 (cc : CalleeI X.prog X.w X.K X.mg X.base c k ps sp) (hr : Room (k + 1) X.A) (tk : Takes X W) (hg : Gl X c := by rfl) (hdb : (c == ("__debug__" : Str)) = false := by decide) : DE X W (.Call (.Name c p) [] [] pos) (dMake c sp dNil) := by
  obtain ⟨⟨fd, F, hb⟩, mk, g⟩ := cc
  exact ⟨⟨_, pe_makeS0 mk F hr hg g hb (fun σ => passAt tk σ) hdb, ae_make (fun F σ H s G Qd Ed Q rs st q k kx => k F H G [] [] (FSame.refl F) rs .nil q)⟩⟩
end
/-! f() -/
section
variable {X : Cx} {W : WX} {x : Str} {k : Nat} {ps : List Str} {sp : DSp} {p pos : Pos}
theorem pe_callS0 {CX : CXT} {f : Addr} {fd : FuncData} {sp : Sp} {E : St → XK} (Fn : FnOk X.prog X.w X.K X.mg X.base CX k f fd ps sp) (hr : Room k X.A) (hg : Gl X x) (hm : X.mg x = some (.ref f)) (hk : PySem.W.keepIn X.K (.ref f) = true) (hb : Binds X.K fd ps []) (hx : ∀ σ, PassesAt CX X σ (E σ))
    (hdb : (x == ("__debug__" : Str)) = false) : PE X (.Call (.Name x p) [] [] pos) (tCallSD sp [] E tNil) := by
  constructor
  intro pins s σ H Q I h
  exact wpAny_Call_Name_kw (ld_glob I hg hm (PySem.W.callWith_K0 I.kIn hk (run_fnSD (us := []) (vs := []) Fn hr hb .nil (hx σ) I .nil h)) hdb)
theorem de_call0 (c : Callee X.prog X.w X.K X.mg X.base x k ps sp) (hr : Room k X.A) (tk : Takes X W) (hg : Gl X x := by rfl) (hdb : (x == ("__debug__" : Str)) = false := by decide) : DE X W (.Call (.Name x p) [] [] pos) (dCall sp dNil) := by
  obtain ⟨⟨fd, F, hb⟩, g, kp⟩ := c
  exact ⟨⟨_, pe_callS0 F hr hg g kp hb (fun σ => passAt tk σ) hdb, ae_call fun F σ H s G Qd Ed Q rs st q k kx => k F H G [] [] (FSame.refl F) rs .nil q⟩⟩
end
/-! rows of rows, from here on still -/
def gdelL (G : Gp) : List Addr → Gp
  | [] => G
  | a :: r => gdelL (gdel G a) r
/-- the lists at as stand one after the other, no address twice -/
def Apart (G : Gp) : List Addr → List (List D) → Prop
  | [], [] => True
  | a :: as, ds :: dss => G a = some (.lst ds) ∧ Apart (gdel G a) as dss
  | _, _ => False
theorem Apart.freeze {K : PySem.W.Frag} {H : Hp} : ∀ {as : List Addr} {dss : List (List D)} {F : Fp} {G : Gp}, RS K F H G → Apart G as dss → ∃ F', FSame F F' ∧ RS K F' H (gdelL G as) ∧ RepL K F' (as.map V.ref) (dss.map D.lst)
  | [], [], F, G, rs, _ => ⟨F, FSame.refl F, rs, .nil⟩
  | [], _ :: _, _, _, _, h => h.elim
  | _ :: _, [], _, _, _, h => h.elim
  | a :: as, ds :: dss, F, G, rs, h => by
    obtain ⟨h1, h2⟩ := h
    obtain ⟨F1, e1, rs1, r1⟩ := rs.freeze h1
    obtain ⟨F2, e2, rs2, r2⟩ := Apart.freeze rs1 h2
    exact ⟨F2, e1.trans e2, rs2, .cons (r1.mono e2) r2⟩
theorem repl_refs {K : PySem.W.Frag} {F : Fp} : ∀ {as : List Addr} {xs : List V}, RepL K F xs (as.map D.ref) → xs = as.map V.ref
  | [], xs, h => by
    cases h
    rfl
  | a :: as, xs, h => by
    cases h with
    | cons h r =>
      cases h
      rw [repl_refs r]
      rfl
def frz2D (x : D) (G : Gp) (Q : DK) : Prop := ∃ a as dss, x = .ref a ∧ G a = some (.lst (as.map .ref)) ∧ Apart (gdel G a) as dss ∧ Q (.lst (dss.map .lst)) (gdelL (gdel G a) as)
abbrev dFrz2 (de : DTE) : DTE := fun s G Q E => de s G (fun x G1 => frz2D x G1 Q) E
theorem de_frz2 {X : Cx} {W : WX} {e : Expr} {de : DTE} (h : DE X W e de) : DE X W e (dFrz2 de) where
  ex := by
    obtain ⟨t, p, q⟩ := h
    refine ⟨t, p, fun F σ H s G Qd Ed Q rs st hq k kx => q F σ H s G _ Ed _ rs st hq (fun F1 H1 G1 v x e1 rs1 rv q1 => ?_) kx⟩
    obtain ⟨a, as, dss, rfl, eg, ap, q2⟩ := q1
    cases rv
    obtain ⟨hF, xs, hH, rl⟩ := rs1.gf a _ eg
    have ex := repl_refs rl
    subst ex
    obtain ⟨F2, e2, rs2, r2⟩ := rs1.freeze eg
    obtain ⟨F3, e3, rs3, r3⟩ := ap.freeze rs2
    refine k F3 H1 _ _ _ ((e1.trans e2).trans e3) rs3 ?_ q2
    cases r2 with
    | @lst _ ys _ h1 h2 =>
      have z := (repl_refs h2)
      subst z
      exact .lst (e3 _ _ h1) r3
/-! what indexing is, constructor by constructor -/
theorem gIx_tup {ds : List D} {i : Int} {G : Gp} {Q : DK} : gIx (.tup ds) (.int i) G Q = match atI ds i with
  | some d => Q d G
  | none => False := rfl
theorem gIx_lst {ds : List D} {i : Int} {G : Gp} {Q : DK} : gIx (.lst ds) (.int i) G Q = match atI ds i with
  | some d => Q d G
  | none => False := rfl
theorem gIx_ref {a : Addr} {i : Int} {G : Gp} {Q : DK} : gIx (.ref a) (.int i) G Q = match lv (.ref a) G with
  | some ds => match atI ds i with
    | some d => Q d G
    | none => False
  | none => False := rfl
theorem gIx_scr {ns : List Int} {i : Int} {G : Gp} {Q : DK} : gIx (.scr ns) (.int i) G Q = match atI ns i with
  | some n => Q (.int n) G
  | none => False := rfl
theorem gIx_strm {i : Int} {G : Gp} {Q : DK} : gIx .strm (.int i) G Q = ((0 ≤ i ∧ i < 3) ∧ ∀ n : Int, Q (.int n) G) := rfl
theorem gIx_str {z : Str} {i : Int} {G : Gp} {Q : DK} : gIx (.str z) (.int i) G Q = (z.length ≤ sizeLine ∧ match atI z.cps.toList i with
  | some k => Q (.str ⟨#[k]⟩) G
  | none => False) := rfl
theorem gIns_ref {c : Str} {a : Addr} {G : Gp} {P : Addr → List (Str × D) → Prop} : gIns c (.ref a) G P = match G a with
  | some (.ins k fs) => k = c ∧ P a fs
  | _ => False := rfl
theorem Apart.get {i : Nat} {b : Addr} : ∀ {as : List Addr} {dss : List (List D)} {G : Gp}, Apart G as dss → as[i]? = some b → ∃ ds, dss[i]? = some ds ∧ G b = some (.lst ds)
  | [], _, _, _, e => by simp at e
  | _ :: _, [], _, h, _ => h.elim
  | a :: as, ds :: dss, G, h, e => by
    obtain ⟨h1, h2⟩ := h
    cases i with
    | zero =>
      cases e
      exact ⟨ds, rfl, h1⟩
    | succ i =>
      obtain ⟨es, e1, e2⟩ := Apart.get (i := i) h2 e
      refine ⟨es, e1, ?_⟩
      by_cases z : b = a
      · rw [z, gdel_same] at e2
        cases e2
      · rwa [gdel_ne z] at e2
theorem Apart.len : ∀ {as : List Addr} {dss : List (List D)} {G : Gp}, Apart G as dss → as.length = dss.length
  | [], [], _, _ => rfl
  | [], _ :: _, _, h => h.elim
  | _ :: _, [], _, h => h.elim
  | _ :: _, _ :: _, _, h => by rw [List.length_cons, List.length_cons, Apart.len h.2]
theorem gdel_gupd_ne {G : Gp} {a b : Addr} {o : GO} (h : b ≠ a) : gdel (gupd G b o) a = gupd (gdel G a) b o := by
  funext c
  simp only [gdel, gupd]
  by_cases z : c = a
  · have y : ¬ c = b := fun e => h (e.symm.trans z)
    simp only [if_pos z, if_neg y]
  · by_cases y : c = b
    · simp only [if_neg z, if_pos y]
    · simp only [if_neg z, if_neg y]
theorem gdel_gupd_same {G : Gp} {a : Addr} {o : GO} : gdel (gupd G a o) a = gdel G a := by
  funext c
  simp only [gdel, gupd]
  by_cases z : c = a
  · simp only [if_pos z]
  · simp only [if_neg z]
/-- an address more, off the others -/
theorem Apart.off {b : Addr} {o : GO} : ∀ {as : List Addr} {dss : List (List D)} {G : Gp}, Apart G as dss → b ∉ as → Apart (gupd G b o) as dss
  | [], [], _, _, _ => trivial
  | [], _ :: _, _, h, _ => h.elim
  | _ :: _, [], _, h, _ => h.elim
  | a :: as, ds :: dss, G, h, e => by
    have z : a ≠ b := fun z => e (z ▸ List.mem_cons_self)
    refine ⟨by rw [gupd_ne z]; exact h.1, ?_⟩
    rw [gdel_gupd_ne (fun q => z q.symm)]
    exact Apart.off h.2 fun m => e (List.mem_cons_of_mem _ m)
theorem Apart.set {i : Nat} {b : Addr} {es : List D} : ∀ {as : List Addr} {dss : List (List D)} {G : Gp}, Apart G as dss → as[i]? = some b → Apart (gupd G b (.lst es)) as (dss.set i es)
  | [], _, _, _, e => by simp at e
  | _ :: _, [], _, h, _ => h.elim
  | a :: as, ds :: dss, G, h, e => by
    cases i with
    | zero =>
      cases e
      refine ⟨gupd_same, ?_⟩
      rw [gdel_gupd_same]
      exact h.2
    | succ i =>
      have z : b ≠ a := fun q => by
        obtain ⟨ds, _, e2⟩ := Apart.get (i := i) h.2 e
        rw [q, gdel_same] at e2
        cases e2
      refine ⟨by rw [gupd_ne (fun q => z q.symm)]; exact h.1, ?_⟩
      rw [gdel_gupd_ne z]
      exact Apart.set (i := i) h.2 e
/-- a list more at the end -/
theorem Apart.push {b : Addr} {es : List D} : ∀ {as : List Addr} {dss : List (List D)} {G : Gp}, Apart G as dss → G b = none → Apart (gupd G b (.lst es)) (as ++ [b]) (dss ++ [es])
  | [], [], G, _, h => ⟨gupd_same, trivial⟩
  | [], _ :: _, _, h, _ => h.elim
  | _ :: _, [], _, h, _ => h.elim
  | a :: as, ds :: dss, G, h, e => by
    have z : b ≠ a := fun q => by
      have w := h.1
      rw [← q, e] at w
      cases w
    refine ⟨by rw [gupd_ne (fun q => z q.symm)]; exact h.1, ?_⟩
    rw [gdel_gupd_ne z]
    exact Apart.push h.2 (by rw [gdel_ne z]; exact e)
/-! a list times an int, to be changed; == of rows of rows -/
section
variable {X : Cx}
def gRepM : G2 := fun x y G Q => match y with
  | .int k => match lv x G with
    | some ds => (-(2 ^ 63) ≤ k ∧ k < 2 ^ 63) ∧ ds.length * k.toNat ≤ sizeLine ∧ ∀ p, G p = none → Q (.ref p) (gupd G p (.lst (List.replicate k.toNat ds).flatten))
    | none => False
  | _ => False
theorem do_repM : DOp X (binaryOp .Mult) gRepM where
  ex := ⟨_, op_rep, fun F H G x y dx dy Qd Q rs rx ry q c => by
    cases ry with
    | int k =>
      unfold gRepM at q
      dsimp only at q
      split at q
      · rename_i ds e
        obtain ⟨l, xs, rfl, h1, r1⟩ := lv_at rs rx e
        obtain ⟨⟨q1, q2⟩, q3, q4⟩ := q
        exact ⟨l, k, xs, rfl, rfl, h1, q1, q2, by rw [r1.length]; exact q3, c.lstM rs (r1.flat k.toNat) q4⟩
      · exact q.elim
    | _ => exact False.elim q⟩
def cv2 (x : D) (G : Gp) : D := match x with
  | .ref a => match G a with
    | some (.lst ds) => .lst (ds.map fun d => cv d G)
    | _ => x
  | x => x
theorem dps_cv {K : PySem.W.Frag} {F : Fp} {H : Hp} {G : Gp} (rs : RS K F H G) : ∀ {ds : List D} {vs : List V}, RepL K F vs ds → pure?.pures (ds.map fun d => cv d G) = true → DpAll K H vs (toP.toPs (ds.map fun d => cv d G))
  | _, _, .nil, _ => by
    unfold List.map toP.toPs
    exact .nil
  | _, _, .cons h r, p => by
    rw [List.map_cons] at p ⊢
    unfold pure?.pures at p
    unfold toP.toPs
    obtain ⟨p1, p2⟩ := Bool.and_eq_true_iff.mp p
    exact .cons (dp_cv rs h p1) (dps_cv rs r p2)
theorem dp_cv2 {K : PySem.W.Frag} {F : Fp} {H : Hp} {G : Gp} (rs : RS K F H G) {d : D} {v : V} (r : Rep K F v d) (p : pure? (cv2 d G) = true) : Dp K H v (toP (cv2 d G)) := by
  cases d with
  | ref a =>
    cases r
    unfold cv2 at p ⊢
    dsimp only at p ⊢
    split at p
    · rename_i ds e
      obtain ⟨xs, h1, r1⟩ := (rs.gf a _ e).2
      unfold toP
      unfold pure? at p
      exact .lst (.inl (.inl h1)) (dps_cv rs r1 p)
    · simp [pure?] at p
  | _ => exact dp_of rs r p
def gEq2 (neg : Bool) : G2 := fun x y G Q => EqOk (cv2 x G) ∧ EqOk (cv2 y G) ∧ Q (.bl (if neg then !deq (cv2 x G) (cv2 y G) else deq (cv2 x G) (cv2 y G))) G
theorem do_eq2 (hu : X.A.units + 64 < cLine) : DOp X (compareOp .Eq) (gEq2 false) where
  ex := ⟨_, op_eqD hu, fun F H G x y dx dy Qd Q rs rx ry q c => ⟨_, _, dp_cv2 rs rx q.1.1, dp_cv2 rs ry q.2.1.1, q.1.2, q.2.1.2, c F H G _ _ (FSame.refl F) rs (.bl _) q.2.2⟩⟩
theorem do_ne2 (hu : X.A.units + 64 < cLine) : DOp X (compareOp .NotEq) (gEq2 true) where
  ex := ⟨_, op_neD hu, fun F H G x y dx dy Qd Q rs rx ry q c => ⟨_, _, dp_cv2 rs rx q.1.1, dp_cv2 rs ry q.2.1.1, q.1.2, q.2.1.2, c F H G _ _ (FSame.refl F) rs (.bl _) q.2.2⟩⟩
end
theorem Apart.mono : ∀ {as : List Addr} {dss : List (List D)} {G G' : Gp}, GSub G G' → Apart G as dss → Apart G' as dss
  | [], [], _, _, _, _ => trivial
  | [], _ :: _, _, _, _, h => h.elim
  | _ :: _, [], _, _, _, h => h.elim
  | a :: as, ds :: dss, G, G', s, h => ⟨s _ _ h.1, Apart.mono (fun b g e => by
      by_cases z : b = a
      · rw [z, gdel_same] at e
        cases e
      · rw [gdel_ne z] at e ⊢
        exact s b g e) h.2⟩
theorem gdel_mono {G G' : Gp} (a : Addr) (s : GSub G G') : GSub (gdel G a) (gdel G' a) := fun b g e => by
  by_cases z : b = a
  · rw [z, gdel_same] at e
    cases e
  · rw [gdel_ne z] at e ⊢
    exact s b g e
theorem gSetL_ref {a : Addr} {k : Int} {x : D} {G : Gp} {Q : Gp → Prop} : gSetL (.ref a) (.int k) x G Q = match G a with
  | some (.lst ds) => match ixN ds.length k with
    | some j => Q (gupd G a (.lst (ds.set j x)))
    | none => False
  | _ => False := rfl
theorem gSetL_strm {k i : Int} {G : Gp} {Q : Gp → Prop} : gSetL .strm (.int k) (.int i) G Q = ((0 ≤ k ∧ k < 3) ∧ Q G) := rfl
end Dl
set_option Elab.async false
set_option linter.all false
set_option maxRecDepth 100000
set_option maxHeartbeats 4000000
/-! The data layer: operators that an instance's class defines. -/
namespace Dl
open PySem PySem.Spec PyProof.Rows L2
set_option autoImplicit false
theorem cmp_back {P : Value → Shared → Prop} {z : V} {v : Value} {s' : Shared} (r : RelV z v) (h : P v s') : PySem.W.CmpBack P v s' := by
  cases v <;> first | exact h | (cases z <;> first | (cases r; done) | (obtain ⟨_, e⟩ := r; cases e))
section
variable {X : Cx} {CX : CXT} {k : Nat} {g C : Addr} {fd : FuncData} {ps : List Str} {sp : Sp} {E : St → XK} {m : Str} {pos : Pos} {a b : Expr} {ta tb : TE}
theorem pe_binM {op : Operator} (pa : PE X a ta) (pb : PE X b tb) (hc : PySem.W.selfFirst X.K C = true) (hm : Meth X.K C m g) (em : PySem.dunder op.info.2 = m) (Fn : FnOk X.prog X.w X.K X.mg X.base CX k g fd ps sp) (hr : Room k X.A) (hb : Binds X.K fd ps []) (hx : ∀ σ, PassesAt CX X σ (E σ)) :
    PE X (.BinOp a op b pos) (fun σ H Q => ta σ H fun x H1 => tb σ H1 fun y H2 => ∃ p dx fs p' dx' fs', x = .ref p ∧ y = .ref p' ∧ H2 p = some (.ins C dx fs) ∧ H2 p' = some (.ins C dx' fs') ∧ sp [x, y] H2 (fun z H3 => Q z H3) (E σ)) := by
  constructor
  intro pins s σ H Q I h
  refine wpAny_BinOp (binT pa pb I h fun v u s2 x y H2 I2 rx ry q => ?_)
  obtain ⟨p, dx, fs, p', dx', fs', rfl, rfl, e1, e2, q⟩ := q
  cases rx
  cases ry
  obtain ⟨mA, O1, _⟩ := ins_get I2.hok e1
  obtain ⟨mB, O2, _⟩ := ins_get I2.hok e2
  obtain ⟨od1, J1, _⟩ := O1.look
  obtain ⟨od2, J2, _⟩ := O2.look
  obtain ⟨mm, hF⟩ := I2.fr
  subst em
  refine PySem.W.binop_K hF I2.ok.mod.kin J1 J2.type hc hm.at_ hm.fn ?_
  refine wpAny_mono (run_fnSD (us := [.ref p, .ref p']) (vs := [.ref p, .ref p']) Fn hr hb .nil (hx σ) I2 (.cons rfl (.cons rfl .nil)) q) (fun w s' z => ?_) fun _ _ x => x
  obtain ⟨z', H', I', rz, qz⟩ := z
  exact cmp_back rz ⟨z', H', I', rz, qz⟩
end
section
variable {X : Cx} {CX : CXT} {k : Nat} {g C : Addr} {fd : FuncData} {ps : List Str} {sp : Sp} {E : St → XK} {pos : Pos} {a : Expr} {ta : TE}
theorem pe_negM (pa : PE X a ta) (hm : Meth X.K C "__neg__" g) (Fn : FnOk X.prog X.w X.K X.mg X.base CX k g fd ps sp) (hr : Room k X.A) (hb : Binds X.K fd ps []) (hx : ∀ σ, PassesAt CX X σ (E σ)) :
    PE X (.UnaryOp .USub a pos) (fun σ H Q => ta σ H fun x H1 => ∃ p dx fs, x = .ref p ∧ H1 p = some (.ins C dx fs) ∧ sp [x] H1 Q (E σ)) := by
  constructor
  intro pins s σ H Q I h
  refine UnaryOp_ (thn (pa.run pins s σ H _ I h) fun v s1 z => ?_)
  obtain ⟨x, H1, I1, rx, p, dx, fs, rfl, e1, q⟩ := z
  cases rx
  obtain ⟨mA, O1, _⟩ := ins_get I1.hok e1
  obtain ⟨od1, J1, _⟩ := O1.look
  obtain ⟨mm, hF⟩ := I1.fr
  exact PySem.W.ksp_neg hF I1.ok.mod.kin J1 hm.at_ hm.fn (run_fnSD (us := [.ref p]) (vs := [.ref p]) Fn hr hb .nil (hx σ) I1 (.cons rfl .nil) q)
end
/-! by data -/
abbrev dBinM (c : Str) (sp : DSp) (da db : DTE) : DTE := fun s G Q E => da s G (fun x G1 => db s G1 (fun y G2 => gIns c x G2 fun _ _ => gIns c y G2 fun _ _ => sp [x, y] G2 Q E) E) E
abbrev dNegM (c : Str) (sp : DSp) (da : DTE) : DTE := fun s G Q E => da s G (fun x G1 => gIns c x G1 fun _ _ => sp [x] G1 Q E) E
section
variable {X : Cx} {W : WX} {c m : Str} {k : Nat} {ps : List Str} {sp : DSp} {pos : Pos} {a b : Expr} {da db : DTE}
theorem de_binM {op : Operator} (cc : CalleeM X.prog X.w X.K X.mg X.base c m k ps sp) (hr : Room k X.A) (tk : Takes X W) (hf : PySem.W.selfFirst X.K (He.ga X.K c) = true) (ha : DE X W a da) (hb : DE X W b db) (em : PySem.dunder op.info.2 = m := by decide +kernel) : DE X W (.BinOp a op b pos) (dBinM c sp da db) := by
  obtain ⟨⟨fd, F, bd⟩, cl, me⟩ := cc
  obtain ⟨ta, p1, a1⟩ := ha
  obtain ⟨tb, p2, a2⟩ := hb
  refine ⟨⟨_, pe_binM p1 p2 hf me em F hr bd (fun σ => passAt tk σ), fun F σ H s G Qd Ed Q rs st q k kx => a1 F σ H s G _ Ed _ rs st q (fun F1 H1 G1 v x e1 rs1 rv q1 => ?_) kx⟩⟩
  refine a2 F1 σ H1 s G1 _ Ed _ rs1 (st.mono e1) q1 (fun F2 H2 G2 u y e2 rs2 ru q2 => ?_) (kx.mono e1)
  have rv2 := rv.mono e2
  obtain ⟨p, fs, dx, vs, rfl, rfl, _, eh, _, q3⟩ := gins_at rs2 rv2 q2
  obtain ⟨p', fs', dx', vs', rfl, rfl, _, eh', _, q4⟩ := gins_at rs2 ru q3
  exact ⟨p, dx, vs, p', dx', vs', rfl, rfl, eh, eh', F2, G2, _, Qd, Ed, rs2, .cons rv2 (.cons ru .nil), q4, k.mono (e1.trans e2), fun F3 H3 G3 cls dd z e3 rs3 rx q5 => kx F3 H3 G3 cls dd z ((e1.trans e2).trans e3) rs3 rx q5⟩
theorem de_negM (cc : CalleeM X.prog X.w X.K X.mg X.base c "__neg__" k ps sp) (hr : Room k X.A) (tk : Takes X W) (ha : DE X W a da) : DE X W (.UnaryOp .USub a pos) (dNegM c sp da) := by
  obtain ⟨⟨fd, F, bd⟩, cl, me⟩ := cc
  obtain ⟨ta, p1, a1⟩ := ha
  refine ⟨⟨_, pe_negM p1 me F hr bd (fun σ => passAt tk σ), fun F σ H s G Qd Ed Q rs st q k kx => a1 F σ H s G _ Ed _ rs st q (fun F1 H1 G1 v x e1 rs1 rv q1 => ?_) kx⟩⟩
  obtain ⟨p, fs, dx, vs, rfl, rfl, _, eh, _, q3⟩ := gins_at rs1 rv q1
  exact ⟨p, dx, vs, rfl, eh, F1, G1, _, Qd, Ed, rs1, .cons rv .nil, q3, k.mono e1, fun F3 H3 G3 cls dd z e3 rs3 rx q5 => kx F3 H3 G3 cls dd z (e1.trans e3) rs3 rx q5⟩
end
/-! isinstance(x, C), x an instance of C -/
structure InsF (K : PySem.W.Frag) (c : Str) : Prop where
  cl : Cls K (He.ga K c)
  ok : insB K (He.ga K c) = true
def gIsiI (c : Str) : D → D → Gp → DK → Prop := fun x n G Q => n = .glo c ∧ gIns c x G fun _ _ => Q (.bl true) G
theorem dc_isiI {X : Cx} {c : Str} (f : InsF X.K c) : DCall X (.builtin "isinstance") (g2 (gIsiI c)) := dcall2 call_isi fun F H G v u x y Qd Q rs rv ru q k => by
  obtain ⟨rfl, q⟩ := q
  obtain ⟨a, fs, dx, vs, rfl, rfl, _, eh, _, q⟩ := gins_at rs rv q
  obtain ⟨h1, h⟩ := He.ba f.ok
  obtain ⟨h2, h⟩ := He.ba h
  obtain ⟨h3, h⟩ := He.ba h
  obtain ⟨h4, h5⟩ := He.ba h
  cases ru
  exact ⟨_, _, _, _, true, rfl, .own _, .base (.ins eh f.cl (of_decide_eq_true h1) (of_decide_eq_true h2) (of_decide_eq_true h3) (of_decide_eq_true h4)), of_decide_eq_true h5, k F H G _ _ (FSame.refl F) rs (.bl true) q⟩
end Dl
set_option Elab.async false
set_option linter.all false
set_option maxRecDepth 100000
set_option maxHeartbeats 4000000
/-! The data layer: what is known told otherwise (ghost steps); sum, reverse. -/
namespace Dl
open PySem PySem.Spec PyProof.Rows L2
set_option autoImplicit false
/-- what is known may be told otherwise, nothing runs -/
def Gh (s : DSt) (G : Gp) (s' : DSt) (G' : Gp) : Prop := ∀ (K : PySem.W.Frag) (F : Fp) (H : Hp) (σ : St), RS K F H G → RepSt K F σ s → ∃ F', FSame F F' ∧ RS K F' H G' ∧ RepSt K F' σ s'
abbrev dGh (d : DTS) : DTS := fun D s G => ∃ s' G', Gh s G s' G' ∧ d D s' G'
theorem ds_gh {X : Cx} {W : WX} {st : Stmt} {d : DTS} (h : DS X W st d) : DS X W st (dGh d) := by
  obtain ⟨t, p, a⟩ := h
  refine ⟨⟨t, p, fun F σ H s G Dd E rs sr q r => ?_⟩⟩
  obtain ⟨s', G', g, q⟩ := q
  obtain ⟨F', e, rs', sr'⟩ := g X.K F H σ rs sr
  exact a F' σ H s' G' Dd E rs' sr' q (r.mono e)
theorem Gh.refl {s : DSt} {G : Gp} : Gh s G s G := fun K F H σ rs sr => ⟨F, FSame.refl F, rs, sr⟩
theorem Gh.trans {s s1 s2 : DSt} {G G1 G2 : Gp} (a : Gh s G s1 G1) (b : Gh s1 G1 s2 G2) : Gh s G s2 G2 := fun K F H σ rs sr => by
  obtain ⟨F1, e1, rs1, sr1⟩ := a K F H σ rs sr
  obtain ⟨F2, e2, rs2, sr2⟩ := b K F1 H σ rs1 sr1
  exact ⟨F2, e1.trans e2, rs2, sr2⟩
theorem Gh.frame {s : DSt} {G G' : Gp} (h : ∀ (K : PySem.W.Frag) (F : Fp) (H : Hp), RS K F H G → ∃ F', FSame F F' ∧ RS K F' H G') : Gh s G s G' := fun K F H σ rs sr => by
  obtain ⟨F', e, rs'⟩ := h K F H rs
  exact ⟨F', e, rs', sr.mono e⟩
/-- rows of rows at a, frozen: addresses in a field -/
theorem freeze2 {K : PySem.W.Frag} {F : Fp} {H : Hp} {G : Gp} {a : Addr} {as : List Addr} {dss : List (List D)} (rs : RS K F H G) (eg : G a = some (.lst (as.map .ref))) (ap : Apart (gdel G a) as dss) :
    ∃ F', FSame F F' ∧ RS K F' H (gdelL (gdel G a) as) ∧ Rep K F' (.ref a) (.lst (dss.map .lst)) := by
  obtain ⟨F2, e2, rs2, r2⟩ := rs.freeze eg
  obtain ⟨F3, e3, rs3, r3⟩ := ap.freeze rs2
  refine ⟨F3, e2.trans e3, rs3, ?_⟩
  cases r2 with
  | @lst _ ys _ h1 h2 =>
    have z := repl_refs h2
    subst z
    exact .lst (e3 _ _ h1) r3
/-- a field of an instance, whose list of lists stands still from here on -/
theorem gh_fld2 {s : DSt} {G : Gp} {p a : Addr} {c f : Str} {as : List Addr} {dss : List (List D)} (hp : G p = some (.ins c [(f, .ref a)])) (eg : G a = some (.lst (as.map .ref))) (ap : Apart (gdel G a) as dss) (hp2 : gdelL (gdel G a) as p = some (.ins c [(f, .ref a)])) :
    Gh s G s (gupd (gdelL (gdel G a) as) p (.ins c [(f, .lst (dss.map .lst))])) := Gh.frame fun K F H rs => by
  obtain ⟨F', e, rs', r'⟩ := freeze2 rs eg ap
  refine ⟨F', e, ⟨rs'.fr, rs'.st, fun b g eb => ?_⟩⟩
  by_cases z : b = p
  · subst z
    rw [gupd_same] at eb
    cases eb
    obtain ⟨h1, dx, vs, h2, h3⟩ := rs'.gf b _ hp2
    refine ⟨h1, dx, vs, h2, ?_⟩
    cases vs with
    | nil =>
      have z := h3.1
      cases z
    | cons v vs =>
      obtain ⟨g, v⟩ := v
      obtain ⟨e1, r1, h4⟩ := repf_inv h3
      have z := repf_nil h4
      subst z
      dsimp only at r1
      cases r1
      exact ⟨h3.1, .cons r' .nil⟩
  · rw [gupd_ne z] at eb
    exact rs'.gf b g eb
/-- sum(xs) of ints -/
def gSum (x : D) (G : Gp) (Q : DK) : Prop := ∃ ns : List Int, lv x G = some (ns.map .int) ∧ Q (.int ns.sum) G
theorem dc_sum {X : Cx} (hc : X.calm = true) : DCall X (.builtin "sum") (g1 gSum) := dcall1 (cr_sum hc) fun F H G v x Qd Q rs rv q c => by
  obtain ⟨ns, e, q⟩ := q
  obtain ⟨a, xs, rfl, h1, r1⟩ := lv_at rs rv e
  have z := repl_int r1
  subst z
  exact ⟨a, ns, rfl, .inl (.inl h1), c F H G _ _ (FSame.refl F) rs (.int _) q⟩
def dmReverse : GM := fun x xs G Q => match x, xs with
  | .ref a, [] => match G a with
    | some (.lst ds) => Q .non (gupd G a (.lst ds.reverse))
    | _ => False
  | _, _ => False
theorem dm_reverse {X : Cx} : DM X "list.reverse" dmReverse := ⟨⟨_, mt_reverse, fun F H G v vs x xs Qd Q rs rv rvs q c => by
  unfold dmReverse at q
  split at q
  · rename_i a
    split at q
    · rename_i ds eg
      cases rv
      cases rvs
      obtain ⟨ys, h1, r1⟩ := (rs.gf a _ eg).2
      refine ⟨a, ys, rfl, rfl, h1, ?_⟩
      exact c F _ _ _ _ (FSame.refl F) (rs.setG eg (g := .lst ds.reverse) ⟨_, upd_same, r1.reverse⟩) .non q
    · exact q.elim
  · exact q.elim⟩⟩
end Dl
set_option Elab.async false
set_option linter.all false
set_option maxRecDepth 100000
set_option maxHeartbeats 4000000
/-! Generators that sleep stay as they are while other code runs: whoever woke them in the one table would be stuck in the other. -/
namespace Dl
open PySem PySem.Spec PyProof.Rows L2
open Sem (wp)
set_option autoImplicit false
abbrev GTab := Array GenState
def asleep : GenState → Bool
  | .suspended .. => true
  | _ => false
/-- the same to look at, stuck when woken -/
def stuckG : GenState → GenState
  | .suspended _ l c p fs cl => .suspended (fun _ => .unsupported "asleep") l c p fs cl
  | x => x
theorem stuckG_seen (x : GenState) : (stuckG x).seen = x.seen := by cases x <;> rfl
theorem stuckG_bare (x : GenState) : (stuckG x).bare = x.bare := by cases x <;> rfl
def backG (T P : GTab) : GTab := P.mapIdx fun i x => match T[i]? with
  | some g => if asleep g = true then g else x
  | none => x
theorem backG_get (T P : GTab) (i : Nat) : (backG T P)[i]? = (P[i]?).map fun x => match T[i]? with
  | some g => if asleep g = true then g else x
  | none => x := by
  unfold backG
  rw [Array.getElem?_mapIdx]
theorem backG_size (T P : GTab) : (backG T P).size = P.size := by
  unfold backG
  rw [Array.size_mapIdx]
/-- the sleepers of T are stuck in P; all others of P hold no generator's frame -/
structure Slp (T P : GTab) : Prop where
  st : ∀ (i : Nat) g, T[i]? = some g → asleep g = true → P[i]? = some (stuckG g)
  fr : ∀ (i : Nat) k l c p fs cl, P[i]? = some (.suspended k l c p fs cl) → (∀ g, T[i]? = some g → asleep g = false) → splitAtGen fs = none
theorem Slp.start (T : GTab) : Slp T (T.map stuckG) where
  st := fun i g h _ => by rw [Array.getElem?_map, h]; rfl
  fr := fun i k l c p fs cl h n => by
    rw [Array.getElem?_map] at h
    obtain ⟨g, e1, e2⟩ := Option.map_eq_some_iff.mp h
    have z := n g e1
    cases g with
    | suspended => cases z
    | _ => cases e2
theorem backG_start (T : GTab) : backG T (T.map stuckG) = T := by
  refine Array.ext_getElem? fun i => ?_
  rw [backG_get, Array.getElem?_map]
  cases h : T[i]? with
  | none => rfl
  | some g =>
    show some (if asleep g = true then g else stuckG g) = some g
    cases g <;> rfl
/-- who is not asleep in T stands in the restored table as in P -/
theorem Slp.awake {T P : GTab} (h : Slp T P) {i : Nat} {x : GenState} (e : P[i]? = some x) (n : ∀ g, T[i]? = some g → asleep g = false) : (backG T P)[i]? = some x := by
  rw [backG_get, e]
  cases z : T[i]? with
  | none => rfl
  | some g =>
    show some (if asleep g = true then g else x) = some x
    rw [n g z]
    rfl
theorem Slp.seen {T P : GTab} (h : Slp T P) {i : Nat} {x : GenState} (e : P[i]? = some x) : ∃ y, (backG T P)[i]? = some y ∧ y.seen = x.seen := by
  rw [backG_get, e]
  cases z : T[i]? with
  | none => exact ⟨x, rfl, rfl⟩
  | some g =>
    by_cases a : asleep g = true
    · refine ⟨g, by show some (if asleep g = true then g else x) = some g; rw [if_pos a], ?_⟩
      have y := h.st i g z a
      rw [e] at y
      cases y
      exact (stuckG_seen g).symm
    · exact ⟨x, by show some (if asleep g = true then g else x) = some x; rw [if_neg a], rfl⟩
theorem Slp.notSt {T P : GTab} (h : Slp T P) {i : Nat} {x : GenState} (e : P[i]? = some x) (a : asleep x = false) : ∀ g, T[i]? = some g → asleep g = false := fun g z => by
  cases q : asleep g with
  | false => rfl
  | true =>
    have y := h.st i g z q
    rw [e] at y
    cases y
    cases g with
    | suspended => cases a
    | _ => cases q
/-- another entry is written -/
theorem Slp.set {T P : GTab} (h : Slp T P) {i : Nat} (x : GenState) (n : ∀ g, T[i]? = some g → asleep g = false) (hx : ∀ k l c p fs cl, x = .suspended k l c p fs cl → splitAtGen fs = none) : Slp T (P.setIfInBounds i x) where
  st := fun j g z a => by
    by_cases e : i = j
    · subst e
      rw [n g z] at a
      cases a
    · rw [Array.getElem?_setIfInBounds_ne e]
      exact h.st j g z a
  fr := fun j k l c p fs cl e n2 => by
    by_cases q : i = j
    · subst q
      by_cases b : i < P.size
      · rw [Array.getElem?_setIfInBounds_self_of_lt b] at e
        exact hx k l c p fs cl (Option.some.inj e)
      · rw [Array.getElem?_eq_none (by rw [Array.size_setIfInBounds]; omega)] at e
        cases e
    · rw [Array.getElem?_setIfInBounds_ne q] at e
      exact h.fr j k l c p fs cl e n2
theorem backG_set {T P : GTab} {i : Nat} (x : GenState) (n : ∀ g, T[i]? = some g → asleep g = false) : backG T (P.setIfInBounds i x) = (backG T P).setIfInBounds i x := by
  refine Array.ext_getElem? fun j => ?_
  rw [backG_get]
  by_cases e : i = j
  · subst e
    by_cases b : i < P.size
    · rw [Array.getElem?_setIfInBounds_self_of_lt b, Array.getElem?_setIfInBounds_self_of_lt (by rw [backG_size]; exact b)]
      cases z : T[i]? with
      | none => rfl
      | some g =>
        show some (if asleep g = true then g else x) = some x
        rw [n g z]
        rfl
    · rw [Array.getElem?_eq_none (xs := P.setIfInBounds i x) (by rw [Array.size_setIfInBounds]; omega), Array.getElem?_eq_none (xs := (backG T P).setIfInBounds i x) (by rw [Array.size_setIfInBounds, backG_size]; omega)]
      rfl
  · rw [Array.getElem?_setIfInBounds_ne e, Array.getElem?_setIfInBounds_ne e, backG_get]
theorem Slp.push {T P : GTab} (h : Slp T P) (c : Code) : Slp T (P.push (.fresh c)) ∧ backG T (P.push (.fresh c)) = (backG T P).push (.fresh c) := by
  have off : ∀ g, T[P.size]? = some g → asleep g = false := fun g z => by
    cases q : asleep g with
    | false => rfl
    | true =>
      have y := h.st _ g z q
      rw [Array.getElem?_eq_none (Nat.le_refl _)] at y
      cases y
  refine ⟨⟨fun j g z a => ?_, fun j k l c' p fs cl e n => ?_⟩, Array.ext_getElem? fun j => ?_⟩
  · have y := h.st j g z a
    have b : j < P.size := (Array.getElem?_eq_some_iff.mp y).1
    rw [Array.getElem?_push_lt b]
    rw [Array.getElem?_eq_getElem b] at y
    exact y
  · by_cases b : j < P.size
    · rw [Array.getElem?_push_lt b, ← Array.getElem?_eq_getElem b] at e
      exact h.fr j k l c' p fs cl e n
    · by_cases q : j = P.size
      · subst q
        rw [Array.getElem?_push_size] at e
        cases e
      · rw [Array.getElem?_eq_none (by rw [Array.size_push]; omega)] at e
        cases e
  · rw [backG_get]
    by_cases b : j < P.size
    · rw [Array.getElem?_push_lt b, Array.getElem?_push_lt (by rw [backG_size]; exact b), ← Array.getElem?_eq_getElem b, ← Array.getElem?_eq_getElem (by rw [backG_size]; exact b), backG_get]
    · by_cases q : j = P.size
      · subst q
        rw [Array.getElem?_push_size]
        have e : P.size = (backG T P).size := (backG_size T P).symm
        rw [e, Array.getElem?_push_size, ← e]
        cases z : T[P.size]? with
        | none => rfl
        | some g =>
          show some (if asleep g = true then g else .fresh c) = _
          rw [off g z]
          rfl
      · rw [Array.getElem?_eq_none (xs := P.push (.fresh c)) (by rw [Array.size_push]; omega), Array.getElem?_eq_none (xs := (backG T P).push (.fresh c)) (by rw [Array.size_push, backG_size]; omega)]
        rfl
def backS (T : GTab) (s : Shared) : Shared := { s with gens := backG T s.gens }
theorem backS_push {T : GTab} {s : Shared} {c : Code} (z : Slp T s.gens) : backS T { s with gens := s.gens.push (.fresh c) } = { backS T s with gens := (backS T s).gens.push (.fresh c) } := by
  unfold backS
  rw [(z.push c).2]
theorem backS_size (T : GTab) (s : Shared) : (backS T s).gens.size = s.gens.size := backG_size T s.gens
theorem backS_set {T : GTab} {g : Nat} (n : ∀ x, T[g]? = some x → asleep x = false) (u : Shared) (x : GenState) : backS T (u.setGen g x) = (backS T u).setGen g x := by
  unfold backS Shared.setGen
  rw [backG_set x n]
theorem Slp.susp {T P : GTab} (z : Slp T P) {g : Nat} {k : Resume → Sem PySem.Fin} {l : List Value} {c : Code} {p : Pos} {fs : List Frame} {cl : Bool} (q : P[g]? = some (.suspended k l c p fs cl)) : k = (fun _ => .unsupported "asleep") ∨ ∀ x, T[g]? = some x → asleep x = false := by
  by_cases hs : ∃ x, T[g]? = some x ∧ asleep x = true
  · obtain ⟨x, e1, e2⟩ := hs
    have y := z.st g x e1 e2
    rw [q] at y
    cases x with
    | suspended =>
      have y' := Option.some.inj y
      unfold stuckG at y'
      cases y'
      exact .inl rfl
    | _ => cases e2
  · refine .inr fun x e => ?_
    cases w : asleep x with
    | false => rfl
    | true => exact absurd ⟨x, e, w⟩ hs
theorem no_unsup0 {M : Model} {Γ : PySem.Ctx} {p : Pos} {w : String} {s s' : Shared} {e : End} (h : Runs M Γ p (.unsupported w) [] s e s') : False := by cases h
theorem no_unsup {M : Model} {Γ : PySem.Ctx} {p : Pos} {w : String} {fs : List Frame} {s s' : Shared} {e : End} (h : Runs M Γ p (.unsupported w) fs s e s') : False := by
  cases fs with
  | nil => exact no_unsup0 h
  | cons F fs =>
    cases h with
    | segRet h1 _ => exact no_unsup0 h1
    | segGen h1 _ => exact no_unsup0 h1
    | segSuspOut _ h1 => exact no_unsup0 h1
    | segSuspGen _ h1 _ _ => exact no_unsup0 h1
theorem split_app : ∀ {a b : List Frame}, splitAtGen a = none → splitAtGen b = none → splitAtGen (a ++ b) = none
  | [], _, _, h => h
  | .gen .. :: _, _, h, _ => by cases h
  | .ret .. :: a, b, h, h2 => by
    have h' : splitAtGen a = none := by
      unfold splitAtGen at h
      exact Option.map_eq_none_iff.mp h
    show (splitAtGen (a ++ b)).map _ = none
    rw [split_app h' h2]
    rfl
theorem split_tail {k : Result → Sem PySem.Fin} {h : Option Value} {g : Bool} {l kp : List Value} {c : Code} {p : Pos} {fs : List Frame} (e : splitAtGen (.ret k h g l c p kp :: fs) = none) : splitAtGen fs = none := by
  unfold splitAtGen at e
  exact Option.map_eq_none_iff.mp e
def EndFr : End → Prop
  | .ret _ => True
  | .susp _ _ _ _ _ _ fs => splitAtGen fs = none
theorem EndFr.gen {e : End} (h : EndFr e) : ∀ k l c p fs cl, e.genState = .suspended k l c p fs cl → splitAtGen fs = none := fun k l c p fs cl z => by
  cases e with
  | ret _ => cases z
  | susp v g l0 k0 c0 p0 fs0 =>
    have z' : GenState.suspended k0 l0 c0 p0 fs0 (g || fs0.any Frame.guarded) = .suspended k l c p fs cl := z
    cases z'
    exact h
theorem fr_none {x : GenState} (h : asleep x = false) : ∀ k l c p fs cl, x = .suspended k l c p fs cl → splitAtGen fs = none := fun k l c p fs cl z => by
  subst z
  cases h
theorem runs_back {M : Model} {T : GTab} {Γ : PySem.Ctx} {p : Pos} {t : Sem PySem.Fin} {fs : List Frame} {s s' : Shared} {e : End} (h : Runs M Γ p t fs s e s') :
    Slp T s.gens → splitAtGen fs = none → Slp T s'.gens ∧ EndFr e ∧ Runs M Γ p t fs (backS T s) e (backS T s') := by
  induction h with
  | done => exact fun z _ => ⟨z, trivial, .done⟩
  | raise => exact fun z _ => ⟨z, trivial, .raise⟩
  | again q _ ih => exact fun z f => let ⟨a, b, c⟩ := ih z f; ⟨a, b, .again q c⟩
  | rule _ ih => exact fun z f => let ⟨a, b, c⟩ := ih z f; ⟨a, b, .rule c⟩
  | «at» _ ih => exact fun z f => let ⟨a, b, c⟩ := ih z f; ⟨a, b, .at c⟩
  | load q _ ih => exact fun z f => let ⟨a, b, c⟩ := ih z f; ⟨a, b, .load q c⟩
  | update q _ ih => exact fun z f => let ⟨a, b, c⟩ := ih z f; ⟨a, b, .update q c⟩
  | loadIfAlive _ ih => exact fun z f => let ⟨a, b, c⟩ := ih z f; ⟨a, b, .loadIfAlive c⟩
  | point _ ih => exact fun z f => let ⟨a, b, c⟩ := ih z f; ⟨a, b, .point c⟩
  | alloc _ ih => exact fun z f => let ⟨a, b, c⟩ := ih z f; ⟨a, b, .alloc c⟩
  | fresh _ ih => exact fun z f => let ⟨a, b, c⟩ := ih z f; ⟨a, b, .fresh c⟩
  | ask _ ih => exact fun z f => let ⟨a, b, c⟩ := ih z f; ⟨a, b, .ask c⟩
  | choose q _ ih => exact fun z f => let ⟨a, b, c⟩ := ih z f; ⟨a, b, .choose q c⟩
  | os _ ih => exact fun z f => let ⟨a, b, c⟩ := ih z f; ⟨a, b, .os c⟩
  | handled _ ih => exact fun z f => let ⟨a, b, c⟩ := ih z f; ⟨a, b, .handled c⟩
  | stack _ ih => exact fun z f => let ⟨a, b, c⟩ := ih z f; ⟨a, b, .stack c⟩
  | thread _ ih => exact fun z f => let ⟨a, b, c⟩ := ih z f; ⟨a, b, .thread c⟩
  | genState q _ ih =>
    intro z f
    obtain ⟨a, b, c⟩ := ih z f
    obtain ⟨y, e1, e2⟩ := z.seen q
    rw [← e2] at c
    exact ⟨a, b, .genState e1 c⟩
  | newGen _ ih =>
    intro z f
    obtain ⟨a, b, d⟩ := ih (z.push _).1 f
    rw [backS_push z] at d
    refine ⟨a, b, .newGen ?_⟩
    rw [backS_size]
    exact d
  | call _ _ ih1 ih2 =>
    intro z f
    obtain ⟨a, _, c⟩ := ih1 z rfl
    obtain ⟨a', b', c'⟩ := ih2 a f
    exact ⟨a', b', .call c c'⟩
  | callSusp _ ih =>
    intro z f
    obtain ⟨a, b, c⟩ := ih z rfl
    exact ⟨a, split_app b rfl, .callSusp c⟩
  | yield => exact fun z _ => ⟨z, rfl, .yield⟩
  | resumeFresh q _ qt _ ih1 ih2 =>
    intro z f
    have n := z.notSt q rfl
    obtain ⟨a, b, c⟩ := ih1 (z.set .running n (fr_none rfl)) rfl
    obtain ⟨a', b', c'⟩ := ih2 (a.set _ n b.gen) f
    rw [backS_set n] at c c'
    exact ⟨a', b', .resumeFresh (z.awake q n) c qt c'⟩
  | resumeSuspended q r1 qt _ ih1 ih2 =>
    intro z f
    rcases z.susp q with rfl | n
    · exact (no_unsup r1).elim
    · obtain ⟨a, b, c⟩ := ih1 (z.set .running n (fr_none rfl)) (z.fr _ _ _ _ _ _ _ q n)
      obtain ⟨a', b', c'⟩ := ih2 (a.set _ n b.gen) f
      rw [backS_set n] at c c'
      exact ⟨a', b', .resumeSuspended (z.awake q n) c qt c'⟩
  | resumeJustStarted q v _ ih =>
    intro z f
    obtain ⟨a, b, c⟩ := ih z f
    exact ⟨a, b, .resumeJustStarted (z.awake q (z.notSt q rfl)) v c⟩
  | resumeThrowFresh q _ ih =>
    intro z f
    have n := z.notSt q rfl
    obtain ⟨a, b, c⟩ := ih (z.set .finished n (fr_none rfl)) f
    rw [backS_set n] at c
    exact ⟨a, b, .resumeThrowFresh (z.awake q n) c⟩
  | resumeRunning q _ ih =>
    intro z f
    obtain ⟨a, b, c⟩ := ih z f
    exact ⟨a, b, .resumeRunning (z.awake q (z.notSt q rfl)) c⟩
  | resumeFinished q _ ih =>
    intro z f
    obtain ⟨a, b, c⟩ := ih z f
    exact ⟨a, b, .resumeFinished (z.awake q (z.notSt q rfl)) c⟩
  | segRet _ _ ih1 ih2 =>
    intro z f
    obtain ⟨a, _, c⟩ := ih1 z rfl
    obtain ⟨a', b', c'⟩ := ih2 a (split_tail f)
    exact ⟨a', b', .segRet c c'⟩
  | segGen => exact fun z f => by cases f
  | segSuspOut q _ ih =>
    intro z f
    obtain ⟨a, b, c⟩ := ih z rfl
    exact ⟨a, split_app b f, .segSuspOut q c⟩
  | segSuspGen q => exact fun z f => by rw [f] at q; cases q
theorem wakes_at {M : Model} {Γ : PySem.Ctx} {p : Pos} {g : Nat} {r : Resume} {s s' : Shared} {res : GenResult} {x : GenState} (e : s.gens[g]? = some x) : Wakes M Γ p g r s res s' = (match (generalizing := false) x with
    | .fresh c =>
      match (generalizing := false) r with
      | .send .none => ∃ e₁ s₁, Runs M (Γ.wake c p) p (M.den c) [] (s.setGen g .running) e₁ s₁ ∧ e₁.quiet = true ∧ res = e₁.result ∧ s' = s₁.setGen g e₁.genState
      | .send _ => res = .justStarted ∧ s' = s
      | .throw x => res = .raised x ∧ s' = s.setGen g .finished
    | .suspended k₀ _ c₀ p₀ fs _ =>
      ∃ e₁ s₁, Runs M (Γ.wake c₀ p) p₀ (k₀ r) fs (s.setGen g .running) e₁ s₁ ∧ e₁.quiet = true ∧ res = e₁.result ∧ s' = s₁.setGen g e₁.genState
    | .running => res = .running ∧ s' = s
    | .finished => res = .finished ∧ s' = s) := by
  unfold Wakes
  rw [e]
  cases x <;> rfl
theorem wakes_back {M : Model} {T : GTab} {Γ : PySem.Ctx} {p : Pos} {g : Nat} {r : Resume} {s s' : Shared} {res : GenResult} (h : Wakes M Γ p g r s res s') (z : Slp T s.gens) : Slp T s'.gens ∧ Wakes M Γ p g r (backS T s) res (backS T s') := by
  unfold Wakes at h
  cases q : s.gens[g]? with
  | none =>
    rw [q] at h
    exact h.elim
  | some x =>
    rw [q] at h
    cases x with
    | fresh c =>
      have n := z.notSt q rfl
      rw [wakes_at (s := backS T s) (z.awake q n)]
      cases r with
      | throw x =>
        obtain ⟨rfl, rfl⟩ := h
        exact ⟨z.set .finished n (fr_none rfl), rfl, backS_set n _ _⟩
      | send v =>
        by_cases hv : v = .none
        · subst hv
          obtain ⟨e₁, s₁, hr, hq, rfl, rfl⟩ := h
          obtain ⟨a, b, c'⟩ := runs_back hr (z.set .running n (fr_none rfl)) rfl
          rw [backS_set n] at c'
          exact ⟨a.set _ n b.gen, e₁, backS T s₁, c', hq, rfl, backS_set n _ _⟩
        · have h' : res = .justStarted ∧ s' = s := by
            cases v <;> first | exact absurd rfl hv | exact h
          obtain ⟨rfl, rfl⟩ := h'
          refine ⟨z, ?_⟩
          cases v <;> first | exact absurd rfl hv | exact ⟨rfl, rfl⟩
    | suspended k0 l0 c0 p0 fs0 cl0 =>
      obtain ⟨e₁, s₁, hr, hq, rfl, rfl⟩ := h
      rcases z.susp q with rfl | n
      · exact (no_unsup hr).elim
      · rw [wakes_at (s := backS T s) (z.awake q n)]
        obtain ⟨a, b, c⟩ := runs_back hr (z.set .running n (fr_none rfl)) (z.fr _ _ _ _ _ _ _ q n)
        rw [backS_set n] at c
        exact ⟨a.set _ n b.gen, e₁, backS T s₁, c, hq, rfl, backS_set n _ _⟩
    | running =>
      rw [wakes_at (s := backS T s) (z.awake q (z.notSt q rfl))]
      obtain ⟨rfl, rfl⟩ := h
      exact ⟨z, rfl, rfl⟩
    | finished =>
      rw [wakes_at (s := backS T s) (z.awake q (z.notSt q rfl))]
      obtain ⟨rfl, rfl⟩ := h
      exact ⟨z, rfl, rfl⟩
theorem wp_back {α : Type} (M : Model) (Γ : PySem.Ctx) (T : GTab) (t : Sem α) : ∀ (Q : α → Pos → Shared → Prop) (E : Value → Pos → Shared → Prop) (p : Pos) (s : Shared), Slp T s.gens → wp M Γ t Q E p s →
    wp M Γ t (fun a p' s' => ∃ u, s' = backS T u ∧ Slp T u.gens ∧ Q a p' u) (fun e p' s' => ∃ u, s' = backS T u ∧ Slp T u.gens ∧ E e p' u) p (backS T s) := by
  induction t with
  | pure a => intro Q E p s z h; exact ⟨s, rfl, z, h⟩
  | raise e => intro Q E p s z h; exact ⟨s, rfl, z, h⟩
  | unsupported _ => intro Q E p s _ h; exact h
  | finish _ => intro Q E p s _ h; exact h
  | rule _ k ih => intro Q E p s z h; exact ih () Q E p s z h
  | «at» p' k ih => intro Q E p s z h; exact ih () Q E p' s z h
  | load a _ k ih => intro Q E p s z h; obtain ⟨o, ho, h⟩ := h; exact ⟨o, ho, ih o Q E p s z h⟩
  | update a _ f k ih => intro Q E p s z h; exact ⟨h.1, ih () Q E p { s with heap := s.heap.update a f } z h.2⟩
  | loadIfAlive a k ih => intro Q E p s z h; exact ih _ Q E p s z h
  | point _ k ih => intro Q E p s z h; exact ih () Q E p s z h
  | register _ _ => intro Q E p s _ h; exact h
  | alloc o k ih => intro Q E p s z h; exact ih s.heap.objs.size Q E p { s with heap := s.heap.push o } z h
  | fresh k ih => intro Q E p s z h; exact ih s.toks Q E p { s with toks := s.toks + 1 } z h
  | ask k ih => intro Q E p s z h; exact ih _ Q E p s z h
  | choose src m k ih => intro Q E p s z h; exact ⟨h.1, ih _ Q E p { s with drawn := s.drawn.bump src } z h.2⟩
  | os q _ k ih => intro Q E p s z h; exact ih _ Q E p { s with os := (Os.step s.os q).1 } z h
  | call c hd _ _ k ih =>
    intro Q E p s z h
    obtain ⟨r, s', hr, h⟩ := h
    obtain ⟨a, _, c⟩ := runs_back hr z rfl
    exact ⟨r, backS T s', c, ih r Q E p s' a h⟩
  | handled own k ih => intro Q E p s z h; exact ih _ Q E p s z h
  | genState g k ih =>
    intro Q E p s z h
    obtain ⟨st, hs, h⟩ := h
    obtain ⟨y, e1, e2⟩ := z.seen hs
    refine ⟨y, e1, ?_⟩
    rw [e2]
    exact ih _ Q E p s z h
  | newGen c k ih =>
    intro Q E p s z h
    have r := ih _ Q E p { s with gens := s.gens.push (.fresh c) } (z.push c).1 h
    rw [backS_push z] at r
    show wp M Γ (k (backS T s).gens.size) _ _ p { backS T s with gens := (backS T s).gens.push (.fresh c) }
    rw [backS_size]
    exact r
  | resume g r _ k ih =>
    intro Q E p s z h
    obtain ⟨res, s', hw, h⟩ := h
    obtain ⟨a, b⟩ := wakes_back hw z
    exact ⟨res, backS T s', b, ih res Q E p s' a h⟩
  | yield _ _ _ _ => intro Q E p s _ h; exact h
  | stack k ih => intro Q E p s z h; exact ih _ Q E p s z h
  | fork _ _ => intro Q E p s _ h; exact h
  | thread k ih => intro Q E p s z h; exact ih _ Q E p s z h
  | await _ _ _ _ _ => intro Q E p s _ h; exact h
/-- those that sleep in T stand so in T' -/
def Kept (T T' : GTab) : Prop := ∀ (i : Nat) g, T[i]? = some g → asleep g = true → T'[i]? = some g
theorem wpAny_asleep {α : Type} {M : Model} {A : Around} {s : Shared} {t : Sem α} {Q : α → Shared → Prop} {E : Value → Shared → Prop} (h : wpAny M A t Q E { s with gens := s.gens.map stuckG }) :
    wpAny M A t (fun a s' => ∃ P : GTab, Q a { s' with gens := P } ∧ Kept s.gens s'.gens ∧ (AllBare s.gens → AllBare P → AllBare s'.gens)) (fun e s' => ∃ P : GTab, E e { s' with gens := P } ∧ Kept s.gens s'.gens ∧ (AllBare s.gens → AllBare P → AllBare s'.gens)) s := by
  have eS : backS s.gens { s with gens := s.gens.map stuckG } = s := by
    unfold backS
    rw [backG_start]
  have fin : ∀ (u : Shared), Slp s.gens u.gens → Kept s.gens (backS s.gens u).gens ∧ (AllBare s.gens → AllBare u.gens → AllBare (backS s.gens u).gens) := fun u z => by
    refine ⟨fun i g e a => ?_, fun b1 b2 x hx => ?_⟩
    · show (backG s.gens u.gens)[i]? = some g
      rw [backG_get, z.st i g e a, e]
      show some (if asleep g = true then g else stuckG g) = some g
      rw [if_pos a]
    · obtain ⟨i, hi, e⟩ := Array.mem_iff_getElem.mp hx
      have e1 : (backS s.gens u).gens[i]? = some x := by rw [Array.getElem?_eq_getElem hi]; exact congrArg some e
      have e2 : (backG s.gens u.gens)[i]? = some x := e1
      rw [backG_get] at e2
      obtain ⟨y, e3, e4⟩ := Option.map_eq_some_iff.mp e2
      have by_ := b2 y (Array.mem_of_getElem? e3)
      cases w : s.gens[i]? with
      | none =>
        rw [w] at e4
        exact e4 ▸ by_
      | some g =>
        rw [w] at e4
        have e5 : (if asleep g = true then g else y) = x := e4
        split at e5
        · exact e5 ▸ b1 g (Array.mem_of_getElem? w)
        · exact e5 ▸ by_
  refine wpAny_mono (Q := fun a s' => ∃ u, s' = backS s.gens u ∧ Slp s.gens u.gens ∧ Q a u) (E := fun e s' => ∃ u, s' = backS s.gens u ∧ Slp s.gens u.gens ∧ E e u) (fun Γ p hΓ => ?_) ?_ ?_
  · have r := wp_back M Γ s.gens t _ _ p _ (Slp.start s.gens) (h Γ p hΓ)
    rw [eS] at r
    exact r
  · rintro a s' ⟨u, rfl, z, q⟩
    obtain ⟨k, b⟩ := fin u z
    exact ⟨u.gens, q, k, b⟩
  · rintro a s' ⟨u, rfl, z, q⟩
    obtain ⟨k, b⟩ := fin u z
    exact ⟨u.gens, q, k, b⟩
end Dl
set_option Elab.async false
set_option linter.all false
set_option maxRecDepth 100000
set_option maxHeartbeats 4000000
/-! A generator's code, woken from a loop: its context, laid anew at each waking. -/
namespace Dl
open PySem PySem.Spec PyProof.Rows L2
set_option autoImplicit false
/-- the heap up to an address -/
def trunc (h : Heap) (n : Nat) : Heap := { h with objs := (h.objs.toList.take n).toArray }
theorem trunc_get {h : Heap} {n b : Nat} (hb : b < n) : (trunc h n).get? b = h.get? b := by
  unfold trunc Heap.get?
  rw [show ((h.objs.toList.take n).toArray)[b]? = h.objs[b]? by
    rw [List.getElem?_toArray, List.getElem?_take_of_lt hb, Array.getElem?_toList]]
theorem trunc_lt {h : Heap} {n b : Nat} {o : Obj} (e : (trunc h n).get? b = some o) : b < n ∧ h.get? b = some o := by
  have l : b < (trunc h n).objs.size := Heap.lt_size e
  have l2 : b < n := by
    have z : (trunc h n).objs.size = min n h.objs.size := by
      unfold trunc
      simp
    omega
  exact ⟨l2, by rw [← e, trunc_get l2]⟩
theorem trunc_size {h : Heap} {n : Nat} (l : n ≤ h.objs.size) : (trunc h n).objs.size = n := by
  unfold trunc
  simp
  omega
/-- the context of the generator's code from a waking on: what lay below n0 then is the caller's -/
def gcx (X : Cx) (N : List Str) (env : Env) (A : Around) (n0 : Nat) (pn : List (Addr × Obj)) (s : Shared) (H : Hp) : Cx :=
  { prog := X.prog, w := X.w, K := X.K, mg := X.mg, base := X.base, A := A, N := N, s_0 := { s with heap := trunc s.heap n0 }, H_0 := H, env := env, outer := X.stack, stack := env :: X.stack, ex := [], fn := fun _ => true, calm := true, pn := pn, xe := fun _ _ => False }
structure GEnv (X : Cx) (env : Env) (A : Around) (n0 : Nat) (pins : List (Addr × Obj)) : Prop where
  kind : env.scope.kind = .function
  glob : env.globals = mainGlobals
  blt : env.builtins = builtinsNs
  loc : env.locals = n0
  frame : env.frame = some env.locals
  nocell : env.cells = []
  nokind : ∀ x, env.kindOf x ≠ some .cell ∧ env.kindOf x ≠ some .free
  hd : A.handled = none
  frames : A.frames = some (env :: X.stack)
  old : ∀ b ∈ frs X.stack, b < n0
  base : X.base.objs.size ≤ n0
  locs : X.env.locals < n0
  cells : ∀ x c, X.env.cells.lookup x = some c → c < n0
  s0 : X.s_0.heap.objs.size ≤ n0
  pin : ∀ p ∈ X.pn ++ pins, p.1 < n0
section
variable {X : Cx} {N : List Str} {env : Env} {A : Around} {n0 : Nat} {pins pins2 pn pg : List (Addr × Obj)} {σ σg : L2.St} {H : Hp} {s : Shared}
/-- the generator's own facts at a waking -/
structure GOwn (X : Cx) (N : List Str) (env : Env) (pn : List (Addr × Obj)) (σg : L2.St) (H : Hp) (h : Heap) : Prop where
  loc : ∃ m, h.Ns env.locals m ∧ ∀ (i : Nat) (x : Str) (v : V), N[i]? = some x → σg[i]? = some (some v) → Vis env.scope x → ∃ u, RelV v u ∧ Look env h m x u
  free : H env.locals = none
  pin : ∀ p ∈ pn, h.get? p.1 = some p.2 ∧ H p.1 = none ∧ p.1 ≠ env.locals ∧ p.1 ∉ frs X.stack ∧ ∀ v, p.2.data ≠ .cell v
  len : σg.length = N.length
theorem frs_fun {h base : Heap} : ∀ {l : List Env} {n0 : Nat}, h.FunFrames base l → (∀ b ∈ frs l, b < n0) → (trunc h n0).FunFrames base l
  | [], _, _, _ => trivial
  | e :: l, n0, hf, hb => by
    obtain ⟨hk, ⟨L, o, h1, h2, h3, h4⟩, hr⟩ := hf
    have hL : L < n0 := hb L (by unfold frs; rw [List.filterMap_cons, h1]; exact List.mem_cons_self)
    refine ⟨hk, ⟨L, o, h1, h2, by rw [trunc_get hL]; exact h3, h4⟩, frs_fun hr fun b z => hb b ?_⟩
    unfold frs
    rw [List.filterMap_cons, h1]
    exact List.mem_cons_of_mem _ z
theorem inv_gen (g : GEnv X env A n0 pins) (I : Inv X pins2 σ H s) (o : GOwn X N env pn σg H s.heap) (hn : n0 ≤ s.heap.objs.size) : Inv (gcx X N env A n0 pn s H) [] σg H s := by
  have noc : ∀ x c, env.cells.lookup x = some c → False := fun x c e => by
    rw [g.nocell] at e
    cases e
  refine ⟨⟨I.ok.mod, g.kind, g.glob, g.blt, ?_, fun x y c h _ => (noc x c h).elim, fun x h => ?_, fun x c _ h => (noc x c h).elim, fun _ => g.hd, g.frames, .inr ⟨rfl, g.frame⟩, fun b hb => (by cases hb), fun b u e => ?_, ?_, fun b u e hb => (by cases hb), fun b hb => (by cases hb), frs_fun I.stack g.old, fun b hb => I.stkFree b hb⟩,
    rfl, I.bare, ?_, o.loc, fun x c h => (noc x c h).elim, o.free, fun x c h => (noc x c h).elim, fun p hp => ?_, I.hok, o.len⟩
  · show (trunc s.heap n0).objs.size ≤ env.locals
    rw [trunc_size hn, g.loc]
    exact Nat.le_refl _
  · rcases h with h | h
    · exact absurd h (g.nokind x).1
    · exact absurd h (g.nokind x).2
  · obtain ⟨h1, h2⟩ := I.bs b u e
    refine ⟨?_, h2⟩
    show (trunc s.heap n0).get? b = some u
    rw [trunc_get (Nat.lt_of_lt_of_le (Heap.lt_size e) g.base)]
    exact h1
  · show X.base.objs.size ≤ (trunc s.heap n0).objs.size
    rw [trunc_size hn]
    exact g.base
  · exact Un.kept fun b u e => (trunc_lt e).2
  · have z : p ∈ pn := by
      rcases List.mem_append.mp hp with z | z
      · exact z
      · cases z
    exact o.pin p z
/-- back: what the caller knows -/
theorem inv_back {H' : Hp} {s' : Shared} (g : GEnv X env A n0 pins) (I : Inv X pins σ H s) (Ig : Inv (gcx X N env A n0 pn s H) pg σg H' s') (hn : n0 ≤ s.heap.objs.size) : Inv X pins σ H' s' := by
  have lo : ∀ b, b < s.heap.objs.size → b ∉ List.range' n0 (s.heap.objs.size - n0) → b < n0 := fun b h1 h2 => by
    refine Classical.byContradiction fun h3 => h2 ?_
    rw [List.mem_range'_1]
    omega
  have nofe : ∀ b : Addr, b ∉ (gcx X N env A n0 pn s H).ex := fun b hb => by cases hb
  refine I.call' (ch := List.range' n0 (s.heap.objs.size - n0)) Ig.os ⟨fun b o e n hf hx => ?_, fun b o e n hf hx => ?_, fun b o e n hx => ?_, fun b o e hx => ?_, Ig.base.tups, Ig.base.frzs, Ig.base.tbls⟩ Ig.hok Ig.bare fun b hb => ?_
  · exact Ig.base.keep b o (by show (trunc s.heap n0).get? b = _; rw [trunc_get (lo b (Heap.lt_size e) hx)]; exact e) n hf (nofe b)
  · exact Ig.base.slot b o (by show (trunc s.heap n0).get? b = _; rw [trunc_get (lo b (Heap.lt_size e) hx)]; exact e) n hf (nofe b)
  · exact Ig.base.free b o (by show (trunc s.heap n0).get? b = _; rw [trunc_get (lo b (Heap.lt_size e) hx)]; exact e) n (nofe b)
  · exact Ig.base.there b o (by show (trunc s.heap n0).get? b = _; rw [trunc_get (lo b (Heap.lt_size e) hx)]; exact e) (nofe b)
  · rw [List.mem_range'_1] at hb
    refine ⟨.inr (Nat.le_trans g.s0 hb.1), Nat.ne_of_gt (Nat.lt_of_lt_of_le g.locs hb.1), fun x c e => Nat.ne_of_lt (Nat.lt_of_lt_of_le (g.cells x c e) hb.1), fun p hp => Nat.ne_of_lt (Nat.lt_of_lt_of_le (g.pin p hp) hb.1)⟩
/-- the generator's own facts, later: its frame and its pins as they stood -/
theorem GOwn.later {h h' : Heap} {H' : Hp} (o : GOwn X N env pn σg H h) (nk : ∀ x, env.kindOf x ≠ some .cell ∧ env.kindOf x ≠ some .free) (hl : ∀ u, h.get? env.locals = some u → h'.get? env.locals = some u) (hf : H' env.locals = none)
    (hp : ∀ p ∈ pn, h'.get? p.1 = some p.2 ∧ H' p.1 = none) : GOwn X N env pn σg H' h' := by
  refine ⟨?_, hf, fun p z => ?_, o.len⟩
  · obtain ⟨m, h1, h2⟩ := o.loc
    refine ⟨m, h1.at' fun u e => hl u e, fun i x v e1 e2 e3 => ?_⟩
    obtain ⟨u, r, l⟩ := h2 i x v e1 e2 e3
    refine ⟨u, r, ?_⟩
    rcases l with l | ⟨l, _⟩
    · exact .inl l
    · rcases l with l | l
      · exact absurd l (nk x).1
      · exact absurd l (nk x).2
  · obtain ⟨_, _, h3, h4, h5⟩ := o.pin p z
    exact ⟨(hp p z).1, (hp p z).2, h3, h4, h5⟩
/-- .. out of the context -/
theorem GOwn.of {s0 : Shared} {H0 : Hp} (Ig : Inv (gcx X N env A n0 pn s0 H0) [] σg H s) : GOwn X N env pn σg H s.heap := by
  refine ⟨Ig.loc, Ig.free, fun p hp => ?_, Ig.len⟩
  exact Ig.pin p (List.mem_append_left _ hp)
/-- only the table of generators differs -/
theorem inv_gens {P : GTab} (I : Inv X pins σ H s) (b : AllBare P) : Inv X pins σ H { s with gens := P } := ⟨I.ok, I.os, b, I.base, I.loc, I.cell, I.free, I.freeC, I.pin, I.hok, I.len⟩
/-- nothing is let out -/
def Cx.mute (X : Cx) : Cx := { X with xe := fun _ _ => False }
theorem inv_mute (I : Inv X pins σ H s) : Inv (Cx.mute X) pins σ H s :=
  ⟨⟨I.ok.mod, I.ok.kind, I.ok.glob, I.ok.blt, I.ok.above, I.ok.inj, I.ok.has, I.ok.cab, I.ok.hd, I.ok.frames, I.ok.stk, I.ok.exf, I.ok.bs, I.ok.bsz, I.ok.noex, I.ok.exfs, I.ok.funs, I.ok.frf⟩, I.os, I.bare, I.base, I.loc, I.cell, I.free, I.freeC, I.pin, I.hok, I.len⟩
theorem inv_unmute (I : Inv (Cx.mute X) pins σ H s) : Inv X pins σ H s :=
  ⟨⟨I.ok.mod, I.ok.kind, I.ok.glob, I.ok.blt, I.ok.above, I.ok.inj, I.ok.has, I.ok.cab, I.ok.hd, I.ok.frames, I.ok.stk, I.ok.exf, I.ok.bs, I.ok.bsz, I.ok.noex, I.ok.exfs, I.ok.funs, I.ok.frf⟩, I.os, I.bare, I.base, I.loc, I.cell, I.free, I.freeC, I.pin, I.hok, I.len⟩
end
end Dl
set_option Elab.async false
set_option linter.all false
set_option maxRecDepth 100000
set_option maxHeartbeats 4000000
/-! A for loop within a generator's code. -/
namespace Dl
open PySem PySem.Spec PyProof.Rows L2 GenW
set_option autoImplicit false
section
variable {M : Model} {A : Around} {R : GenEnd} {Y : Protocol} {n : Nat} {s0 s : Shared} {c : Code} {fs : List Frame} {env : Env} {K : Flow → Sem PySem.Fin} {J : Value → Sem PySem.Fin} {gd : Bool → Bool} {lv : List Value → List Value}
/-- where the loop's call goes on -/
def forBack (env : Env) (K : Flow → Sem PySem.Fin) (J : Value → Sem PySem.Fin) (gd : Bool → Bool) (lv : List Value → List Value) (r : Result) : Sem PySem.Fin :=
  ((match r with | .ok f => (.pure f : Sem Flow) | .error e => .raise e).onRaise (cameBack env)).wrap K J gd lv
theorem seg_for {target iter : Expr} {body : List Stmt} {pos : Pos} (hs : ∀ x, foldedSetIterable iter env x = pure x)
    (h : wpAny M (A.over c fs) (eval iter env) (fun x s1 => wpAny M (A.over c fs) (pyIter x) (fun it s2 => ∀ p, Seg M A R Y n s0 (.forLoop target it body [] env) (M.den (.forLoop target it body [] env)) (.ret (forBack env K J gd lv) none (gd false) (lv []) c p [] :: fs) s2) (fun _ _ => False) s1) (fun _ _ => False) s) :
    Seg M A R Y n s0 c ((exec (.For target iter body [] pos) env).wrap K J gd lv) fs s := by
  rw [exec_For]
  refine seg_bind_wrap (wpAny_standAt ?_)
  refine seg_bind_wrap (wpAny_mono h (fun x s1 h1 => ?_) fun _ _ z => z.elim)
  refine seg_bind_wrap (wpAny_of_eq (hs x) ?_)
  refine seg_bind_wrap (wpAny_standAt ?_)
  refine seg_bind_wrap (wpAny_holding (wpAny_mono h1 (fun it s2 h2 => ?_) fun _ _ z => z.elim))
  exact seg_call h2
end
section
variable {prog : Program} {w : World} {A : Around} {R : GenEnd} {Y : Protocol} {n : Nat} {s0 s : Shared} {fs : List Frame} {env : Env}
def forOn (target : Expr) (it : Value) (body : List Stmt) (env : Env) : Flow → Sem PySem.Fin
  | .next => .pure (.again (.forLoop target it body [] env))
  | .cont => .pure (.again (.forLoop target it body [] env))
  | .brk => .pure (.done .next)
  | .ret v => .pure (.done (.ret v))
def forErr (env : Env) (e : Value) : Sem PySem.Fin := (do noteFrame e env; theTreesLotGoes e : Sem Unit).wrap (fun _ => .raise e) .raise id id
theorem seg_forLoop {target : Expr} {it : Value} {body : List Stmt}
    (h : wpAny (model prog w) (A.over (.forLoop target it body [] env) fs) (pyNext it) (fun r s1 => match r with
      | none => Seg (model prog w) A R Y n s0 (.block [] env) ((model prog w).den (.block [] env)) fs s1
      | some v => wpAny (model prog w) (A.over (.forLoop target it body [] env) fs) (letOwnedTupleGo target it v) (fun _ s2 => wpAny (model prog w) (A.over (.forLoop target it body [] env) fs) (assign target env v)
          (fun _ s3 => Seg (model prog w) A R Y n s0 (.forLoop target it body [] env) ((execs body env).wrap (forOn target it body env) (forErr env) id id) fs s3) (fun _ _ => False) s2) (fun _ _ => False) s1) (fun _ _ => False) s) :
    Seg (model prog w) A R Y n s0 (.forLoop target it body [] env) ((model prog w).den (.forLoop target it body [] env)) fs s := by
  show Seg _ A R Y n s0 _ ((forTurn target it body [] env).onRaise (fun x => do noteFrame x env; theTreesLotGoes x)) fs s
  unfold forTurn
  rw [Sem.onRaise_eq_wrap]
  refine seg_bind_wrap (wpAny_standAt ?_)
  refine seg_bind_wrap (wpAny_onRaise (wpAny_mono h (fun r s1 h1 => ?_) fun _ _ z => z.elim))
  cases r with
  | none => exact seg_again rfl h1
  | some v =>
    refine seg_bind_wrap (wpAny_mono h1 (fun _ s2 h2 => ?_) fun _ _ z => z.elim)
    refine seg_bind_wrap (wpAny_mono h2 (fun _ s3 h3 => ?_) fun _ _ z => z.elim)
    rw [Sem.bind_eq_wrap', Sem.wrap_wrap]
    rw [Sem.wrap_congr (execs body env) _ _ (K' := forOn target it body env) (H' := forErr env) (fun f => by cases f <;> rfl) (fun e => by first | exact Sem.bind_eq_wrap _ _ | (show (do noteFrame e env; theTreesLotGoes e : Sem Unit).bind (fun _ => .raise e) = _; rw [Sem.bind_eq_wrap]; rfl))]
    exact h3
/-- an empty block ends -/
theorem seg_block0 {k : Result → Sem PySem.Fin} {hm : Option Value} {g : Bool} {l kp : List Value} {c1 : Code} {p1 : Pos} (h : Seg (model prog w) A R Y n s0 c1 (k (.ok .next)) fs s) :
    Seg (model prog w) A R Y n s0 (.block [] env) ((model prog w).den (.block [] env)) (.ret k hm g l c1 p1 kp :: fs) s := by
  show Seg _ A R Y n s0 _ (((execs [] env).onRaise (fun x => do noteFrame x env; theTreesLotGoes x)) >>= fun f => pure (.done f)) _ s
  exact seg_leaf (.ok .next) h
end
end Dl
set_option Elab.async false
set_option linter.all false
set_option maxRecDepth 100000
set_option maxHeartbeats 4000000
/-! A loop over a generator whose code is «for t in it: yield e». -/
namespace Dl
open PySem PySem.Spec PyProof.Rows L2 GenW
set_option autoImplicit false
/-- the caller's loop at turn i; P: what the generator holds in the heap -/
def CInv (X : Cx) (pins : List (Addr × Obj)) (V : Nat → DSt → Gp → Prop) (Fl : Fp) (i : Nat) (P : List (Addr × Obj)) (s : Shared) : Prop :=
  ∃ F σ H sd G, FSame Fl F ∧ Inv X (pins ++ P) σ H s ∧ RS X.K F H G ∧ RepSt X.K F σ sd ∧ V i sd G
theorem CInv.gens {X : Cx} {pins : List (Addr × Obj)} {V : Nat → DSt → Gp → Prop} {Fl : Fp} {i : Nat} {P : List (Addr × Obj)} {s : Shared} {T : GTab} (h : CInv X pins V Fl i P s) (b : AllBare T) : CInv X pins V Fl i P { s with gens := T } := by
  obtain ⟨F, σ, H, sd, G, e, I, rs, st, v⟩ := h
  exact ⟨F, σ, H, sd, G, e, inv_gens I b, rs, st, v⟩
theorem CInv.low {X : Cx} {pins : List (Addr × Obj)} {V : Nat → DSt → Gp → Prop} {Fl Fm : Fp} {i : Nat} {P : List (Addr × Obj)} {s : Shared} (e : FSame Fl Fm) (h : CInv X pins V Fm i P s) : CInv X pins V Fl i P s := by
  obtain ⟨F, σ, H, sd, G, e2, I, rs, st, v⟩ := h
  exact ⟨F, σ, H, sd, G, e.trans e2, I, rs, st, v⟩
/-- an item comes out -/
def YP (X : Cx) (pins : List (Addr × Obj)) (V : Nat → DSt → Gp → Prop) (Fl : Fp) (D0 : DIt) (a : Addr) (go : Obj) : Protocol := fun n _ v s1 kap =>
  ∃ i P Fm, i + n + 1 = D0.n ∧ FSame Fl Fm ∧ (a, go) ∈ P ∧
    (∃ σ H sd G x y, Inv X (pins ++ P) σ H s1 ∧ RS X.K Fm H G ∧ RepSt X.K Fm σ sd ∧ V i sd G ∧ RelV x v ∧ Rep X.K Fm x y ∧ D0.item i y) ∧
    ∀ s', CInv X pins V Fm (i + 1) P s' → kap (.send .none) s' ∧ kap (.send (.bool true)) s'
abbrev RP (X : Cx) (pins : List (Addr × Obj)) (V : Nat → DSt → Gp → Prop) (Fl : Fp) (D0 : DIt) : GenEnd := fun n s₀ r s₁ => ((r = .ok (.ret .none) ∨ r = .ok .next) ∧ CInv X pins V Fl D0.n [] s₁) ∨ ∃ e, r = .error e ∧ False
/-- what the generator's def reads as: its walk, its target, its item; the frame's words U -/
structure GSem (n : Nat) (xs : List D) (D0 : DIt) (di : DTI) (g : DTG) (de : DTE) (IG : DIt) (U : Nat → DSt → Prop) : Prop where
  len : IG.n = D0.n
  here : ∀ G, D0.here G → IG.here G
  walk : ∀ G, D0.here G → di (dstart n xs) G (fun I' G' => I' = IG ∧ G' = G) X0
  u0 : U 0 (dstart n xs)
  turn : ∀ i d sg G, i < D0.n → D0.here G → IG.item i d → U i sg → g d sg G fun s2 G2 => de s2 G2 (fun y G3 => G3 = G ∧ D0.item i y ∧ U (i + 1) s2) X0
section
variable {X : Cx} {Nn : List Str} {env : Env} {n0 : Nat} {pins : List (Addr × Obj)} {V : Nat → DSt → Gp → Prop} {Fl : Fp} {D0 IG : DIt} {a : Addr} {go : Obj} {tg eG : Expr} {ep yp : Pos} {di : DTI} {g : DTG} {de : DTE} {xs : List D} {U : Nat → DSt → Prop}
theorem mem_frs {b : Addr} {σ : L2.St} {H : Hp} {s : Shared} (I : Inv X pins σ H s) (h : b ∈ X.fs) : b ∈ frs X.stack := by
  rcases I.ok.stk with e | ⟨e, hf⟩
  · rw [e]
    exact h
  · rw [e]
    unfold frs
    rw [List.filterMap_cons, hf]
    exact List.mem_cons_of_mem _ h
theorem ItR.mono {K : PySem.W.Frag} {F F1 : Fp} {J : It} {I : DIt} (r : ItR K F J I) (e : FSame F F1) : ItR K F1 J I := ⟨fun F' H G h => r.stop F' H G (e.trans h), fun F' H G i h => r.go F' H G i (e.trans h), fun F' H G i x H' h => r.yld F' H G i x H' (e.trans h)⟩
/-- the generator's turns from turn i on -/
theorem seg_turns (gv : GEnv X env (X.A.in1.deeper env) n0 pins) (han : n0 ≤ a) (hco : env.scope.isCoroutine = false) (hint : interactive env = false)
    (sem : GSem Nn.length xs D0 di g de IG U) (hV : ∀ i sd G, i ≤ D0.n → V i sd G → D0.here G)
    (hg : ∀ s H, DG (gcx X Nn env (X.A.in1.deeper env) n0 [(a, go)] s H) tg g) (he : ∀ s H, DE (gcx X Nn env (X.A.in1.deeper env) n0 [(a, go)] s H) W0 eG de)
    {it : Addr} {fp : List Addr} {tn : Nat → Heap → Prop} {J : It} {body : List Stmt} {p1 : Pos} {K1 : Flow → Sem PySem.Fin} {J1 : Value → Sem PySem.Fin} (hbd : body = [.Expr (.Yield (some eG) yp) ep])
    (T : Turn X.prog X.w X.K tg J fp it tn) (hfp : ∀ b ∈ fp, b ≠ env.locals ∧ b ∉ frs X.stack ∧ n0 ≤ b ∧ a ≠ b)
    {c0 : Code} {wb : List Stmt} (hc0 : c0 = .func wb env)
    (hend : ∀ s0 s, CInv X pins V Fl D0.n [] s → Seg (model X.prog X.w) X.A.in1 (RP X pins V Fl D0) (YP X pins V Fl D0 a go) 0 s0 c0 (K1 .next) [] s) :
    ∀ (k i : Nat) (s0 sb s : Shared) (F Fg : Fp) (σ σg : L2.St) (Hb Hg : Hp) (sd sg : DSt) (G : Gp), i + k = D0.n → FSame Fl F → Inv X pins σ Hb sb → n0 ≤ sb.heap.objs.size → RS X.K F Hb G → RepSt X.K F σ sd → V i sd G →
      FSame F Fg → Inv (gcx X Nn env (X.A.in1.deeper env) n0 [(a, go)] sb Hb) [] σg Hg s → RS X.K Fg Hg G → RepSt X.K Fg σg sg → U i sg → tn i s.heap → (∀ b ∈ fp, Hg b = none) → ItR X.K Fg J IG →
      Seg (model X.prog X.w) X.A.in1 (RP X pins V Fl D0) (YP X pins V Fl D0 a go) k s0 (.forLoop tg (.ref it) body [] env) ((model X.prog X.w).den (.forLoop tg (.ref it) body [] env)) [.ret (forBack env K1 J1 id id) none false [] c0 p1 []] s := by
  have ov : X.A.in1.over (.forLoop tg (.ref it) body [] env) [.ret (forBack env K1 J1 id id) none false [] c0 p1 []] = X.A.in1.deeper env := by
    rw [over_loop rfl rfl, hc0]
    exact over_func
  intro k
  induction k with
  | zero =>
    intro i s0 sb s F Fg σ σg Hb Hg sd sg G hi e0 I hn rs st v eg Ig rsg stg u htn hnone itr
    have hi' : i = D0.n := by omega
    subst hi'
    have fpok : ∀ b ∈ fp, FpOk (gcx X Nn env (X.A.in1.deeper env) n0 [(a, go)] sb Hb) [] Hg b := fun b hb => by
      obtain ⟨h1, h2, h3, h4⟩ := hfp b hb
      refine ⟨hnone b hb, h1, h2, .inr ?_, fun x c e => ?_, fun p hp => ?_⟩
      · show (trunc sb.heap n0).objs.size ≤ b
        rw [trunc_size hn]
        exact h3
      · have e' : env.cells.lookup x = some c := e
        rw [gv.nocell] at e'
        cases e'
      · have hp' : p ∈ [(a, go)] := by
          rcases List.mem_append.mp hp with z | z
          · exact z
          · cases z
        rw [List.mem_singleton.mp hp']
        exact h4
    refine seg_forLoop ?_
    rw [ov]
    refine wpAny_mono (T.done (gcx X Nn env (X.A.in1.deeper env) n0 [(a, go)] sb Hb) rfl rfl rfl rfl D0.n [] s σg Hg (fun _ _ => False) Ig fpok htn ?_) (fun r s1 hr => ?_) fun _ _ z => z
    · have z := itr.stop Fg Hg G (FSame.refl Fg) rsg (sem.here G (hV _ _ _ (Nat.le_refl _) v))
      rw [sem.len] at z
      exact z
    · obtain ⟨rfl, I1⟩ := hr
      refine seg_block0 ?_
      have I2 := inv_back gv I I1 hn
      have z := hend s0 s1 ⟨Fg, σ, Hg, sd, G, e0.trans eg, by rw [List.append_nil]; exact I2, rsg, st.mono eg, v⟩
      exact z
  | succ k ih =>
    intro i s0 sb s F Fg σ σg Hb Hg sd sg G hi e0 I hn rs st v eg Ig rsg stg u htn hnone itr
    have hlt : i < D0.n := by omega
    have hgc : gcx X Nn env (X.A.in1.deeper env) n0 [(a, go)] sb Hb = gcx X Nn env (X.A.in1.deeper env) n0 [(a, go)] sb Hb := rfl
    have fpok : ∀ {H' : Hp}, (∀ b ∈ fp, H' b = none) → ∀ b ∈ fp, FpOk (gcx X Nn env (X.A.in1.deeper env) n0 [(a, go)] sb Hb) [] H' b := fun {H'} hz b hb => by
      obtain ⟨h1, h2, h3, h4⟩ := hfp b hb
      refine ⟨hz b hb, h1, h2, .inr ?_, fun x c e => ?_, fun p hp => ?_⟩
      · show (trunc sb.heap n0).objs.size ≤ b
        rw [trunc_size hn]
        exact h3
      · have e' : env.cells.lookup x = some c := e
        rw [gv.nocell] at e'
        cases e'
      · have hp' : p ∈ [(a, go)] := by
          rcases List.mem_append.mp hp with z | z
          · exact z
          · cases z
        rw [List.mem_singleton.mp hp']
        exact h4
    have hereG := hV i sd G (Nat.le_of_lt hlt) v
    obtain ⟨tgt, pgt, agt⟩ := (hg sb Hb).ex
    obtain ⟨te, pe, ae⟩ := (he sb Hb).ex
    refine seg_forLoop ?_
    rw [ov]
    refine wpAny_mono (T.item (gcx X Nn env (X.A.in1.deeper env) n0 [(a, go)] sb Hb) rfl rfl rfl rfl i [] s σg Hg (fun _ _ => False) Ig (fpok hnone) htn ?_) (fun r s1 hr => ?_) fun _ _ z => z
    · exact itr.go Fg Hg G i (FSame.refl Fg) rsg (sem.here G hereG) (by rw [sem.len]; exact hlt)
    obtain ⟨w, rfl, h1⟩ := hr
    refine wpAny_mono h1 (fun _ s2 h2 => ?_) fun _ _ z => z
    obtain ⟨x, H2, I2, rx, hy, tn2, no2⟩ := h2
    obtain ⟨F2, d, e2, rs2, rd, hd⟩ := itr.yld Fg Hg G i x H2 (FSame.refl Fg) rsg (sem.here G hereG) (by rw [sem.len]; exact hlt) hy
    have I2p := I2.pinned (fpok no2) (T.obj _ _ tn2)
    have gturn := sem.turn i d sg G hlt hereG hd u
    refine wpAny_mono (pgt.run _ s2 σg H2 x w (fun σ3 H3 => ∃ F3 s3 G3, FSame F2 F3 ∧ RS X.K F3 H3 G3 ∧ RepSt X.K F3 σ3 s3 ∧ de s3 G3 (fun y G4 => G4 = G ∧ D0.item i y ∧ U (i + 1) s3) X0) I2p rx ?_) (fun _ s3 h3 => ?_) fun _ _ z => z
    · exact agt F2 σg H2 sg G x d _ _ rs2 (stg.mono e2) rd gturn fun F3 H3 G3 σ3 s3 e3 rs3 st3 q3 => ⟨F3, s3, G3, e3, rs3, st3, q3⟩
    obtain ⟨σ3, H3, I3, F3, sg3, G3, e3, rs3, st3, q3⟩ := h3
    rw [hbd]
    refine seg_execs_cons ?_
    refine seg_Expr_Yield rfl rfl rfl ?_ hco hint
    rw [← hbd, ov]
    refine wpAny_mono (pe.run _ s3 σ3 H3 (fun y H4 => ∃ F4 yd, FSame F3 F4 ∧ RS X.K F4 H4 G ∧ Rep X.K F4 y yd ∧ D0.item i yd ∧ U (i + 1) sg3) I3 ?_) (fun vv s4 h4 => ?_) fun _ _ z => z.elim
    · refine ae F3 σ3 H3 sg3 G3 _ X0 _ rs3 st3 q3 (fun F4 H4 G4 y yd e4 rs4 ry q4 => ?_) cx0
      obtain ⟨rfl, h5, h6⟩ := q4
      exact ⟨F4, yd, e4, rs4, ry, h5, h6⟩
    obtain ⟨y, H4, I4, ry, F4, yd, e4, rs4, rep4, item4, u4⟩ := h4
    intro kap hk
    have eF4 : FSame F F4 := ((eg.trans e2).trans e3).trans e4
    have I4c : Inv X pins σ H4 s4 := inv_back gv I I4 hn
    have o4 : GOwn X Nn env [(a, go)] σ3 H4 s4.heap := ⟨I4.loc, I4.free, fun p hp => I4.pin p (List.mem_append_left _ hp), I4.len⟩
    obtain ⟨oL, hoL, hdL⟩ : ∃ oL, s4.heap.get? env.locals = some oL ∧ ∀ v, oL.data ≠ .cell v := by
      obtain ⟨m, ⟨o, es, ep, h1, h2, _⟩, _⟩ := I4.loc
      exact ⟨o, h1, fun v q => by rw [h2] at q; cases q⟩
    have hP : ∀ p ∈ pins ++ ([(a, go), (env.locals, oL)] ++ pinsAt fp s2.heap), s4.heap.get? p.1 = some p.2 ∧ H4 p.1 = none ∧ p.1 ≠ X.env.locals ∧ p.1 ∉ X.fs ∧ ∀ v, p.2.data ≠ .cell v := fun p hp => by
      have big : ∀ b : Addr, n0 ≤ b → b ≠ X.env.locals ∧ b ∉ X.fs := fun b hb => ⟨fun z => absurd (Nat.lt_of_lt_of_le gv.locs (z ▸ hb)) (Nat.lt_irrefl _), fun z => absurd (Nat.lt_of_lt_of_le (gv.old b (mem_frs I z)) hb) (Nat.lt_irrefl _)⟩
      rcases List.mem_append.mp hp with z | z
      · exact I4c.pin p (List.mem_append_right _ z)
      · rcases List.mem_append.mp z with z | z
        · rcases List.mem_cons.mp z with z | z
          · rw [z]
            obtain ⟨h1, h2, _, _, h5⟩ := I4.pin (a, go) (List.mem_append_left _ (List.mem_singleton.mpr rfl))
            exact ⟨h1, h2, (big a han).1, (big a han).2, h5⟩
          · rw [List.mem_singleton.mp z]
            have hL : n0 ≤ env.locals := by rw [gv.loc]; exact Nat.le_refl _
            exact ⟨hoL, I4.free, (big _ hL).1, (big _ hL).2, hdL⟩
        · obtain ⟨h1, h2, _, _, h5⟩ := I4.pin p (List.mem_append_right _ z)
          have hb := (hfp p.1 (of_pinsAt z).1).2.2.1
          exact ⟨h1, h2, (big _ hb).1, (big _ hb).2, h5⟩
    refine ⟨i, [(a, go), (env.locals, oL)] ++ pinsAt fp s2.heap, F4, by omega, e0.trans eF4, List.mem_append_left _ List.mem_cons_self, ⟨σ, H4, sd, G, y, yd, I4c.pins_of hP, rs4, st.mono eF4, v, ry, rep4, item4⟩, fun s' hs' => ?_⟩
    have go_ : Seg (model X.prog X.w) X.A.in1 (RP X pins V Fl D0) (YP X pins V Fl D0 a go) k s' (.forLoop tg (.ref it) body [] env) (.pure (.again (.forLoop tg (.ref it) body [] env))) [.ret (forBack env K1 J1 id id) none false [] c0 p1 []] s' := by
      refine seg_again rfl ?_
      obtain ⟨F', σ', H', sd', G', e', I', rs', st', v'⟩ := hs'
      have pn' : ∀ p ∈ [(a, go), (env.locals, oL)] ++ pinsAt fp s2.heap, s'.heap.get? p.1 = some p.2 ∧ H' p.1 = none := fun p hp => by
        obtain ⟨h1, h2, _⟩ := I'.pin p (List.mem_append_right _ (List.mem_append_right _ hp))
        exact ⟨h1, h2⟩
      have I'0 : Inv X pins σ' H' s' := I'.unpinned
      have hL' := pn' (env.locals, oL) (List.mem_append_left _ (List.mem_cons_of_mem _ (List.mem_singleton.mpr rfl)))
      have ha' := pn' (a, go) (List.mem_append_left _ List.mem_cons_self)
      have own' : GOwn X Nn env [(a, go)] σ3 H' s'.heap := o4.later gv.nokind (fun q hq => by rw [hoL] at hq; cases hq; exact hL'.1) hL'.2 fun p hp => by
        rw [List.mem_singleton.mp hp]
        exact ha'
      have hn' : n0 ≤ s'.heap.objs.size := Nat.le_trans han (Nat.le_of_lt (Heap.lt_size ha'.1))
      have Ig' := inv_gen gv I'0 own' hn'
      have tobj : ∀ b ∈ fp, ∃ o, s2.heap.get? b = some o ∧ (b, o) ∈ [(a, go), (env.locals, oL)] ++ pinsAt fp s2.heap := fun b hb => by
        obtain ⟨o, e, _⟩ := T.obj _ _ tn2 b hb
        exact ⟨o, e, List.mem_append_right _ (mem_pinsAt hb e)⟩
      refine ih (i + 1) s' s' s' F' F' σ' σ3 H' H' sd' sg3 G' (by omega) ((e0.trans eF4).trans e') I'0 hn' rs' st' v' (FSame.refl F') Ig' rs' (st3.mono (e4.trans e')) u4 (T.keep _ _ _ tn2 fun b hb o e => ?_) (fun b hb => ?_) (itr.mono ((((e2.trans e3).trans e4)).trans e'))
      · obtain ⟨o2, h1, h2⟩ := tobj b hb
        rw [e] at h1
        cases h1
        exact (pn' (b, o) h2).1
      · obtain ⟨o2, h1, h2⟩ := tobj b hb
        exact (pn' (b, o2) h2).2
    exact ⟨hk .none s' go_, hk (.bool true) s' go_⟩
end
end Dl
set_option Elab.async false
set_option linter.all false
set_option maxRecDepth 100000
set_option maxHeartbeats 4000000
/-! The loop over such a generator. -/
namespace Dl
open PySem PySem.Spec PyProof.Rows L2 GenW
set_option autoImplicit false
/-- code that lets nothing out runs on while the sleepers sleep -/
theorem mute_asleep {α : Type} {M : Model} {A : Around} {t : Sem α} {s : Shared} {Z Z' : α → Shared → Prop} {E : Value → Shared → Prop} (h : wpAny M A t Z (fun _ _ => False) { s with gens := s.gens.map stuckG }) (b : AllBare s.gens)
    (hz : ∀ r s' (T : GTab), Z r { s' with gens := T } → (AllBare T → AllBare s'.gens) → Z' r s') : wpAny M A t (fun r s' => Z' r s' ∧ Kept s.gens s'.gens) E s :=
  wpAny_mono (wpAny_asleep h) (fun r s' ⟨T, z, k, bb⟩ => ⟨hz r s' T z (bb b), k⟩) fun _ _ ⟨_, z, _⟩ => z.elim
theorem stuck_bare {T : GTab} (b : AllBare T) : AllBare (T.map stuckG) := fun x hx => by
  obtain ⟨y, hy, e⟩ := Array.mem_map.mp hx
  rw [← e, stuckG_bare]
  exact b y hy
theorem sp_gens {X : Cx} {pins : List (Addr × Obj)} {D : Ends} {f : Flow} {s : Shared} {T : GTab} (h : SP (Cx.mute X) pins D f { s with gens := T }) (b : AllBare T → AllBare s.gens) : SP X pins D f s := by
  have go : ∀ {σ : L2.St} {H : Hp}, Inv (Cx.mute X) pins σ H { s with gens := T } → Inv X pins σ H s := fun {σ H} I => inv_gens (s := { s with gens := T }) (P := s.gens) (inv_unmute I) (b I.bare)
  cases f with
  | next => exact let ⟨σ, H, I, q⟩ := h; ⟨σ, H, go I, q⟩
  | brk => exact let ⟨σ, H, I, q⟩ := h; ⟨σ, H, go I, q⟩
  | cont => exact let ⟨σ, H, I, q⟩ := h; ⟨σ, H, go I, q⟩
  | ret u => exact let ⟨v, σ, H, I, r, q⟩ := h; ⟨v, σ, H, go I, r, q⟩
section
variable {X : Cx} {W : WX} {Nn : List Str} {env : Env} {n0 : Nat} {pins : List (Addr × Obj)} {V : Nat → DSt → Gp → Prop} {Fl : Fp} {D0 IG : DIt} {a : Addr} {go : Obj} {gn : Nat} {tg eG : Expr} {ep yp : Pos} {di : DTI} {g : DTG} {de : DTE} {xs : List D} {U : Nat → DSt → Prop}
/-- the generator as it is made -/
theorem goes_start (gv : GEnv X env (X.A.in1.deeper env) n0 pins) (han : n0 ≤ a) (hco : env.scope.isCoroutine = false) (hint : interactive env = false)
    (sem : GSem Nn.length xs D0 di g de IG U) (hV : ∀ i sd G, i ≤ D0.n → V i sd G → D0.here G)
    (hg : ∀ s H, DG (gcx X Nn env (X.A.in1.deeper env) n0 [(a, go)] s H) tg g) (he : ∀ s H, DE (gcx X Nn env (X.A.in1.deeper env) n0 [(a, go)] s H) W0 eG de) {iG : Expr} {fpos : Pos}
    (hi : ∀ s H, DI (gcx X Nn env (X.A.in1.deeper env) n0 [(a, go)] s H) W0 tg iG di) (hs : ∀ x, foldedSetIterable iG env x = pure x)
    {σg : L2.St} {H0 : Hp} {h0 : Heap} {oL : Obj} (own : GOwn X Nn env [(a, go)] σg H0 h0) (hoL : h0.get? env.locals = some oL) (sg : RepSt X.K Fl σg (dstart Nn.length xs)) (s : Shared) (hc : CInv X pins V Fl 0 [(a, go), (env.locals, oL)] s) :
    (GenState.fresh (.func [.For tg iG [.Expr (.Yield (some eG) yp) ep] [] fpos] env)).Goes (model X.prog X.w) X.A.in1 (RP X pins V Fl D0) (YP X pins V Fl D0 a go) D0.n (.send .none) s := by
  obtain ⟨F, σ, H, sd, G, e, I, rs, st, v⟩ := hc
  have pn : ∀ p ∈ [(a, go), (env.locals, oL)], s.heap.get? p.1 = some p.2 ∧ H p.1 = none := fun p hp => by
    obtain ⟨h1, h2, _⟩ := I.pin p (List.mem_append_right _ (List.mem_append_right _ hp))
    exact ⟨h1, h2⟩
  have ha := pn (a, go) List.mem_cons_self
  have hL := pn (env.locals, oL) (List.mem_cons_of_mem _ (List.mem_singleton.mpr rfl))
  have I0 : Inv X pins σ H s := I.unpinned
  have hn : n0 ≤ s.heap.objs.size := Nat.le_trans han (Nat.le_of_lt (Heap.lt_size ha.1))
  have own' : GOwn X Nn env [(a, go)] σg H s.heap := own.later gv.nokind (fun q hq => by rw [hoL] at hq; cases hq; exact hL.1) hL.2 fun p hp => by
    rw [List.mem_singleton.mp hp]
    exact ha
  have Ig := inv_gen gv I0 own' hn
  have hereG := hV 0 sd G (Nat.zero_le _) v
  obtain ⟨ti, pi_, ai⟩ := (hi s H).ex
  refine ⟨rfl, seg_func (seg_execs_cons (seg_for hs ?_))⟩
  rw [over_func]
  refine wpAny_mono (pi_.run [] s σg H (fun J H2 => ∃ F2, FSame F F2 ∧ RS X.K F2 H2 G ∧ ItR X.K F2 J IG) Ig ?_) (fun x s1 h1 => ?_) fun _ _ z => z
  · refine ai F σg H _ G _ X0 _ rs (sg.mono e) (sem.walk G hereG) (fun F2 H2 G2 J I2 e2 rs2 ir q2 => ?_) cx0
    obtain ⟨rfl, rfl⟩ := q2
    exact ⟨F2, e2, rs2, ir⟩
  · refine wpAny_mono h1 (fun it s2 h2 => ?_) fun _ _ z => z
    obtain ⟨it, fp, tn, J, H2, rfl, I2, T, st2, fpok, F2, e2, rs2, itr⟩ := h2
    intro p
    refine seg_turns gv han hco hint sem hV hg he rfl T (fun b hb => ?_) rfl (fun s0 s' hC => ?_) D0.n 0 s s s2 F F2 σ σg H H2 sd _ G (Nat.zero_add _) e I0 hn rs st v e2 I2 rs2 (sg.mono (e.trans e2)) sem.u0 st2 (fun b hb => (fpok b hb).1) itr
    · obtain ⟨_, h2, h3, h4, _, h6⟩ := fpok b hb
      refine ⟨h2, h3, ?_, h6 (a, go) (List.mem_append_left _ (List.mem_singleton.mpr rfl))⟩
      rcases h4 with z | z
      · cases z
      · have z' : (trunc s.heap n0).objs.size ≤ b := z
        rw [trunc_size hn] at z'
        exact z'
    · exact seg_end (.ok (.ret .none)) (.inl ⟨.inl rfl, hC⟩)
/-- where the caller's loop stands -/
def LI (X : Cx) (pins : List (Addr × Obj)) (V : Nat → DSt → Gp → Prop) (Fl : Fp) (D0 : DIt) (a : Addr) (go : Obj) (gn : Nat) (n : Nat) (s : Shared) : Prop :=
  ∃ i P gs Fm, i + n = D0.n ∧ FSame Fl Fm ∧ s.gens[gn]? = some gs ∧ (a, go) ∈ P ∧ CInv X pins V Fm i P s ∧ ∀ s', CInv X pins V Fm i P s' → gs.Goes (model X.prog X.w) X.A.in1 (RP X pins V Fl D0) (YP X pins V Fl D0 a go) n (.send .none) s'
theorem gen_loop {tgC : Expr} {bodyC : List Stmt} {gC : DTG} {d : DTS} {Dd : DEnds} {E : Ends} (po : PassesOwn (model X.prog X.w) X.A X.env X.xe) (hcalm : X.calm = true) (hroom : X.A.depth < recursionLimit)
    (hgo : ∃ nm qn, go.cls = .type "generator" ∧ go.data = .fields #[.int gn 0, nm, qn] ∧ go.slots = #[])
    (hg : DG (Cx.mute X) tgC gC) (hb : DSs (Cx.mute X) W0 bodyC d)
    (turn : ∀ i x s' G', i < D0.n → D0.item i x → V i s' G' → gC x s' G' fun s2 G2 => d { Dd with nx := V (i + 1), ct := V (i + 1), bk := Dd.nx, ex := fun _ _ _ => False } s2 G2) (done : ∀ s' G', V D0.n s' G' → Dd.nx s' G') (r : EndsR X.K Fl W Dd E)
    (s : Shared) (h : LI X pins V Fl D0 a go gn D0.n s) :
    codeAny (model X.prog X.w) X.A (.forLoop tgC (.ref a) bodyC [] X.env) (fun r s' => match r with | .ok f => SP X pins E f s' | .error e => cameBackBy (model X.prog X.w) X.A X.env X.xe e s') s := by
  obtain ⟨tgt, pgt, agt⟩ := hg.ex
  obtain ⟨tb, pb, ab⟩ := hb.ex
  refine codeAny_forLoop_any (LI X pins V Fl D0 a go gn) (fun n s1 hl => ?_) D0.n h
  obtain ⟨i, P, gs, Fm, hin, em, hgs, haP, hC, goes⟩ := hl
  obtain ⟨F, σ, H, sd, G, e, I, rs, st, v⟩ := id hC
  have hsz : gn < s1.gens.size := (Array.getElem?_eq_some_iff.mp hgs).1
  obtain ⟨nm, qn, hg1, hg2, hg3⟩ := hgo
  have isg : ∀ {h : Heap}, h.get? a = some go → h.IsGen a gn := fun {h} z => ⟨go, nm, qn, z, hg1, hg2, hg3⟩
  have ha := (I.pin (a, go) (List.mem_append_right _ (List.mem_append_right _ haP))).1
  refine wpAny_gsz (n := gn + 1) hsz ?_
  refine wpAny_mono (wpAny_passesOwn po (next_genG (Q := fun r s2 => gn + 1 ≤ s2.gens.size → _) (F := fun _ _ s2 => CInv X pins V Fl D0.n [] s2) (Er := fun _ _ => False) (Y := YP X pins V Fl D0 a go) (n := n) (I.ok.hd hcalm) I.nolimit hroom (isg ha) hgs (goes _ (hC.gens (allBare_setGen I.bare rfl))) (fun vv s2 gs2 hbare hy hsz2 => ?_) (fun s2 hc2 h2 hk _ => ?_) fun _ _ z => z.elim)) (fun r s2 z => z) fun e s2 z _ => z
  · -- an item
    obtain ⟨i2, P2, Fm2, hin2, em2, haP2, ⟨σ2, H2, sd2, G2, x, y, I2, rs2, st2, v2, rx, ry, item2⟩, prom⟩ := hy
    have hsz2' : gn < s2.gens.size := by
      rw [setGen_size] at hsz2
      exact hsz2
    have I2' : Inv X (pins ++ P2) σ2 H2 (s2.setGen gn gs2) := inv_gens I2 (allBare_setGen I2.bare hbare)
    have at2 : (s2.setGen gn gs2).gens[gn]? = some gs2 := setGen_at hsz2'
    have ha2 := (I2.pin (a, go) (List.mem_append_right _ (List.mem_append_right _ haP2))).1
    have hi2 : i2 < D0.n := by omega
    refine go_of (o := go) ha2 hg1 hg2 (by decide) ?_
    have tt := turn i2 y sd2 G2 hi2 item2 v2
    refine wpAny_passesOwn po (wpAny_mono (mute_asleep (Z := fun _ s3 => ∃ σ3 H3, Inv (Cx.mute X) (pins ++ P2) σ3 H3 s3 ∧ ∃ F3 s3d G3, FSame Fm2 F3 ∧ RS X.K F3 H3 G3 ∧ RepSt X.K F3 σ3 s3d ∧ d { Dd with nx := V (i2 + 1), ct := V (i2 + 1), bk := Dd.nx, ex := fun _ _ _ => False } s3d G3)
      (Z' := fun _ s3 => ∃ σ3 H3, Inv X (pins ++ P2) σ3 H3 s3 ∧ ∃ F3 s3d G3, FSame Fm2 F3 ∧ RS X.K F3 H3 G3 ∧ RepSt X.K F3 σ3 s3d ∧ d { Dd with nx := V (i2 + 1), ct := V (i2 + 1), bk := Dd.nx, ex := fun _ _ _ => False } s3d G3)
      (pgt.run (pins ++ P2) _ σ2 H2 x vv _ (inv_mute (inv_gens I2' (stuck_bare I2'.bare))) rx ?_) I2'.bare fun _ s3 T ⟨σ3, H3, I3, q3⟩ bb => ⟨σ3, H3, inv_gens (s := { s3 with gens := T }) (P := s3.gens) (inv_unmute I3) (bb I3.bare), q3⟩) (fun _ s3 h3 => ?_) fun _ _ z => z)
    · exact agt Fm2 σ2 H2 sd2 G2 x y _ _ rs2 st2 ry tt fun F3 H3 G3 σ3 s3 e3 rs3 st3 q3 => ⟨F3, s3, G3, e3, rs3, st3, q3⟩
    obtain ⟨⟨σ3, H3, I3, F3, s3d, G3, e3, rs3, st3, q3⟩, kept3⟩ := h3
    let E3 : Ends := { nx := fun σ' H' => ∃ F' s' G', FSame F3 F' ∧ RS X.K F' H' G' ∧ RepSt X.K F' σ' s' ∧ V (i2 + 1) s' G', rt := E.rt, bk := E.nx, ct := fun σ' H' => ∃ F' s' G', FSame F3 F' ∧ RS X.K F' H' G' ∧ RepSt X.K F' σ' s' ∧ V (i2 + 1) s' G' }
    have eA : FSame Fl F3 := em2.trans e3
    have body : tb E3 σ3 H3 := ab F3 σ3 H3 s3d G3 _ E3 rs3 st3 q3 ⟨fun F' H' G' σ' s' e' rs' st' q' => ⟨F', s', G', e', rs', st', q'⟩, r.rt.mono eA, fun _ _ _ _ _ _ _ _ _ _ _ _ z => z.elim, r.nx.mono eA, fun F' H' G' σ' s' e' rs' st' q' => ⟨F', s', G', e', rs', st', q'⟩⟩
    refine wpAny_passesOwn po (wpAny_mono (mute_asleep (Z := SP (Cx.mute X) (pins ++ P2) E3) (Z' := SP X (pins ++ P2) E3) (pb.run (pins ++ P2) _ σ3 H3 E3 (inv_mute (inv_gens I3 (stuck_bare I3.bare))) body) I3.bare fun f s4 T z bb => sp_gens z bb) (fun f s4 h4 => ?_) fun _ _ z => z)
    obtain ⟨h4, kept4⟩ := h4
    have again : ∀ {σ4 : L2.St} {H4 : Hp}, Inv X (pins ++ P2) σ4 H4 s4 → (∃ F' s' G', FSame F3 F' ∧ RS X.K F' H4 G' ∧ RepSt X.K F' σ4 s' ∧ V (i2 + 1) s' G') → ∃ m, m < n ∧ LI X pins V Fl D0 a go gn m s4 := fun {σ4 H4} I4 q4 => by
      obtain ⟨F4, s4d, G4, e4, rs4, st4, v4⟩ := q4
      have hC4 : CInv X pins V Fm2 (i2 + 1) P2 s4 := ⟨F4, σ4, H4, s4d, G4, e3.trans e4, I4, rs4, st4, v4⟩
      obtain ⟨p1, p2⟩ := prom s4 hC4
      cases n with
      | zero => exact p1.elim
      | succ m =>
        have sl : asleep gs2 = true := by
          cases gs2 with
          | suspended => rfl
          | fresh c =>
            have z := p2.1
            cases z
          | running => exact False.elim p1
          | finished => exact False.elim p1
        refine ⟨m, Nat.lt_succ_self m, i2 + 1, P2, gs2, Fm2, by omega, em2, kept4 gn gs2 (kept3 gn gs2 at2 sl) sl, haP2, hC4, fun s' hs' => (prom s' hs').1⟩
    cases f with
    | next => obtain ⟨σ4, H4, I4, q4⟩ := h4; exact again I4 q4
    | cont => obtain ⟨σ4, H4, I4, q4⟩ := h4; exact again I4 q4
    | brk => obtain ⟨σ4, H4, I4, q4⟩ := h4; exact ⟨σ4, H4, I4.unpinned, q4⟩
    | ret u => obtain ⟨y4, σ4, H4, I4, r4, q4⟩ := h4; exact ⟨y4, σ4, H4, I4.unpinned, r4, q4⟩
  · -- the end
    obtain ⟨F2, σ2, H2, sd2, G2, e2, I2, rs2, st2, v2⟩ := hc2
    rw [List.append_nil] at I2
    have I2' : Inv X pins σ2 H2 (s2.setGen gn .finished) := inv_gens I2 (allBare_setGen I2.bare rfl)
    exact wpAny_execs_nil ⟨σ2, H2, I2'.kept (t' := s2.toks) hk, r.nx F2 H2 G2 σ2 sd2 e2 rs2 st2 (done sd2 G2 v2)⟩
end
end Dl
set_option Elab.async false
set_option linter.all false
set_option maxRecDepth 100000
set_option maxHeartbeats 4000000
/-! The statement «for t in f(e, ..): ..», f a generator def. -/
namespace Dl
open PySem PySem.Spec PyProof.Rows L2 GenW
set_option autoImplicit false
/-- the context of a generator's code, over any caller -/
def gcx0 (P : Program) (w : World) (K : PySem.W.Frag) (mg : Str → Option Value) (base : Heap) (stack : List Env) (N : List Str) (env : Env) (A : Around) (n0 : Nat) (pn : List (Addr × Obj)) (s : Shared) (H : Hp) : Cx :=
  { prog := P, w := w, K := K, mg := mg, base := base, A := A, N := N, s_0 := { s with heap := trunc s.heap n0 }, H_0 := H, env := env, outer := stack, stack := env :: stack, ex := [], fn := fun _ => true, calm := true, pn := pn, xe := fun _ _ => False }
/-- a generator def «for t in it: yield e»: what it walks (gsp: from its arguments) -/
structure GCallee (P : Program) (w : World) (K : PySem.W.Frag) (mg : Str → Option Value) (base : Heap) (x : Str) (ps : List Str) (gsp : List D → DIt → Prop) : Prop where
  ex : ∃ (fd : FuncData) (qual : Str) (params : Arguments) (scope : Scope) (Nn : List Str) (tg iG eG : Expr) (ep yp fpos : Pos) (di : DTI) (g : DTG) (de : DTE),
    FunD K x qual params [.For tg iG [.Expr (.Yield (some eG) yp) ep] [] fpos] scope [] [] (He.ga K x) fd ∧ Binds K fd ps [] ∧ GScope Nn ps scope ∧ (∀ y ∈ scope.names, y.2 ≠ .cell ∧ y.2 ≠ .free) ∧
    (∀ (stack : List Env) (cdv : Value) (n0 : Nat) (A : Around) (pn : List (Addr × Obj)) (s : Shared) (H : Hp), DG (gcx0 P w K mg base stack Nn (envOfC qual scope n0 (He.ga K x) cdv) A n0 pn s H) tg g ∧
      DE (gcx0 P w K mg base stack Nn (envOfC qual scope n0 (He.ga K x) cdv) A n0 pn s H) W0 eG de ∧ DI (gcx0 P w K mg base stack Nn (envOfC qual scope n0 (He.ga K x) cdv) A n0 pn s H) W0 tg iG di) ∧
    (∀ (env : Env) (y : Value), env.scope = scope → foldedSetIterable iG env y = pure y) ∧ (∀ (n0 : Nat) (cdv : Value), interactive (envOfC qual scope n0 (He.ga K x) cdv) = false) ∧ ∀ xs D0, gsp xs D0 → xs.length = ps.length ∧ ∃ IG U, GSem Nn.length xs D0 di g de IG U
  g : mg x = some (.ref (He.ga K x))
  kp : PySem.W.keepIn K (.ref (He.ga K x)) = true
abbrev dForG (gsp : List D → DIt → Prop) (dA : DTA) (g : DTG) (b : DTS) : DTS := fun Dd s G => dA s G (fun xs G1 => ∃ I, gsp xs I ∧ forGo I g b { Dd with ex := fun _ _ _ => False } s G1) (fun x G1 => Dd.ex x s G1)
theorem cells_nil : ∀ (l : List (Str × NameKind)) (n : Nat), (∀ y ∈ l, y.2 ≠ .cell ∧ y.2 ≠ .free) → cellsFrom n l [] = []
  | [], _, _ => rfl
  | (x, k) :: l, n, h => by
    have hk := (h (x, k) List.mem_cons_self).1
    have z := cells_nil l n fun y hy => h y (List.mem_cons_of_mem _ hy)
    cases k <;> first | exact absurd rfl hk | exact z
/-- what a call of a generator def makes -/
structure GMadeD (X : Cx) (pins : List (Addr × Obj)) (σ : L2.St) (H : Hp) (Nn : List Str) (env : Env) (n0 : Nat) (wb : List Stmt) (vs : List V) (a : Addr) (go : Obj) (gn : Nat) (oL : Obj) (h0 : Heap) (s : Shared) : Prop where
  env_ : GEnv X env (X.A.in1.deeper env) n0 pins
  le : n0 ≤ a
  obj : ∃ nm qn, go.cls = .type "generator" ∧ go.data = .fields #[.int gn 0, nm, qn] ∧ go.slots = #[]
  gen : s.gens[gn]? = some (.fresh (.func wb env))
  own : GOwn X Nn env [(a, go)] (start Nn vs) H s.heap
  oL_ : s.heap.get? env.locals = some oL
  inv : Inv X (pins ++ [(a, go), (env.locals, oL)]) σ H s
  kept : ∀ b o, h0.get? b = some o → s.heap.get? b = some o
section
variable {X : Cx} {W : WX}
theorem gen_made {pins : List (Addr × Obj)} {σ : L2.St} {H : Hp} {s : Shared} {x qual : Str} {params : Arguments} {wb : List Stmt} {scope : Scope} {f : Addr} {fd : FuncData} {Nn ps : List Str} {k : Nat} {us : List Value} {vs : List V} (F : FunD X.K x qual params wb scope [] [] f fd) (hb : Binds X.K fd ps []) (S : GScope Nn ps scope) (hloc : ∀ y ∈ scope.names, y.2 ≠ .cell ∧ y.2 ≠ .free)
    (hr : Room (k + 3) X.A) (I : Inv X pins σ H s) (r : Vals vs us) (hl : vs.length = ps.length) :
    codeAny (model X.prog X.w) X.A (.call (.ref f) ⟨us, []⟩) (fun r s' => ∃ a cdv go gn oL, r = .ok (.ret (.ref a)) ∧ GMadeD X pins σ H Nn (envOfC qual scope s.heap.objs.size f cdv) s.heap.objs.size wb vs a go gn oL s.heap s') s := by
  obtain ⟨oc, od, dV, kV, doc, pm, an, cdv, ct, osl, rfl, lk, hcd, _, _⟩ := F.ex
  have KX := I.kIn
  have hlu : us.length = ps.length := by rw [← r.length]; exact hl
  have bt := hb s us KX (by rw [List.append_nil]; exact hlu)
  rw [List.append_nil] at bt
  have hkind : ∀ y ∈ ps.zip us, scope.names.lookup y.1 = some .local ∨ (scope.names.lookup y.1 = some .cell ∧ ((cellsFrom (s.heap.objs.size + 1) scope.names []).lookup y.1).isSome = true) := fun ⟨n, v⟩ hy => by
    rcases S.par n (List.of_mem_zip hy).1 with q | q
    · exact .inl q
    · exact .inr ⟨q, PySem.W.cellsFrom_some _ _ _ (.inl q)⟩
  have e0 := I.env0
  refine codeAny_call_generator hr.depth (KX _ _ lk) rfl S.co S.gen rfl (PySem.W.codeRec_of KX hcd) (bt _ _ _ _ ?_)
  refine wpAny_newFunctionEnv_cells S.kind hkind fun env he s1 ic => ?_
  subst he
  have st := inv_startG (N := Nn) (qual := qual) (f := f) (cd := cdv) (E := fun _ _ _ => False) S hr.hd e0 hl r ic
  obtain ⟨h1, tk, es1, hk1⟩ := ic.done
  have lim1 : s1.heap.NoLimit := I.nolimit.keeps ic.toInCall.keep
  refine ⟨lim1, ?_⟩
  have gen1 : s1.gens = s.gens := by rw [es1]
  have lt1 : s.heap.objs.size < s1.heap.objs.size := ic.toInCall.ns.lt
  have kp1 : ∀ b o, s.heap.get? b = some o → s1.heap.get? b = some o := ic.toInCall.keep
  have main : ∀ (go : Obj) (nm qn : Value) (tk2 : Nat), go.cls = .type "generator" → go.data = .fields #[.int s1.gens.size 0, nm, qn] → go.slots = #[] → (∀ h : Heap, (h.push go).get? h.objs.size = some go) →
      ∃ a cdv2 go2 gn oL, (Except.ok (Flow.ret (.ref s1.heap.objs.size)) : Result) = .ok (.ret (.ref a)) ∧ GMadeD X pins σ H Nn (envOfC qual scope s.heap.objs.size f cdv2) s.heap.objs.size wb vs a go2 gn oL s.heap
        { s1 with gens := s1.gens.push (.fresh (.func wb (envOfC qual scope s.heap.objs.size f cdv))), toks := tk2, heap := s1.heap.push go } := by
    intro go nm qn tk2 c1 c2 c3 c4
    have up : ∀ b o, s1.heap.get? b = some o → (s1.heap.push go).get? b = some o := fun b o e => Heap.get?_push_of_some _ e
    obtain ⟨m, hns, hlook⟩ := st.loc
    obtain ⟨oL, esL, epL, hoL, hdL, hrL⟩ := id hns
    have noc : (envOfC qual scope s.heap.objs.size f cdv).cells = [] := cells_nil scope.names _ hloc
    have nk : ∀ y, (envOfC qual scope s.heap.objs.size f cdv).kindOf y ≠ some .cell ∧ (envOfC qual scope s.heap.objs.size f cdv).kindOf y ≠ some .free := fun y => by
      refine ⟨fun e => ?_, fun e => ?_⟩
      · exact (hloc _ (PySem.mem_of_lookup (show scope.names.lookup y = some .cell from e))).1 rfl
      · exact (hloc _ (PySem.mem_of_lookup (show scope.names.lookup y = some .free from e))).2 rfl
    have olds : ∀ b ∈ frs X.stack, b < s.heap.objs.size := fun b hb => by
      rcases List.mem_cons.mp (I.stkSub b hb) with z | z
      · rw [z]
        exact I.lt
      · obtain ⟨_, o, ho, _⟩ := I.funs.mem z
        exact Heap.lt_size ho
    have gv : GEnv X (envOfC qual scope s.heap.objs.size f cdv) (X.A.in1.deeper (envOfC qual scope s.heap.objs.size f cdv)) s.heap.objs.size pins := by
      refine ⟨S.kind, rfl, rfl, rfl, rfl, noc, nk, ?_, ?_, olds, Nat.le_trans I.ok.bsz I.sz, I.lt, fun y c e => ?_, I.sz, fun p hp => Heap.lt_size (I.pin p hp).1⟩
      · exact ((hr.in1).deeper (k := k + 1) _).hd
      · exact Around.frames_deeper (show X.A.in1.frames = some X.stack from I.ok.frames)
      · obtain ⟨v, o, ho, _⟩ := I.cell y c e
        exact Heap.lt_size ho
    have Hn : ∀ b, s.heap.objs.size ≤ b → H b = none := fun b hb => I.hok.fresh hb
    have own : GOwn X Nn (envOfC qual scope s.heap.objs.size f cdv) [(s1.heap.objs.size, go)] (start Nn vs) H (s1.heap.push go) := by
      refine ⟨⟨m, hns.at' fun u e => up _ u e, fun i y v e1 e2 e3 => ?_⟩, Hn _ (Nat.le_refl _), fun p hp => ?_, st.len⟩
      · obtain ⟨u, ru, l⟩ := hlook i y v e1 e2 e3
        refine ⟨u, ru, ?_⟩
        rcases l with l | ⟨l, _⟩
        · exact .inl l
        · rcases l with l | l
          · exact absurd l (nk y).1
          · exact absurd l (nk y).2
      · rw [List.mem_singleton.mp hp]
        refine ⟨c4 _, Hn _ (Nat.le_of_lt lt1), Nat.ne_of_gt lt1, fun z => absurd (Nat.lt_trans (olds _ z) lt1) (Nat.lt_irrefl _), fun v q => ?_⟩
        rw [c2] at q
        cases q
    have Ik : Inv X pins σ H { s with heap := s1.heap.push go, toks := tk2 } := I.kept fun b o e => up b o (kp1 b o e)
    have bare : AllBare (s1.gens.push (.fresh (.func wb (envOfC qual scope s.heap.objs.size f cdv)))) := AllBare.push (by rw [gen1]; exact I.bare) rfl
    have Ig := inv_gens Ik bare
    have es : ({ s1 with gens := s1.gens.push (.fresh (.func wb (envOfC qual scope s.heap.objs.size f cdv))), toks := tk2, heap := s1.heap.push go } : Shared) = { { s with heap := s1.heap.push go, toks := tk2 } with gens := s1.gens.push (.fresh (.func wb (envOfC qual scope s.heap.objs.size f cdv))) } := by
      rw [es1]
    refine ⟨s1.heap.objs.size, cdv, go, s1.gens.size, oL, rfl, gv, Nat.le_of_lt lt1, ⟨nm, qn, c1, c2, c3⟩, Array.getElem?_push_size .., own, up _ _ hoL, ?_, fun b o e => up b o (kp1 b o e)⟩
    rw [es]
    refine Ig.pins_of fun p hp => ?_
    have big : ∀ b : Addr, s.heap.objs.size ≤ b → b ≠ X.env.locals ∧ b ∉ X.fs := fun b hb => ⟨fun z => absurd (Nat.lt_of_lt_of_le I.lt (z ▸ hb)) (Nat.lt_irrefl _), fun z => absurd (Nat.lt_of_lt_of_le (olds b (mem_frs I z)) hb) (Nat.lt_irrefl _)⟩
    rcases List.mem_append.mp hp with z | z
    · exact Ig.pin p (List.mem_append_right _ z)
    · rcases List.mem_cons.mp z with z | z
      · rw [z]
        exact ⟨c4 _, Hn _ (Nat.le_of_lt lt1), (big _ (Nat.le_of_lt lt1)).1, (big _ (Nat.le_of_lt lt1)).2, fun v q => by rw [c2] at q; cases q⟩
      · rw [List.mem_singleton.mp z]
        exact ⟨up _ _ hoL, Hn _ (Nat.le_refl _), (big _ (Nat.le_refl _)).1, (big _ (Nat.le_refl _)).2, fun v q => by rw [hdL] at q; cases q⟩
  exact main _ _ _ _ rfl rfl rfl fun h => Heap.get?_push_size _ rfl
theorem ds_forG {x : Str} {ps : List Str} {gsp : List D → DIt → Prop} {k : Nat} {tgC e : Expr} {es : List Expr} {bodyC : List Stmt} {p pos' pos : Pos} {dA : DTA} {gC : DTG} {d : DTS} (c : GCallee X.prog X.w X.K X.mg X.base x ps gsp) (hr : Room (k + 3) X.A)
    (po : PassesOwn (model X.prog X.w) X.A X.env X.xe) (ha : DA X W (e :: es) dA) (hg : DG (Cx.mute X) tgC gC) (hb : DSs (Cx.mute X) W0 bodyC d) (hgl : Gl X x := by rfl) (hc : X.calm = true := by rfl) (hdb : (x == ("__debug__" : Str)) = false := by decide)
    (he : starEach (e :: es) X.env = (false, eval e X.env) :: starEach es X.env := by rfl) (hpl : (backTo pos' (starEach es X.env)).any (·.1) = false := by rfl)
    (hs : ∀ y, foldedSetIterable (.Call (.Name x p) (e :: es) [] pos') X.env y = pure y := by intro _; rfl) :
    DS X W (.For tgC (.Call (.Name x p) (e :: es) [] pos') bodyC [] pos) (dForG gsp dA gC d) := by
  obtain ⟨⟨fd, qual, params, scope, Nn, tg, iG, eG, ep, yp, fpos, di, g, de, F, bd, S, hloc, hder, hfold, hint, hsem⟩, hm, hk⟩ := c
  obtain ⟨ta, pa, aa⟩ := ha.ex
  refine ⟨⟨tsOf X.K W (dForG gsp dA gC d), ⟨fun pins s σ H E I h => ?_⟩, fun F σ H s G Dd E rs st q r => ⟨F, s, G, Dd, rs, st, q, r⟩⟩⟩
  obtain ⟨Fr, sd, G, Dd, rs, st, q, r⟩ := h
  refine wpAny_For ?_ hs
  refine wpAny_Call_Name_kw (ld_glob I hgl hm ?_ hdb)
  refine PySem.W.callWith_K (h₀ := X.base) I.ok.mod.kin hk (thn (pa.run pos' pins s σ H (fun vs H1 => ∃ F1 G1 xs, FSame Fr F1 ∧ RS X.K F1 H1 G1 ∧ RepL X.K F1 vs xs ∧ ∃ D0, gsp xs D0 ∧ forGo D0 gC d { Dd with ex := fun _ _ _ => False } sd G1) I (aa Fr σ H sd G _ _ _ rs st q (fun F1 H1 G1 vs xs e1 rs1 rl q1 => ⟨F1, G1, xs, e1, rs1, rl, q1⟩) (r.ex.at_ st))) fun us s1 h1 => ?_) he hpl
  obtain ⟨vs, H1, I1, rv, F1, G1, xs, e1, rs1, rl, D0, hD0, V, v0, here, turn, done⟩ := h1
  refine ⟨I1.kIn, ?_⟩
  obtain ⟨hxs, IG, U, sem⟩ := hsem xs D0 hD0
  refine wpAny_call (codeAny_mono (gen_made F bd S hloc hr I1 rv (by rw [rl.length]; exact hxs)) fun rr s2 hq => ?_)
  obtain ⟨a, cdv, go, gn, oL, rfl, M⟩ := hq
  have dg := fun s H => (hder X.stack cdv s1.heap.objs.size (X.A.in1.deeper (envOfC qual scope s1.heap.objs.size (He.ga X.K x) cdv)) [(a, go)] s H).1
  have dE := fun s H => (hder X.stack cdv s1.heap.objs.size (X.A.in1.deeper (envOfC qual scope s1.heap.objs.size (He.ga X.K x) cdv)) [(a, go)] s H).2.1
  have dI := fun s H => (hder X.stack cdv s1.heap.objs.size (X.A.in1.deeper (envOfC qual scope s1.heap.objs.size (He.ga X.K x) cdv)) [(a, go)] s H).2.2
  obtain ⟨nm, qn, g1, g2, g3⟩ := M.obj
  have isg : s2.heap.IsGen a gn := ⟨go, nm, qn, (M.own.pin (a, go) (List.mem_singleton.mpr rfl)).1, g1, g2, g3⟩
  refine wpAny_pyIter_gen isg ?_
  have sg : RepSt X.K F1 (start Nn vs) (dstart Nn.length xs) := by
    have z := RepSt.start rl (Nn.length - xs.length)
    unfold L2.start dstart
    rw [rl.length]
    exact z
  refine gen_loop (Dd := Dd) (V := V) (Fl := F1) (D0 := D0) (go := go) (gn := gn) po hc hr.depth M.obj hg hb (fun i y s' G' hi it v => turn i y s' G' hi it v) done (r.mono e1) s2 ⟨0, [(a, go), ((envOfC qual scope s1.heap.objs.size (He.ga X.K x) cdv).locals, oL)], _, F1, Nat.zero_add _, FSame.refl F1, M.gen, List.mem_cons_self, ⟨F1, σ, H1, sd, G1, FSame.refl F1, M.inv, rs1, st.mono e1, v0⟩, fun s' hs' => ?_⟩
  exact goes_start M.env_ M.le S.co (hint _ _) sem here dg dE dI (hfold _ · rfl) M.own M.oL_ sg s' hs'
end
end Dl
set_option Elab.async false
set_option linter.all false
set_option maxRecDepth 100000
set_option maxHeartbeats 4000000
/-! What the expression «list(f(e, ..))» reads, f a generator def that hands out nothing (its rule: DlG0). -/
namespace Dl
open PySem PySem.Spec PyProof.Rows L2 GenW
set_option autoImplicit false
abbrev dListG0 (gsp : List D → DIt → Prop) (dA : DTA) : DTE := fun s G Q E => dA s G (fun xs G1 => ∃ I, gsp xs I ∧ I.n = 0 ∧ I.here G1 ∧ Q (.lst []) G1) E
end Dl
set_option Elab.async false
set_option linter.all false
set_option maxRecDepth 100000
set_option maxHeartbeats 4000000
/-! The statement «o[i] op= e», o a list. -/
namespace Dl
open PySem PySem.Spec PyProof.Rows L2 GenW
set_option autoImplicit false
def gIxM : G2 := fun x y G Q => match x, y with
  | .ref a, .int i => match G a with
    | some (.lst ds) => match atI ds i with
      | some d => Q d G
      | none => False
    | _ => False
  | _, _ => False
theorem gIxM_ref {a : Addr} {i : Int} {G : Gp} {Q : DK} : gIxM (.ref a) (.int i) G Q = match G a with
    | some (.lst ds) => match atI ds i with
      | some d => Q d G
      | none => False
    | _ => False := rfl
section
variable {X : Cx} {W : WX}
theorem get_list : PGet X (rIxL X.K) := by
  intro pins s σ H x y v u Q I rx ry h
  obtain ⟨p, xs, i, z, rfl, rfl, hq, he, q⟩ := h
  cases rx
  obtain ⟨t, rfl⟩ := ry
  obtain ⟨its, r, pl, hz⟩ := I.list hq
  obtain ⟨j, h1, h2, h3, h4, h5⟩ := L2.atI_get he
  obtain ⟨w, ew, rw'⟩ := r.get h2
  have hl := r.length
  have hn := line63
  have fin : EP X pins σ Q w s := ⟨z, H, I, rw', q⟩
  by_cases h0 : 0 ≤ i
  · have hj : i.toNat = j := by
      rw [seqIndex_of h0 h5] at h1
      exact Option.some.inj h1
    exact wpAny_getItem_list pl.isList h0 (by omega) (by rw [hj]; simpa using ew) fin
  · have hj : (i + (its.toArray.size : Int)).toNat = j := by
      rw [seqIndex_neg (by omega) h4] at h1
      rw [List.size_toArray, ← hl]
      exact Option.some.inj h1
    exact wpAny_getItem_list_neg pl.isList (by omega) (by rw [List.size_toArray] <;> omega) (by omega) (by rw [hj]; simpa using ew) fin
abbrev dAugS (do_ di dv : DTE) (g : G2) : DTS := fun Dd s G => do_ s G (fun o G1 => di s G1 (fun i G2 => gIxM o i G2 fun x G3 => dv s G3 (fun y G4 => g x y G4 fun z G5 => gSetL o i z G5 fun G6 => Dd.nx s G6) (fun x G1 => Dd.ex x s G1)) (fun x G1 => Dd.ex x s G1)) (fun x G1 => Dd.ex x s G1)
theorem ds_augS {o i e : Expr} {do_ di dv : DTE} {op : Operator} {g : G2} {tpos pos : Pos} (ho : DE X W o do_) (hi : DE X W i di) (he : DE X W e dv) (hp : DOp X (inplaceOp op) g)
    (ha : ∀ ov iv new, augStore i ov iv new = (do holding [new, ov, iv] (setItem ov iv new); release [new, ov, iv] []; pure .next) := by intros; rfl) : DS X W (.AugAssign (.Subscript o i tpos) op e pos) (dAugS do_ di dv g) := by
  obtain ⟨to, po, ao⟩ := ho
  obtain ⟨ti, pi_, ai⟩ := hi
  obtain ⟨te, pe, ae⟩ := he
  obtain ⟨r, hr, ar⟩ := hp
  refine ⟨⟨_, ps_augS po pi_ get_list pe hr set_list ha, fun F σ H s G Dd E rs st q re => ?_⟩⟩
  refine ao F σ H s G _ _ _ rs st q (fun F1 H1 G1 ov x e1 rs1 rx q1 => ?_) (re.ex.at_ st)
  refine ai F1 σ H1 s G1 _ _ _ rs1 (st.mono e1) q1 (fun F2 H2 G2 iv y e2 rs2 ry q2 => ?_) ((re.ex.at_ st).mono e1)
  cases rx with
  | ref a =>
    cases ry with
    | int k =>
      rw [gIxM_ref] at q2
      split at q2
      · rename_i ds ed
        split at q2
        · rename_i d eat
          obtain ⟨xs, h1, r1⟩ := (rs2.gf a _ ed).2
          obtain ⟨v, h2, r2⟩ := atI_rep r1 eat
          refine ⟨a, xs, k, v, rfl, rfl, .inl (.inl h1), h2, ?_⟩
          refine ae F2 σ H2 s G2 _ _ _ rs2 (st.mono (e1.trans e2)) q2 (fun F3 H3 G3 w z e3 rs3 rz q3 => ?_) ((re.ex.at_ st).mono (e1.trans e2))
          refine ar F3 H3 G3 v w d z _ _ rs3 (r2.mono e3) rz q3 fun F4 H4 G4 nw nz e4 rs4 rn q4 => ?_
          unfold gSetL at q4
          dsimp only at q4
          split at q4
          · rename_i ds2 eg
            split at q4
            · rename_i j ej
              obtain ⟨xs2, h3, r3⟩ := (rs4.gf a _ eg).2
              have ef : FSame F F4 := ((e1.trans e2).trans e3).trans e4
              refine ⟨a, xs2, k, j, rfl, rfl, h3, by rw [r3.length]; exact ej, ?_⟩
              exact re.nx F4 _ _ σ s ef (rs4.setG eg (o := .lst (xs2.set j nw)) (g := .lst (ds2.set j nz)) ⟨_, upd_same, r3.set rn j⟩) (st.mono ef) q4
            · exact q4.elim
          · exact q4.elim
        · exact q2.elim
      · exact q2.elim
    | _ => exact False.elim q2
  | _ => exact False.elim q2
end
/-! ### the block of a comprehension -/
/-- the environment, the context of a comprehension's block -/
abbrev envB (X : Cx) (scope : Scope) (s : Shared) : Env := compEnvC scope (cellsFrom (s.heap.objs.size + 1) scope.names (cloFrom X.env.cells scope.names [])) s.heap.objs.size X.env
abbrev cxB (X : Cx) (scope : Scope) (s : Shared) (H : Hp) (fp : List Addr) : Cx := X.blk s H scope (envB X scope s) fp
section
variable {X : Cx} {scope : Scope} {s0 : Shared} {H0 : Hp} {fp : List Addr}
theorem blk_one {pins : List (Addr × Obj)} {σ : St} {H : Hp} {s : Shared} {b : Addr} (I : Inv (cxB X scope s0 H0 fp) pins σ H s) (hb : b ∈ fp) (z : H b = none) (off : ∀ p ∈ pins, p.1 ≠ b) : FpOk (cxB X scope s0 H0 fp) pins H b := by
  obtain ⟨e1, e2⟩ := I.ok.exf b hb
  exact ⟨z, e1, I.ok.exfs b hb, Or.inl hb, e2, off⟩
theorem blk_fp {σ : St} {H : Hp} {s : Shared} (I : Inv (cxB X scope s0 H0 fp) [] σ H s) (none : ∀ b ∈ fp, H b = none) : ∀ b ∈ fp, FpOk (cxB X scope s0 H0 fp) [] H b :=
  fun b hb => blk_one I hb (none b hb) fun p hp => absurd hp List.not_mem_nil
theorem blk_exit {pins : List (Addr × Obj)} {σ σ1 : St} {H : Hp} {s : Shared} (I0 : Inv X pins σ H0 s0) (f0 : ∀ b ∈ fp, FpOk X pins H0 b) (I : Inv (cxB X scope s0 H0 fp) [] σ1 H s) :
    Inv X pins σ H s ∧ (∃ m, s.heap.Ns s0.heap.objs.size m) ∧ FpOk X pins H s0.heap.objs.size := by
  obtain ⟨m, hm, _⟩ := I.loc
  refine ⟨I0.call' (ch := fp) I.os I.base I.hok I.bare ?_, ⟨m, hm⟩, I0.fpOk (Nat.le_refl _) I.free⟩
  intro b hb
  obtain ⟨_, k1, _, k3, k4, k5⟩ := f0 b hb
  exact ⟨k3, k1, k4, k5⟩
theorem blk_next {P : Program} {w : World} {K : PySem.W.Frag} {tg : Expr} {J : It} {it : Addr} {fq : List Addr} {tn : Nat → Heap → Prop} {vs : List Nat} {ps : List (Addr × Obj)} {σ σ1 : St} {H : Hp} {s : Shared} {h : Heap} {j : Nat} (T : Turn P w K tg J fq it tn) (t : tn j h)
    (I : Inv (cxB X scope s0 H0 fp) ps σ1 H s) (sub : ∀ p ∈ pinsAt fq h, p ∈ ps) (e : wipe σ1 vs = wipe σ vs) : Inv (cxB X scope s0 H0 fp) [] (wipe σ vs) H s ∧ tn j s.heap ∧ ∀ b ∈ fq, H b = none := by
  have at_ : ∀ b ∈ fq, ∀ o, h.get? b = some o → s.heap.get? b = some o ∧ H b = none := fun b hb o g => by
    have z := I.pin (b, o) (List.mem_append.mpr (.inr (sub _ (mem_pinsAt hb g))))
    exact ⟨z.1, z.2.1⟩
  refine ⟨?_, T.keep j h s.heap t (fun b hb o g => (at_ b hb o g).1), fun b hb => ?_⟩
  · rw [← e]
    have I' : Inv (cxB X scope s0 H0 fp) ([] ++ ps) σ1 H s := I
    exact Inv.weak (I'.unpinned (pins := [])) (wipe_length σ1 vs) fun i v g => (wipe_some g).1
  · obtain ⟨o, g, _⟩ := T.obj j h t b hb
    exact (at_ b hb o g).2
end
/-! ### {e for target in iter if ..}: what stands in the set is told by C, what is put in by Add -/
section
variable {τ : Type}
def tSet (Add : τ → V → Hp → (τ → Prop) → Prop) (t0 : τ) (wi : TI) (g : TG) (tt : TT) (te : TE) (vs : List Nat) (σ : St) (H : Hp) (Qf : τ → Hp → Prop) : Prop :=
  wi σ H fun J H1 => ∃ W : Nat → Nat → τ → Hp → Prop, (∃ m, W 0 m t0 H1) ∧ ∀ i m t H, W i m t H →
    (J.stop i H ∧ Qf t H) ∨ (J.go i H ∧ ∃ Nx : τ → Hp → Prop, (∀ t' H', Nx t' H' → ∃ m', m' < m ∧ W (i + 1) m' t' H') ∧ ∀ x H', J.yld i H x H' → g x (wipe σ vs) H' fun σ2 H2 => wipe σ2 vs = wipe σ vs ∧ tt σ2 H2 fun b H3 =>
      if b = true then te σ2 H3 fun y H4 => Add t y H4 fun t' => Nx t' H4 else Nx t H3)
/-- the kind of set: kept while its object is, new, put in -/
structure SetK (X : Cx) (C : τ → Heap → Addr → Prop) (Add : τ → V → Hp → (τ → Prop) → Prop) (t0 : τ) : Prop where
  keep : ∀ t h h' a, C t h a → (∀ o, h.get? a = some o → h'.get? a = some o) → C t h' a
  obj : ∀ t h a, C t h a → ∃ o, h.get? a = some o ∧ ∀ v, o.data ≠ .cell v
  new : ∀ h : Heap, C t0 (h.push { cls := .type "set", dict := none, data := .set #[] 0 (.fresh 0 0 (!X.w.params.followText "set-order")) }) h.objs.size
  add : ∀ (s1 : Shared) (H1 : Hp) (scope : Scope) (fp : List Addr) (pins : List (Addr × Obj)) (σ : St) (H : Hp) (s : Shared) (t : τ) (y : V) (u : Value) (a : Addr) (N : τ → Prop) (Q : Value → Shared → Prop) (E : Value → Shared → Prop),
    Inv (cxB X scope s1 H1 fp) pins σ H s → C t s.heap a → RelV y u → Add t y H N → (∀ t' h' k, N t' → C t' h' a → Heap.SameBut a s.heap h' → Q .none { s with heap := h', toks := k }) →
    wpAny (model X.prog X.w) X.A (call (.builtin "set.add") [.ref a, u]) Q E s
variable {X : Cx} {C : τ → Heap → Addr → Prop} {Add : τ → V → Hp → (τ → Prop) → Prop} {t0 : τ}
theorem set_core (S : SetK X C Add t0) {pins : List (Addr × Obj)} {s : Shared} {σ : St} {H : Hp} {elt tg iter : Expr} {ifs : List Expr} {scope : Scope} {own : List (Str × Nat)} {pos : Pos} {wi : TI} {g : TG} {tt : TT} {te : TE} {Qf : τ → Hp → Prop}
    (hc : X.calm = true) (hN : X.N.Nodup) (I : Inv X pins σ H s) (hi : PI X tg iter wi) (ok : BlkOk X.N X.env.scope scope own)
    (hg : ∀ (s : Shared) (H : Hp) (C : Addr) (cl : List (Str × Addr)) (fp : List Addr), PG (X.blk s H scope (compEnvC scope cl C X.env) fp) tg g)
    (ht : ∀ (s : Shared) (H : Hp) (C : Addr) (cl : List (Str × Addr)) (fp : List Addr), PTs (X.blk s H scope (compEnvC scope cl C X.env) fp) ifs tt)
    (he : ∀ (s : Shared) (H : Hp) (C : Addr) (cl : List (Str × Addr)) (fp : List Addr), PE (X.blk s H scope (compEnvC scope cl C X.env) fp) elt te) (hs : ∀ x, foldedSetIterable iter X.env x = pure x)
    (h : tSet Add t0 wi g tt te (own.map (·.2)) σ H Qf) :
    wpAny (model X.prog X.w) X.A (eval (.SetComp elt [⟨tg, iter, ifs, 0⟩] scope pos) X.env) (fun u s' => ∃ D t H', u = .ref D ∧ Inv X pins σ H' s' ∧ C t s'.heap D ∧ H' D = none ∧ Qf t H') X.xe s := by
  rw [PpSet.eval_SetComp]
  have cells : ∀ y ∈ scope.names, y.2 = .free → ∃ c, X.env.cells.lookup y.1 = some c := fun y m e => I.ok.has _ (ok.free y m e)
  refine wpAny_comprehension_free (use := none) rfl hs (closure_ok cells) ok.kind (fun y m e => (ok.uniq y m).trans (congrArg some e)) (thn (hi.run pins s σ H _ I h) fun _ _ k => thn k fun itv s1 k => ?_)
  obtain ⟨it, fp, tn, J, H1, rfl, I1, T, t1, f1, W, ⟨m0, w0⟩, turn⟩ := k
  refine PpSet.newSet_ok (newEnv_comp ?_)
  have c0 := S.new s1.heap
  have dn : H1 s1.heap.objs.size = none := I1.hok.fresh (Nat.le_refl _)
  have fD : FpOk X pins H1 s1.heap.objs.size := I1.fpOk (Nat.le_refl _) dn
  have lt : ∀ b ∈ fp, b < s1.heap.objs.size := fun b hb => (T.obj 0 _ t1 b hb).elim fun _ z => Heap.lt_size z.1
  have keep2 : ∀ b o, s1.heap.get? b = some o → (s1.heap.push { cls := .type "set", dict := none, data := .set #[] 0 (.fresh 0 0 (!X.w.params.followText "set-order")) }).get? b = some o := fun b o e => Heap.get?_push_of_some _ e
  have size2 : (s1.heap.push { cls := .type "set", dict := none, data := .set #[] 0 (.fresh 0 0 (!X.w.params.followText "set-order")) }).objs.size = s1.heap.objs.size + 1 := Heap.size_push ..
  have I2 : Inv X pins σ H1 { s1 with heap := s1.heap.push { cls := .type "set", dict := none, data := .set #[] 0 (.fresh 0 0 (!X.w.params.followText "set-order")) } } := I1.kept (t' := s1.toks) keep2
  have t2 := T.keep 0 _ _ t1 fun b _ o e => keep2 b o e
  generalize s1.heap.push { cls := .type "set", dict := none, data := .set #[] 0 (.fresh 0 0 (!X.w.params.followText "set-order")) } = hp at *
  generalize s1.heap.objs.size = D at *
  have apart : ∀ b ∈ fp, b ≠ D := fun b hb => Nat.ne_of_lt (lt b hb)
  generalize e2 : ({ s1 with heap := hp } : Shared) = s2 at *
  obtain rfl : s2.heap = hp := by rw [← e2]
  have f2 : ∀ b ∈ D :: fp, FpOk X pins H1 b := fun b hb => (List.mem_cons.mp hb).elim (fun e => e ▸ fD) (f1 b)
  have lt2 : ∀ b ∈ D :: fp, b < s2.heap.objs.size := fun b hb => by
    rw [size2]
    exact (List.mem_cons.mp hb).elim (fun e => e ▸ Nat.lt_succ_self _) fun m => Nat.lt_succ_of_lt (lt b m)
  have I3 := block_start (fp := D :: fp) I2 ok hN fun b hb => ⟨f2 b hb, lt2 b hb⟩
  have keep3 : ∀ b o, s2.heap.get? b = some o → (pushCells (s2.heap.push { cls := .type "dict", data := .dict #[] }) scope.names).get? b = some o := fun b o e => pushCells_keeps _ _ _ _ (Heap.get?_push_of_some _ e)
  have t3 := T.keep 0 _ _ t2 fun b _ o e => keep3 b o e
  have c3 := S.keep _ _ _ D c0 fun o e => keep3 D o e
  have lg := hg s2 H1 s2.heap.objs.size (cellsFrom (s2.heap.objs.size + 1) scope.names (cloFrom X.env.cells scope.names [])) (D :: fp)
  have lt' := ht s2 H1 s2.heap.objs.size (cellsFrom (s2.heap.objs.size + 1) scope.names (cloFrom X.env.cells scope.names [])) (D :: fp)
  have le := he s2 H1 s2.heap.objs.size (cellsFrom (s2.heap.objs.size + 1) scope.names (cloFrom X.env.cells scope.names [])) (D :: fp)
  have runs : codeAny (model X.prog X.w) X.A (.compLoop (.SetComp elt [⟨tg, iter, ifs, 0⟩] scope pos) 0 (.ref it) (.ref D) (envB X scope s2))
      (compPost (model X.prog X.w) X.A X.xe none (fun u s' => ∃ D t H', u = .ref D ∧ Inv X pins σ H' s' ∧ C t s'.heap D ∧ H' D = none ∧ Qf t H') (.ref D) s2.heap.objs.size) { s2 with heap := pushCells (s2.heap.push { cls := .type "dict", data := .dict #[] }) scope.names } := by
    refine PpSet.compLoopS_any (fun n s => ∃ i t H, Inv (cxB X scope s2 H1 (D :: fp)) [] (wipe σ (own.map (·.2))) H s ∧ tn i s.heap ∧ (∀ b ∈ D :: fp, H b = none) ∧ C t s.heap D ∧ W i n t H)
      (fun n s ⟨i, t, H, Is, ts, zs, cs, ws⟩ => ?_) m0 ⟨0, t0, H1, I3, t3, fun b hb => (f2 b hb).1, c3, w0⟩
    obtain ⟨oD, gD, nD⟩ := S.obj _ _ _ cs
    have Ip := Is.pinned (fp := [D]) (fun b hb => blk_fp Is zs b (List.mem_singleton.mp hb ▸ List.mem_cons_self)) (fun b hb => ⟨oD, List.mem_singleton.mp hb ▸ gD, nD⟩)
    have inP : (D, oD) ∈ [] ++ pinsAt [D] s.heap := mem_pinsAt (List.mem_singleton.mpr rfl) gD
    have offP : ∀ b ∈ fp, ∀ p ∈ [] ++ pinsAt [D] s.heap, p.1 ≠ b := fun b hb p m e => apart b hb (e.symm.trans (List.mem_singleton.mp (of_pinsAt (show p ∈ pinsAt [D] s.heap from m)).1))
    generalize [] ++ pinsAt [D] s.heap = pd at *
    have held : ∀ {ps : List (Addr × Obj)} {σ' : St} {H' : Hp} {s' : Shared}, Inv (cxB X scope s2 H1 (D :: fp)) ps σ' H' s' → (D, oD) ∈ ps → C t s'.heap D ∧ H' D = none := fun {ps σ' H' s'} I' m => by
      have z := I'.pin (D, oD) (List.mem_append.mpr (.inr m))
      refine ⟨S.keep _ _ _ D cs fun o e => ?_, z.2.1⟩
      rw [gD] at e
      cases e
      exact z.1
    rcases turn i n t H ws with ⟨stop, q⟩ | ⟨go, Nx, nx, step⟩
    · refine thnF (T.done (cxB X scope s2 H1 (D :: fp)) rfl rfl rfl hc i pd s _ H (fun _ _ => False) Ip (fun b hb => blk_one Ip (List.mem_cons_of_mem _ hb) (zs b (List.mem_cons_of_mem _ hb)) (offP b hb)) ts stop) fun r s' ⟨er, I'⟩ => ?_
      subst er
      obtain ⟨c', zD⟩ := held I' inP
      have I'' : Inv (cxB X scope s2 H1 (D :: fp)) ([] ++ pd) (wipe σ (own.map (·.2))) H s' := I'
      obtain ⟨Ix, ⟨m, hm⟩, z0, z1, _, z3, z4, z5⟩ := blk_exit I2 f2 (I''.unpinned (pins := []))
      refine ⟨m, hm, fun h' sb => ⟨D, t, H, rfl, Ix.turned (t' := s'.toks) (fun b o ne e => (sb.2 b ne).trans e) z0 z1 z3 z4 z5, ?_, zD, q⟩⟩
      exact S.keep _ _ _ D c' fun o e => (sb.2 D (Nat.ne_of_lt (lt2 D List.mem_cons_self))).trans e
    · refine thnF (T.item (cxB X scope s2 H1 (D :: fp)) rfl rfl rfl hc i pd s _ H (fun _ _ => False) Ip (fun b hb => blk_one Ip (List.mem_cons_of_mem _ hb) (zs b (List.mem_cons_of_mem _ hb)) (offP b hb)) ts go) fun r sa ⟨u, er, k⟩ => ?_
      subst er
      refine thnF k fun _ sb ⟨x, Hb, Ib, rx, yl, tb, zb⟩ => ?_
      have Iq := Ib.pinned (fp := fp) (fun b hb => blk_one Ib (List.mem_cons_of_mem _ hb) (zb b hb) (offP b hb)) (T.obj _ _ tb)
      refine thnF (lg.run _ sb _ Hb x u _ Iq rx (step x Hb yl)) fun _ sc ⟨σc, Hc, Ic, ec, k⟩ => ?_
      refine thnF (lt'.run _ sc σc Hc _ Ic k) fun c sd ⟨Hd, Id, k⟩ => ?_
      have both : (D, oD) ∈ pd ++ pinsAt fp sb.heap := List.mem_append.mpr (.inl inP)
      have fin : ∀ {ps : List (Addr × Obj)} {s' : Shared} {H' : Hp} {t' : τ}, Inv (cxB X scope s2 H1 (D :: fp)) ps σc H' s' → (∀ p ∈ pinsAt fp sb.heap, p ∈ ps) → C t' s'.heap D → H' D = none → Nx t' H' →
          ∃ m, m < n ∧ ∃ i t H, Inv (cxB X scope s2 H1 (D :: fp)) [] (wipe σ (own.map (·.2))) H s' ∧ tn i s'.heap ∧ (∀ b ∈ D :: fp, H b = none) ∧ C t s'.heap D ∧ W i m t H := fun {ps s' H' t'} I' sub c' zD v => by
        obtain ⟨m, hm, w⟩ := nx t' H' v
        obtain ⟨j1, j2, j3⟩ := blk_next T tb I' sub ec
        exact ⟨m, hm, i + 1, t', H', j1, j2, fun b hb => (List.mem_cons.mp hb).elim (fun e => e ▸ zD) (j3 b), c', w⟩
      cases c with
      | false => exact fin Id (fun p m => List.mem_append.mpr (.inr m)) (held Id both).1 (held Id both).2 k
      | true =>
        refine thnF (le.run _ sd σc Hd _ Id k) fun v se ⟨y, He, Ie, re, k⟩ => ?_
        obtain ⟨ce, ze⟩ := held Ie both
        refine S.add s2 H1 scope (D :: fp) _ σc He se t y v D _ _ _ Ie ce re k fun t' h' tk v' c' sm => ?_
        have If : Inv (cxB X scope s2 H1 (D :: fp)) (pinsAt fp sb.heap) σc He se := Ie.pins_of fun p m => Ie.pin p (List.mem_append.mpr (.inr (List.mem_append.mpr (.inr m))))
        obtain ⟨o1, o2, _, o4, o5, o6⟩ := blk_one If List.mem_cons_self ze fun p m e => apart p.1 (of_pinsAt m).1 e
        exact fin (If.turned (it := D) (t' := tk) (fun b o ne e => (sm.2 b ne).trans e) o1 o2 o4 o5 o6) (fun p m => m) c' ze v'
  exact PpSet.codeAny_compStart_set runs (T.self X.A 0 _ _ _ t3 runs)
end
end Dl
set_option Elab.async false
set_option linter.all false
set_option maxRecDepth 100000
set_option maxHeartbeats 4000000
/-! The expression «sorted({(a, b) for t in it})»: a set of pairs of ints, then its sorted list. -/
namespace Dl
open PySem PySem.Spec PyProof.Rows L2 GenW
set_option autoImplicit false
def pairOf (l : List Int) : Int × Int := match l with
  | [i, j] => (i, j)
  | _ => (0, 0)
section
variable {P : Program} {w : World} {A : Around} {E : Value → Shared → Prop} {s : Shared}
theorem isPair_of {h : Heap} {v : Value} {i j : Int} (x : TS.TupInts h v [i, j]) : Srt.IsPair h v i j := by
  obtain ⟨a, xs, e, ⟨o, ho, hc, n, hd⟩, hi⟩ := x
  cases hx : xs.toList with
  | nil => rw [hx] at hi; cases hi
  | cons u r =>
    rw [hx] at hi
    cases hi with
    | cons k t r2 =>
      cases r2 with
      | cons k2 t2 r3 =>
        cases r3
        have e2 : xs = #[.int i t, .int j t2] := by
          apply Array.toList_inj.mp
          exact hx
        rw [e2] at hd
        exact ⟨a, o, t, t2, n, e, ho, hc, hd⟩
/-- the pair at an address -/
def pairKey (L : List (Addr × List Int)) (v : Value) : Int × Int := match v with
  | .ref p => match L.find? fun q => q.1 == p with
    | some q => pairOf q.2
    | none => (0, 0)
  | _ => (0, 0)
theorem pairKey_at {h : Heap} {L : List (Addr × List Int)} (tup : ∀ q ∈ L, IsT P w h q.2 q.1) {q : Addr × List Int} (hq : q ∈ L) : pairKey L (.ref q.1) = pairOf q.2 := by
  unfold pairKey
  dsimp only
  cases e : L.find? fun r => r.1 == q.1 with
  | none =>
    have z := List.find?_eq_none.mp e q hq
    simp at z
  | some r =>
    have r1 : r.1 = q.1 := by simpa using List.find?_some e
    have tr := tup r (List.mem_of_find?_eq_some e)
    rw [r1] at tr
    exact congrArg pairOf (tr.inj (tup q hq))
theorem sorted_setP {a : Addr} {L : List (Addr × List Int)} {es : Array (Int × Value)} {ep : Nat} {t : SetTable} {Q : Value → Shared → Prop} (R : SetTR P w s.heap a L es ep t) (hh : A.handled = none) (h2 : ∀ p ∈ L, ∃ i j, p.2 = [i, j])
    (hQ : ∀ s' p (out : Array Value) (c : Nat) (L' : List (Addr × List Int)), (∀ b o, s.heap.get? b = some o → s'.heap.get? b = some o) → s'.gens = s.gens → s'.os = s.os → s.heap.objs.size ≤ p →
      s'.heap.get? p = some (seqObj "list" out c) → out.toList = L'.map (fun q => Value.ref q.1) → L'.Perm L → L'.Pairwise (fun q r => SrtO.lexB (pairOf r.2) (pairOf q.2) = false) → Q (.ref p) s') :
    wpAny (model P w) A (call (.builtin "sorted") [.ref a]) Q E s := by
  have few := R.few
  have size := R.size
  have items : es.toList.map (·.2) = L.map fun q => Value.ref q.1 := by
    rw [R.rows]
    exact List.map_map.trans rfl
  obtain ⟨o, at_, exact_, data⟩ := R.ob
  refine Calls.call_function_entry kind_sorted plain_sorted entry_sorted (args_sorted1 _) ?_
  unfold Builtin.«sorted»
  refine wpAny_bind (m := checkCount "sorted" 1 1 _) (wpAny_pure (wpAny_bind (collect_set (A := A.in1) hh ⟨o, at_, exact_.1, data⟩ R.fits (by unfold scanBound; omega) R.tab.ris R.led fun s1 vs old up gens os pm => ?_)))
  rw [items] at pm
  obtain ⟨L1, p1, e1⟩ := perm_lift (fun q : Addr × List Int => Value.ref q.1) pm L rfl
  have len1 : vs.length < 64 := by
    rw [← e1, List.length_map, p1.length_eq]
    exact few
  have small : vs.length ≤ sizeLine := by rw [sizeLine_eq]; omega
  refine wpAny_bind (wpAny_newList ?_ small)
  have lst : (s1.heap.push (seqObj "list" vs.toArray 0)).get? s1.heap.objs.size = some (seqObj "list" vs.toArray 0) := Heap.get?_push_size _ rfl
  have pair : ∀ v ∈ vs, Srt.IsPair (s1.heap.push (seqObj "list" vs.toArray 0)) v (pairKey L v).1 (pairKey L v).2 := fun v m => by
    rw [← e1] at m
    obtain ⟨q, mq, rfl⟩ := List.mem_map.mp m
    have hq := p1.mem_iff.mp mq
    obtain ⟨i, j, e⟩ := h2 q hq
    have ti := tupInts_of (P := P) (w := w) (isT_keep (R.tup q hq) fun b u g => Heap.get?_push_of_some (seqObj "list" vs.toArray 0) (old b u g))
    rw [e] at ti
    rw [pairKey_at R.tup hq, e]
    exact isPair_of ti
  refine wpAny_bind (wpAny_holding (wpAny_call_entry slot_list_sort ⟨_, lst, rfl⟩ entry_list_sort
    (SrtO.list_sort_ord (SrtO.swo_lex (pairKey L)) lst small (fun _ => SrtO.pairs_sortableO (by omega) pair fun ob e => ?_) fun out srt stb => ⟨_, rfl, ?_⟩) (args_list_sort _)))
  · cases e.symm.trans lst
    exact fun c => nomatch Value.type.inj c
  obtain ⟨L2, p2, e2⟩ := perm_lift (fun q : Addr × List Int => Value.ref q.1) stb.perm L1 e1
  have p3 : L2.Perm L := p2.trans p1
  obtain ⟨c, where_⟩ := sortedHeap_at (vs := vs) (out := out.toArray) lst
  refine wpAny_pure ⟨_, rfl, hQ _ s1.heap.objs.size out.toArray c L2 (fun b u g => ?_) gens os up where_ e2.symm p3 ?_⟩
  · have g1 := old b u g
    have below := Heap.lt_size g1
    refine (sortedHeap_old (Nat.ne_of_lt below) ?_).trans (Heap.get?_push_of_some _ g1)
    rw [size_push']
    exact Nat.lt_succ_of_lt below
  · rw [← e2] at srt
    exact (List.pairwise_map.mp srt).imp_of_mem fun {q r} mq mr z => by
      dsimp only at z
      rw [pairKey_at R.tup (p3.mem_iff.mp mq), pairKey_at R.tup (p3.mem_iff.mp mr)] at z
      exact z
/-- set.add of a tuple -/
theorem setT_add {a : Addr} {L : List (Addr × List Int)} {es : Array (Int × Value)} {ep : Nat} {t : SetTable} {x : Addr} {k : List Int} {Q : Value → Shared → Prop} (R : SetTR P w s.heap a L es ep t) (hx : IsT P w s.heap k x) (hu : A.units + 1 < cLine) (hfew : L.length + 1 < 64)
    (hQ : ∀ h' L' tk, Heap.SameBut a s.heap h' → SetT0 P w h' a L' → (k ∈ L.map (·.2) → L' = L) → (k ∉ L.map (·.2) → L'.Perm ((x, k) :: L)) → Q .none { s with heap := h', toks := tk }) :
    wpAny (model P w) A (call (.builtin "set.add") [.ref a, .ref x]) Q E s := by
  obtain ⟨o, ho, hex, hd⟩ := R.ob
  refine wpAny_call_entry F.slot_set_add ⟨o, ho, hex.1⟩ F.entry_set_add ?_ (F.args_set_add_2 _ _)
  unfold Builtin.«set.add» Builtin.Frozenset.oneOther
  simp only [List.isEmpty_nil, bind_assoc]
  unfold Builtin.Frozenset.addrOf setAdd
  refine wpAny_bind (wpAny_pure ?_)
  try dsimp only
  refine wpAny_bind (wpAny_pure ?_)
  try dsimp only
  refine wpAny_bind ?_
  refine wpAny_holding ?_
  refine wpAny_bind (wpAny_pyHash_tuple (by show A.units + 1 < cLine; exact hu) hx ?_)
  refine add_at (s := { s with toks := s.toks + (k.length + 1) }) R hx (by show A.units + 1 < cLine; exact hu) hfew fun b h' L' es' ep' t' hsb hS2 c1 c2 => ?_
  show wpAny _ _ (ret Value.none) _ _ _
  exact wpAny_pure ⟨_, rfl, hQ h' L' _ hsb hS2.t0 c1 c2⟩
end
theorem setT0_keep {P : Program} {w : World} {h h' : Heap} {a : Addr} {L : List (Addr × List Int)} (R : SetT0 P w h a L) (ha : ∀ o, h.get? a = some o → h'.get? a = some o) : SetT0 P w h' a L := by
  obtain ⟨es, ep, t, ⟨o, ho, r⟩, q⟩ := R.ex
  exact ⟨es, ep, t, ⟨o, ha o ho, r⟩, q⟩
theorem setT0_obj {P : Program} {w : World} {h : Heap} {a : Addr} {L : List (Addr × List Int)} (R : SetT0 P w h a L) : ∃ o, h.get? a = some o ∧ ∀ v, o.data ≠ .cell v := by
  obtain ⟨es, ep, t, ⟨o, ho, hx, hd⟩, q⟩ := R.ex
  exact ⟨o, ho, fun v e => by rw [hd] at e; cases e⟩
/-- {.. for ..} of tuples of ints: L, what stands in the set -/
abbrev addTup (K : PySem.W.Frag) (L : List (Addr × List Int)) (y : V) (H : Hp) (N : List (Addr × List Int) → Prop) : Prop :=
  ∃ a k, y = .ref a ∧ SqT K H a (k.map V.int) ∧ (∀ p ∈ L, SqT K H p.1 (p.2.map V.int)) ∧ L.length + 1 < 64 ∧ ∀ L', (k ∈ L.map (·.2) → L' = L) → (k ∉ L.map (·.2) → L'.Perm ((a, k) :: L)) → N L'
abbrev tScT (K : PySem.W.Frag) (wi : TI) (g : TG) (tt : TT) (te : TE) (vs : List Nat) (σ : L2.St) (H : Hp) (Qf : List (Addr × List Int) → Hp → Prop) : Prop :=
  tSet (addTup K) [] wi g tt te vs σ H fun L H' => (∀ p ∈ L, SqT K H' p.1 (p.2.map V.int)) ∧ Qf L H'
theorem setK_tup (X : Cx) (hu : X.A.units + 1 < cLine) : SetK X (fun L h a => SetT0 X.prog X.w h a L) (addTup X.K) [] where
  keep := fun _ _ _ _ R k => setT0_keep R k
  obj := fun _ _ _ R => setT0_obj R
  new := fun h => (setTR_fresh (P := X.prog) (w := X.w) (a := h.objs.size) (Heap.get?_push_size _ rfl)).t0
  add := fun _ _ _ _ _ _ _ _ _ _ u _ _ _ _ I R0 r ⟨a, k, e, sk, sL, few, n⟩ q => by
    subst e
    obtain rfl : u = Value.ref a := r
    obtain ⟨es, ep, t, R⟩ := R0.full fun p hp => I.isT (sL p hp)
    exact setT_add R (I.isT sk) hu few fun h' L' tk sb new c1 c2 => q L' h' tk (n L' c1 c2) new sb
/-- sorted({..}) -/
def tSortSc (K : PySem.W.Frag) (wi : TI) (g : TG) (tt : TT) (te : TE) (vs : List Nat) : TE := fun σ H Q => tScT K wi g tt te vs σ H fun L H' => (∀ p ∈ L, ∃ i j, p.2 = [i, j]) ∧
  ∀ (L' : List (Addr × List Int)) p, L'.Perm L → L'.Pairwise (fun q r => SrtO.lexB (pairOf r.2) (pairOf q.2) = false) → H' p = none → Q (.ref p) (upd H' p (.lst (L'.map fun q => V.ref q.1)))
section
variable {X : Cx} {W : WX}
theorem pe_sortSc {elt tg iter : Expr} {ifs : List Expr} {scope : Scope} {own : List (Str × Nat)} {pos cpos p0 : Pos} {wi : TI} {g : TG} {tt : TT} {te : TE} (hc : X.calm = true) (hu : X.A.units + 64 < cLine) (hN : X.N.Nodup) (hms : X.mg "sorted" = none) (hi : PI X tg iter wi) (ok : BlkOk X.N X.env.scope scope own)
    (hg : ∀ (s : Shared) (H : Hp) (C : Addr) (cl : List (Str × Addr)) (fp : List Addr), PG (X.blk s H scope (compEnvC scope cl C X.env) fp) tg g) (ht : ∀ (s : Shared) (H : Hp) (C : Addr) (cl : List (Str × Addr)) (fp : List Addr), PTs (X.blk s H scope (compEnvC scope cl C X.env) fp) ifs tt)
    (he : ∀ (s : Shared) (H : Hp) (C : Addr) (cl : List (Str × Addr)) (fp : List Addr), PE (X.blk s H scope (compEnvC scope cl C X.env) fp) elt te) (hgl : Gl X "sorted") (hs : ∀ x, foldedSetIterable iter X.env x = pure x)
    (ho : starEach [.SetComp elt [⟨tg, iter, ifs, 0⟩] scope cpos] X.env = (false, eval (.SetComp elt [⟨tg, iter, ifs, 0⟩] scope cpos) X.env) :: starEach [] X.env) :
    PE X (.Call (.Name "sorted" p0) [.SetComp elt [⟨tg, iter, ifs, 0⟩] scope cpos] [] pos) (tSortSc X.K wi g tt te (own.map (·.2))) := by
  refine ⟨fun pins s σ H Q I h => ?_⟩
  refine wpAny_Call_Name_kw (ld_blt I hgl hms (u := .builtin "sorted") rfl ?_ (by decide) (by decide))
  refine PyProof.Rows.callWith_builtin1 ?_ ho rfl
  rw [ho]
  show wpAny _ _ (spliced ((false, eval (.SetComp elt [⟨tg, iter, ifs, 0⟩] scope cpos) X.env) :: backTo pos (starEach [] X.env))) _ _ s
  refine Calls.spliced_cons (wpAny_mono (set_core (setK_tup X (by omega)) hc hN I hi ok hg ht he hs h) (fun u s2 h2 => ?_) fun _ _ z => z)
  obtain ⟨D, L, H2, rfl, I2, R0, hD, hL, h2, q⟩ := h2
  refine Calls.spliced_nil ?_
  obtain ⟨es, ep, t, R⟩ := R0.full fun p hp => I2.isT (hL p hp)
  refine sorted_setP R (I2.ok.hd hc) h2 fun s' p out c L' k g o hp hgp hout pm pw => ?_
  have hfew : L'.length < 64 := by rw [pm.length_eq]; exact R.few
  have hlen : (L'.map fun q => V.ref q.1).length ≤ sizeLine := by rw [List.length_map, sizeLine_eq]; omega
  have hn : H2 p = none := I2.hok.fresh hp
  have hv : Vals (L'.map fun q => V.ref q.1) out.toList := by rw [hout]; exact vals_of_refs L'
  have J : Inv X pins σ (upd H2 p (.lst (L'.map fun q => V.ref q.1))) { s2 with heap := s'.heap, gens := s'.gens, drawn := s'.drawn, toks := s'.toks } :=
    I2.call (ch := []) (Un.laid k hp hn) (I2.hok.laid k hp ⟨hlen, out.toList, c, hv, hgp⟩) (by rw [g]; exact I2.bare) (fun _ z => nomatch z)
  have e : s' = { s2 with heap := s'.heap, gens := s'.gens, drawn := s'.drawn, toks := s'.toks } := by
    cases s'
    cases s2
    cases o
    rfl
  rw [e]
  exact ⟨.ref p, _, J, rfl, q L' p pm pw hn⟩
end
def ltP (p q : Int × Int) : Prop := p.1 < q.1 ∨ (p.1 = q.1 ∧ p.2 < q.2)
def prD (p : Int × Int) : D := .tup [.int p.1, .int p.2]
def scTurns (I : DIt) (g : DTG) (te : DTE) (s : DSt) (G1 : Gp) (fin : List (Int × Int) → Prop) : Prop :=
  ∃ (f : Nat → Int × Int) (U : List (Int × Int)), U.length ≤ 62 ∧ (∀ i, i < I.n → f i ∈ U) ∧ I.here G1 ∧ (∀ i x, i < I.n → I.item i x → g x s G1 fun s2 G2 => te s2 G2 (fun y G3 => y = prD (f i) ∧ G3 = G1) X0) ∧
    ∀ out : List (Int × Int), out.Pairwise ltP → (∀ p, p ∈ out ↔ ∃ i, i < I.n ∧ f i = p) → fin out
abbrev dSortSc (di : DTI) (g : DTG) (te : DTE) (vs : List Nat) : DTE := fun s G Q E => di s G (fun I G1 => scTurns I g te (wipeD s vs) G1 fun out => Q (.lst (out.map prD)) G1) E
/-- the set's members as they stand for data -/
structure LOk (K : PySem.W.Frag) (F : Fp) (f : Nat → Int × Int) (i : Nat) (L : List (Addr × List Int)) : Prop where
  rep : ∀ p ∈ L, ∃ j, j < i ∧ p.2 = [(f j).1, (f j).2] ∧ SqT K (toH F) p.1 (p.2.map V.int)
  all : ∀ j, j < i → [(f j).1, (f j).2] ∈ L.map (·.2)
  nd : (L.map (·.2)).Nodup
theorem list2_inj {a b c d : Int} (h : ([a, b] : List Int) = [c, d]) : a = c ∧ b = d := by
  injection h with h1 h2
  injection h2 with h3
  exact ⟨h1, h3⟩
theorem nodup_len {α : Type} [DecidableEq α] : ∀ (l D : List α), l.Nodup → (∀ x ∈ l, x ∈ D) → l.length ≤ D.length
  | [], _, _, _ => Nat.zero_le _
  | x :: l, D, nd, h => by
    have hx := h x List.mem_cons_self
    obtain ⟨n1, n2⟩ := List.nodup_cons.mp nd
    have z := nodup_len l (D.erase x) n2 fun y hy => (List.mem_erase_of_ne (fun (e : y = x) => n1 (by rw [← e]; exact hy))).mpr (h y (List.mem_cons_of_mem _ hy))
    rw [List.length_erase_of_mem hx] at z
    have := List.length_pos_of_mem hx
    rw [List.length_cons]
    omega
theorem LOk.few {K : PySem.W.Frag} {F : Fp} {f : Nat → Int × Int} {i n : Nat} {L : List (Addr × List Int)} {U : List (Int × Int)} (h : LOk K F f i L) (hi : i ≤ n) (hU : ∀ i, i < n → f i ∈ U) : L.length ≤ U.length := by
  have e : (L.map (·.2)).length ≤ (U.map fun p => [p.1, p.2]).length := by
    refine nodup_len _ _ h.nd fun k hk => ?_
    obtain ⟨p, hp, rfl⟩ := List.mem_map.mp hk
    obtain ⟨j, hj, e, _⟩ := h.rep p hp
    rw [e]
    exact List.mem_map.mpr ⟨f j, hU j (by omega), rfl⟩
  rw [List.length_map, List.length_map] at e
  exact e
theorem ae_sortSc {K : PySem.W.Frag} {W : WX} {ti : TI} {tg : TG} {t1 : TT} {t2 : TE} {di : DTI} {g : DTG} {te : DTE} {vs : List Nat} (ai : AI K W ti di)
    (ag : ∀ F σ H s G v x Qd Q, RS K F H G → RepSt K F σ s → Rep K F v x → g x s G Qd → ContW K F σ vs Qd Q → tg v σ H Q) (at_ : AT K W0 t1 dYes) (ae : AE K W0 t2 te) : AE K W (tSortSc K ti tg t1 t2 vs) (dSortSc di g te vs) := fun F σ H s G Qd Ed Q rs st q c cx => by
  refine ai F σ H s G _ Ed _ rs st q (fun F1 H1 G1 J I e1 rs1 ir q1 => ?_) cx
  obtain ⟨f, U, hU, hfU, here, turn, done⟩ := q1
  refine ⟨fun i m L H' => i + m = I.n ∧ ∃ F', FSame F1 F' ∧ RS K F' H' G1 ∧ LOk K F' f i L, ⟨I.n, Nat.zero_add _, F1, FSame.refl F1, rs1, ⟨fun _ h => (nomatch h), fun _ h => absurd h (Nat.not_lt_zero _), List.nodup_nil⟩⟩, fun i m L H2 hW => ?_⟩
  obtain ⟨em, F2, e2, rs2, lo⟩ := hW
  by_cases hlt : i < I.n
  · refine .inr ⟨ir.go F2 H2 G1 i e2 rs2 here hlt, fun L' H' => ∃ F', FSame F1 F' ∧ RS K F' H' G1 ∧ LOk K F' f (i + 1) L', fun L' H' hN => ⟨m - 1, by omega, by omega, hN⟩, fun x H3 hy => ?_⟩
    obtain ⟨F3, dx, e3, rs3, rx, it⟩ := ir.yld F2 H2 G1 i x H3 e2 rs2 here hlt hy
    have e03 := (e1.trans e2).trans e3
    refine ag F3 (wipe σ vs) H3 (wipeD s vs) G1 x dx _ _ rs3 (repst_wipe (st.mono e03) vs) rx (turn i dx hlt it) fun F4 H4 G4 σ4 s4 e4 rs4 st4 w4 q4 => ⟨w4.trans (wipe_wipe vs vs fun _ h => h), ?_⟩
    refine at_ F4 σ4 H4 s4 G4 (fun b G5 => b = true ∧ te s4 G5 (fun y G3 => y = prD (f i) ∧ G3 = G1) X0) X0 _ rs4 st4 ⟨rfl, q4⟩ (fun F5 H5 G5 b e5 rs5 q5 => ?_) (fun _ _ _ _ _ _ _ _ _ z => z)
    obtain ⟨rfl, q5⟩ := q5
    refine ae F5 σ4 H5 s4 G5 _ _ _ rs5 (st4.mono e5) q5 (fun F6 H6 G6 y dy e6 rs6 ry q6 => ?_) (fun _ _ _ _ _ _ _ _ _ z => z)
    obtain ⟨rfl, rfl⟩ := q6
    have e26 := ((e3.trans e4).trans e5).trans e6
    have ht : ∃ a, y = .ref a ∧ SqT K (toH F6) a (([(f i).1, (f i).2] : List Int).map V.int) := by
      unfold prD at ry
      cases ry with
      | tup h r =>
        refine ⟨_, rfl, ?_⟩
        cases r with
        | cons r1 r =>
          cases r1
          cases r with
          | cons r2 r =>
            cases r2
            cases r
            exact h
    obtain ⟨a, rfl, sa⟩ := ht
    have lo6 : ∀ p ∈ L, ∃ j, j < i ∧ p.2 = [(f j).1, (f j).2] ∧ SqT K (toH F6) p.1 (p.2.map V.int) := fun p hp => by
      obtain ⟨j, h1, h2, h3⟩ := lo.rep p hp
      exact ⟨j, h1, h2, same_t e26.toH h3⟩
    refine ⟨a, [(f i).1, (f i).2], rfl, same_t rs6.same sa, fun p hp => ?_, by have := lo.few (Nat.le_of_lt hlt) hfU; omega, fun L' c1 c2 => ⟨F6, e2.trans e26, rs6, ?_⟩⟩
    · obtain ⟨j, h1, h2, h3⟩ := lo6 p hp
      exact same_t rs6.same h3
    · by_cases hk : [(f i).1, (f i).2] ∈ L.map (·.2)
      · rw [c1 hk]
        refine ⟨fun p hp => ?_, fun j hj => ?_, lo.nd⟩
        · obtain ⟨j, h1, h2, h3⟩ := lo6 p hp
          exact ⟨j, by omega, h2, h3⟩
        · by_cases ej : j = i
          · rw [ej]; exact hk
          · exact lo.all j (by omega)
      · have pm := c2 hk
        refine ⟨fun p hp => ?_, fun j hj => ?_, ?_⟩
        · rcases List.mem_cons.mp (pm.mem_iff.mp hp) with z | z
          · rw [z]
            exact ⟨i, Nat.lt_succ_self i, rfl, sa⟩
          · obtain ⟨j, h1, h2, h3⟩ := lo6 p z
            exact ⟨j, by omega, h2, h3⟩
        · rw [(pm.map (·.2)).mem_iff, List.map_cons]
          by_cases ej : j = i
          · rw [ej]; exact List.mem_cons_self
          · exact List.mem_cons_of_mem _ (lo.all j (by omega))
        · rw [(pm.map (·.2)).nodup_iff, List.map_cons]
          exact List.nodup_cons.mpr ⟨hk, lo.nd⟩
  · have ei : i = I.n := by omega
    subst ei
    refine .inl ⟨ir.stop F2 H2 G1 e2 rs2 here, fun p hp => ?_, fun p hp => ?_, fun L' p pm pw hn => ?_⟩
    · obtain ⟨j, h1, h2, h3⟩ := lo.rep p hp
      exact same_t rs2.same h3
    · obtain ⟨j, h1, h2, h3⟩ := lo.rep p hp
      exact ⟨_, _, h2⟩
    have lo' : ∀ p ∈ L', ∃ j, j < I.n ∧ p.2 = [(f j).1, (f j).2] ∧ SqT K (toH F2) p.1 (p.2.map V.int) := fun p hp => lo.rep p (pm.mem_iff.mp hp)
    have rl : ∀ M : List (Addr × List Int), (∀ p ∈ M, p ∈ L') → RepL K F2 (M.map fun q => V.ref q.1) ((M.map fun q => pairOf q.2).map prD) := by
      intro M
      induction M with
      | nil => intro _; exact .nil
      | cons p M ih =>
        intro hM
        obtain ⟨j, h1, h2, h3⟩ := lo' p (hM p List.mem_cons_self)
        refine .cons ?_ (ih fun q hq => hM q (List.mem_cons_of_mem _ hq))
        unfold prD
        dsimp only
        rw [h2] at h3 ⊢
        exact .tup h3 (.cons (.int _) (.cons (.int _) .nil))
    refine (c.mono (e1.trans e2)).lst rs2 (rl L' fun _ h => h) (done _ ?_ fun r => ?_) p hn
    · refine List.pairwise_map.mpr ?_
      have nd' : L'.Pairwise fun q r => q.2 ≠ r.2 := List.pairwise_map.mp (show List.Pairwise Ne (L'.map Prod.snd) from (pm.map Prod.snd).nodup_iff.mpr lo.nd)
      refine List.Pairwise.imp_of_mem (fun {q r} hq hr h => ?_) (pw.and nd')
      obtain ⟨h, ne⟩ := h
      obtain ⟨j, _, hj, _⟩ := lo' q hq
      obtain ⟨l, _, hl, _⟩ := lo' r hr
      have h' := SrtO.lexB_no.mp h
      rw [hj, hl] at h' ne
      rw [hj, hl]
      unfold pairOf at h' ⊢
      dsimp only at h'
      unfold ltP
      dsimp only
      have ne' : ¬ ((f j).1 = (f l).1 ∧ (f j).2 = (f l).2) := fun z => ne (by rw [z.1, z.2])
      omega
    · constructor
      · intro hr
        obtain ⟨q, hq, rfl⟩ := List.mem_map.mp hr
        obtain ⟨j, h1, h2, _⟩ := lo' q hq
        refine ⟨j, h1, ?_⟩
        rw [h2]
        rfl
      · rintro ⟨j, hj, rfl⟩
        have z := lo.all j hj
        rw [← (pm.map (·.2)).mem_iff] at z
        obtain ⟨q, hq, e⟩ := List.mem_map.mp z
        refine List.mem_map.mpr ⟨q, hq, ?_⟩
        rw [show q.2 = [(f j).1, (f j).2] from e]
        rfl
section
variable {X : Cx} {W : WX}
theorem de_sortSc {elt tg iter : Expr} {scope : Scope} {own : List (Str × Nat)} {pos cpos p0 : Pos} {di : DTI} {g : DTG} {te : DTE} (hc : X.calm = true) (hu : X.A.units + 64 < cLine) (hN : X.N.Nodup) (hms : X.mg "sorted" = none) (hi : DI X W tg iter di) (ok : BlkOk X.N X.env.scope scope own)
    (hg : ∀ (s : Shared) (H : Hp) (C : Addr) (cl : List (Str × Addr)) (fp : List Addr), DGv (X.blk s H scope (compEnvC scope cl C X.env) fp) (own.map (·.2)) tg g)
    (he : ∀ (s : Shared) (H : Hp) (C : Addr) (cl : List (Str × Addr)) (fp : List Addr), DE (X.blk s H scope (compEnvC scope cl C X.env) fp) W0 elt te) (hgl : Gl X "sorted" := by rfl) (hs : ∀ x, foldedSetIterable iter X.env x = pure x := by intro _; rfl)
    (ho : starEach [.SetComp elt [⟨tg, iter, [], 0⟩] scope cpos] X.env = (false, eval (.SetComp elt [⟨tg, iter, [], 0⟩] scope cpos) X.env) :: starEach [] X.env := by rfl) :
    DE X W (.Call (.Name "sorted" p0) [.SetComp elt [⟨tg, iter, [], 0⟩] scope cpos] [] pos) (dSortSc di g te (own.map (·.2))) := by
  obtain ⟨ti, p, ai⟩ := hi
  have ht : ∀ (s : Shared) (H : Hp) (C : Addr) (cl : List (Str × Addr)) (fp : List Addr), DTs (X.blk s H scope (compEnvC scope cl C X.env) fp) [] dYes := fun _ _ _ _ _ => dts_nil
  exact ⟨⟨_, pe_sortSc (g := tgOf X.K (own.map (·.2)) g) (tt := ttOf X.K W0 dYes) (te := tOf X.K W0 te) hc hu hN hms p ok (fun s H C cl fp => (hg s H C cl fp).pg) (fun s H C cl fp => (ht s H C cl fp).pt) (fun s H C cl fp => (he s H C cl fp).pe) hgl hs ho,
    ae_sortSc ai (fun F σ H s G v x Qd Q h1 h2 h3 h4 h5 => ⟨F, s, G, x, Qd, h1, h2, h3, h4, h5⟩) at_of' ae_of⟩⟩
end
end Dl
set_option Elab.async false
set_option linter.all false
set_option maxRecDepth 100000
set_option maxHeartbeats 4000000
/-! max(xs), min(xs) of a list of ints. -/
namespace Dl
open PySem PySem.Spec PyProof.Rows L2 GenW
set_option autoImplicit false
def gMax1 (x : D) (G : Gp) (Q : DK) : Prop := ∃ ns : List Int, lv x G = some (ns.map .int) ∧ 0 < ns.length ∧ ∀ m, m ∈ ns → (∀ y, y ∈ ns → y ≤ m) → Q (.int m) G
def gMin1 (x : D) (G : Gp) (Q : DK) : Prop := ∃ ns : List Int, lv x G = some (ns.map .int) ∧ 0 < ns.length ∧ ∀ m, m ∈ ns → (∀ y, y ∈ ns → m ≤ y) → Q (.int m) G
theorem dc_max1 {X : Cx} (hc : X.calm = true) : DCall X (.builtin "max") (g1 gMax1) := dcall1 (cr_max hc) fun F H G v x Qd Q rs rv q c => by
  obtain ⟨ns, e, l, q⟩ := q
  obtain ⟨a, xs, rfl, h1, r1⟩ := lv_at rs rv e
  have z := repl_int r1
  subst z
  exact ⟨a, ns, rfl, .inl (.inl h1), l, fun m h1 h2 => c F H G _ _ (FSame.refl F) rs (.int _) (q m h1 h2)⟩
theorem dc_min1 {X : Cx} (hc : X.calm = true) : DCall X (.builtin "min") (g1 gMin1) := dcall1 (cr_min hc) fun F H G v x Qd Q rs rv q c => by
  obtain ⟨ns, e, l, q⟩ := q
  obtain ⟨a, xs, rfl, h1, r1⟩ := lv_at rs rv e
  have z := repl_int r1
  subst z
  exact ⟨a, ns, rfl, .inl (.inl h1), l, fun m h1 h2 => c F H G _ _ (FSame.refl F) rs (.int _) (q m h1 h2)⟩
end Dl
set_option Elab.async false
set_option linter.all false
set_option maxRecDepth 100000
set_option maxHeartbeats 4000000
/-! x in xs; < and > of pairs of ints. -/
namespace Dl
open PySem PySem.Spec PyProof.Rows L2 GenW
set_option autoImplicit false
theorem room65 {k : Nat} {A : Around} (r : Room k A) : A.units + 65 < cLine := by
  have := r.un
  omega
def gIn (neg : Bool) : G2 := fun x y G Q => match cv y G with
  | .lst ds => EqOk x ∧ EqOk (.lst ds) ∧ Q (.bl (if neg then !(ds.any fun z => deq z x) else ds.any fun z => deq z x)) G
  | _ => False
theorem toPs_map : ∀ ds : List D, toP.toPs ds = ds.map toP
  | [] => by unfold toP.toPs; rfl
  | d :: ds => by
    unfold toP.toPs
    rw [toPs_map ds]
    rfl
theorem toP_lst (ds : List D) : toP (.lst ds) = .list (toP.toPs ds) := by
  unfold toP
  rfl
theorem any_toPs (ds : List D) (x : D) : ((toP.toPs ds).any fun z => PyData.eqv z (toP x)) = ds.any fun z => deq z x := by
  rw [toPs_map, List.any_map]
  rfl
theorem cv_pure {x : D} {G : Gp} (h : pure? x = true) : cv x G = x := by
  cases x with
  | ref a => simp [pure?] at h
  | _ => rfl
section
variable {X : Cx}
theorem do_in (hu : X.A.units + 65 < cLine) : DOp X (compareOp .In) (gIn false) := ⟨⟨_, op_inD hu, fun F H G x y dx dy Qd Q rs rx ry q c => by
  unfold gIn at q
  split at q
  · rename_i ds e
    obtain ⟨h1, h2, q⟩ := q
    have p1 := dp_cv rs rx (by rw [cv_pure h1.1]; exact h1.1)
    have p2 := dp_cv rs ry (by rw [e]; exact h2.1)
    rw [cv_pure h1.1] at p1
    rw [e, toP_lst] at p2
    refine ⟨_, _, p1, p2, h1.2, by rw [← toP_lst]; exact h2.2, ?_⟩
    rw [any_toPs]
    exact c F H G _ _ (FSame.refl F) rs (.bl _) q
  · exact q.elim⟩⟩
theorem do_notIn (hu : X.A.units + 65 < cLine) : DOp X (compareOp .NotIn) (gIn true) := ⟨⟨_, op_notInD hu, fun F H G x y dx dy Qd Q rs rx ry q c => by
  unfold gIn at q
  split at q
  · rename_i ds e
    obtain ⟨h1, h2, q⟩ := q
    have p1 := dp_cv rs rx (by rw [cv_pure h1.1]; exact h1.1)
    have p2 := dp_cv rs ry (by rw [e]; exact h2.1)
    rw [cv_pure h1.1] at p1
    rw [e, toP_lst] at p2
    refine ⟨_, _, p1, p2, h1.2, by rw [← toP_lst]; exact h2.2, ?_⟩
    rw [any_toPs]
    exact c F H G _ _ (FSame.refl F) rs (.bl _) q
  · exact q.elim⟩⟩
def gLtP : G2 := fun x y G Q => match x, y with
  | .int i, .int j => Q (.bl (decide (i < j))) G
  | .tup [.int a, .int b], .tup [.int c, .int d] => Q (.bl (decide (a < c ∨ (a = c ∧ b < d)))) G
  | _, _ => False
def gGtP : G2 := fun x y G Q => match x, y with
  | .int i, .int j => Q (.bl (decide (j < i))) G
  | .tup [.int a, .int b], .tup [.int c, .int d] => Q (.bl (decide (c < a ∨ (a = c ∧ d < b)))) G
  | _, _ => False
theorem rep_pair {K : PySem.W.Frag} {F : Fp} {v : V} {i j : Int} (r : Rep K F v (.tup [.int i, .int j])) : ∃ a, v = .ref a ∧ SqT K (toH F) a (([i, j] : List Int).map V.int) := by
  cases r with
  | tup h r =>
    refine ⟨_, rfl, ?_⟩
    cases r with
    | cons r1 r =>
      cases r1
      cases r with
      | cons r2 r =>
        cases r2
        cases r
        exact h
theorem do_ltP (hu : X.A.units < cLine) : DOp X (compareOp .Lt) gLtP := (DOp.or (do_lt (X := X)) ⟨⟨_, op_ltT hu, fun F H G x y dx dy Qd Q rs rx ry (q : ∃ a b c d, dx = .tup [.int a, .int b] ∧ dy = .tup [.int c, .int d] ∧ Qd (.bl (decide (a < c ∨ (a = c ∧ b < d)))) G) c => by
  obtain ⟨i, j, k, l, rfl, rfl, q⟩ := q
  obtain ⟨a, rfl, h1⟩ := rep_pair rx
  obtain ⟨b, rfl, h2⟩ := rep_pair ry
  refine ⟨a, b, [i, j], [k, l], rfl, rfl, same_t rs.same h1, same_t rs.same h2, ?_⟩
  have e : HT.lexLt [i, j] [k, l] = decide (i < k ∨ (i = k ∧ j < l)) := by
    rw [HT.lexLt_cons, HT.lexLt_cons, HT.lexLt_nil_nil]
    by_cases e1 : i = k
    · rw [if_pos e1]
      by_cases e2 : j = l
      · rw [if_pos e2]
        exact (decide_eq_false (by omega)).symm
      · rw [if_neg e2]
        exact decide_eq_decide.mpr (by omega)
    · rw [if_neg e1]
      exact decide_eq_decide.mpr (by omega)
  rw [e]
  exact c F H G _ _ (FSame.refl F) rs (.bl _) q⟩⟩).imp fun x y G Q q => by
  unfold gLtP at q
  split at q
  · exact .inl q
  · exact .inr ⟨_, _, _, _, rfl, rfl, q⟩
  · exact q.elim
def rGtT (K : PySem.W.Frag) : R2 := fun x y H Q => ∃ (a b : Addr) (i j k l : Int), x = .ref a ∧ y = .ref b ∧ SqT K H a (([i, j] : List Int).map V.int) ∧ SqT K H b (([k, l] : List Int).map V.int) ∧ Q (.bl (decide (k < i ∨ (i = k ∧ l < j)))) H
theorem op_gtT (hu : X.A.units < cLine) : OpR X (compareOp .Gt) (rGtT X.K) := by
  intro pins s σ H x y v u Q I rx ry h
  obtain ⟨a, b, i, j, k, l, rfl, rfl, ha, hb, q⟩ := h
  cases rx
  cases ry
  obtain ⟨its, r1, p1, _⟩ := I.tuple ha
  obtain ⟨its2, r2, p2, _⟩ := I.tuple hb
  have i1 : IntsAre its [i, j] := Vals.ints r1
  have i2 : IntsAre its2 [k, l] := Vals.ints r2
  have e1 : its.toArray.size = 2 := by rw [List.size_toArray]; exact i1.length
  have e2 : its2.toArray.size = 2 := by rw [List.size_toArray]; exact i2.length
  have at1 : ∀ m (h1 : m < its.toArray.size), ∃ t, its.toArray[m] = .int (([i, j] : List Int).getD m 0) t := fun m h1 => PyProof.Rows.IntsAre.int_at i1 _ _ (by simp at h1; simp [h1])
  have at2 : ∀ m (h1 : m < its2.toArray.size), ∃ t, its2.toArray[m] = .int (([k, l] : List Int).getD m 0) t := fun m h1 => PyProof.Rows.IntsAre.int_at i2 _ _ (by simp at h1; simp [h1])
  have R := Ob.RcOp.tuples_gt (A := X.A) (s := s) (e := fun m => decide (([i, j] : List Int).getD m 0 = ([k, l] : List Int).getD m 0)) (r := fun m => decide (([k, l] : List Int).getD m 0 < ([i, j] : List Int).getD m 0)) p1 p2 hu (fun m h1 h2 => by
    obtain ⟨t, et⟩ := at1 m h1
    obtain ⟨t', et'⟩ := at2 m h2
    rw [et, et']
    have z : (([i, j] : List Int).getD m 0 == ([k, l] : List Int).getD m 0) = decide (([i, j] : List Int).getD m 0 = ([k, l] : List Int).getD m 0) := by
      by_cases q : ([i, j] : List Int).getD m 0 = ([k, l] : List Int).getD m 0
      · rw [decide_eq_true q]; exact beq_iff_eq.mpr q
      · rw [decide_eq_false q]; exact beq_eq_false_iff_ne.mpr q
    rw [← z]
    exact SeqAt.EqAt.int_int _ _ _ _) (fun m h1 h2 _ => by
    obtain ⟨t, et⟩ := at1 m h1
    obtain ⟨t', et'⟩ := at2 m h2
    rw [et, et']
    exact Ob.RcOp.gt_int _ _ _ _)
  rw [e1, e2] at R
  have e : Ob.lexAt (fun m => decide (([i, j] : List Int).getD m 0 = ([k, l] : List Int).getD m 0)) (fun m => decide (([k, l] : List Int).getD m 0 < ([i, j] : List Int).getD m 0)) (decide (2 > 2)) 0 (min 2 2) = decide (k < i ∨ (i = k ∧ l < j)) := by
    show Ob.lexAt _ _ _ 0 2 = _
    rw [Ob.lexAt_succ, Ob.lexAt_succ, Ob.lexAt_zero]
    show (if decide (i = k) = true then (if decide (j = l) = true then decide (2 > 2) else decide (l < j)) else decide (k < i)) = _
    simp only [decide_eq_true_eq]
    by_cases e1 : i = k
    · rw [if_pos e1]
      by_cases e2 : j = l
      · rw [if_pos e2]
        rw [decide_eq_false (by omega : ¬ (k < i ∨ (i = k ∧ l < j)))]
        rfl
      · rw [if_neg e2]
        exact decide_eq_decide.mpr (by omega)
    · rw [if_neg e1]
      exact decide_eq_decide.mpr (by omega)
  rw [e] at R
  have z : wpAny (model X.prog X.w) X.A (compareOp .Gt (.ref a) (.ref b)) (EP X pins σ Q) X.xe s := R X.prog X.w X.xe (EP X pins σ Q) ⟨.bl _, H, I, rfl, q⟩
  exact z
theorem do_gtP (hu : X.A.units < cLine) : DOp X (compareOp .Gt) gGtP := (DOp.or (do_gt (X := X)) ⟨⟨_, op_gtT hu, fun F H G x y dx dy Qd Q rs rx ry (q : ∃ a b c d, dx = .tup [.int a, .int b] ∧ dy = .tup [.int c, .int d] ∧ Qd (.bl (decide (c < a ∨ (a = c ∧ d < b)))) G) c => by
  obtain ⟨i, j, k, l, rfl, rfl, q⟩ := q
  obtain ⟨a, rfl, h1⟩ := rep_pair rx
  obtain ⟨b, rfl, h2⟩ := rep_pair ry
  exact ⟨a, b, i, j, k, l, rfl, rfl, same_t rs.same h1, same_t rs.same h2, c F H G _ _ (FSame.refl F) rs (.bl _) q⟩⟩⟩).imp fun x y G Q q => by
  unfold gGtP at q
  split at q
  · exact .inl q
  · exact .inr ⟨_, _, _, _, rfl, rfl, q⟩
  · exact q.elim
end
end Dl
set_option Elab.async false
set_option linter.all false
set_option maxRecDepth 100000
set_option maxHeartbeats 4000000
/-! xs.insert(i, y). -/
namespace Dl
open PySem PySem.Spec PyProof.Rows L2 GenW
set_option autoImplicit false
def dmInsert : GM := fun x xs G Q => match x, xs with
  | .ref a, [.int i, y] => match G a with
    | some (.lst ds) => ds.length < sizeLine ∧ (0 ≤ i ∧ i < 2 ^ 62) ∧ Q .non (gupd G a (.lst (ds.take i.toNat ++ [y] ++ ds.drop i.toNat)))
    | _ => False
  | _, _ => False
theorem dm_insert {X : Cx} : DM X "list.insert" dmInsert := ⟨⟨_, mt_insert, fun F H G v vs x xs Qd Q rs rv rvs q c => by
  unfold dmInsert at q
  split at q
  · rename_i a i y
    split at q
    · rename_i ds eg
      obtain ⟨q1, ⟨q2, q3⟩, q4⟩ := q
      cases rv
      obtain ⟨u, w, rfl, ru, rw'⟩ := repl2 rvs
      cases ru
      obtain ⟨ys, h1, r1⟩ := (rs.gf a _ eg).2
      refine ⟨a, ys, i, w, rfl, rfl, h1, by rw [r1.length]; exact q1, q2, by omega, ?_⟩
      exact c F _ _ _ _ (FSame.refl F) (rs.setG eg (g := .lst (ds.take i.toNat ++ [y] ++ ds.drop i.toNat)) ⟨_, upd_same, ((r1.take i.toNat).append (.cons rw' .nil)).append (r1.drop i.toNat)⟩) .non q4
    · exact q.elim
  · exact q.elim⟩⟩
end Dl
set_option Elab.async false
set_option linter.all false
set_option maxRecDepth 100000
set_option maxHeartbeats 4000000
/-! The expression «sorted({e for t in it if ..})»: a set of ints, then its sorted list. -/
namespace Dl
open PySem PySem.Spec PyProof.Rows L2 GenW
set_option autoImplicit false
/-- a set of these ints -/
def SetI (w : World) (h : Heap) (a : Addr) (L : List Int) : Prop := SetR w h a (fun k => decide (k ∈ L)) L.length ∧ L.Nodup
theorem setI_keep {w : World} {h h' : Heap} {a : Addr} {L : List Int} (R : SetI w h a L) (ha : ∀ o, h.get? a = some o → h'.get? a = some o) : SetI w h' a L := ⟨R.1.at ha, R.2⟩
theorem setI_obj {w : World} {h : Heap} {a : Addr} {L : List Int} (R : SetI w h a L) : ∃ o, h.get? a = some o ∧ ∀ v, o.data ≠ .cell v := by
  obtain ⟨o, es, ep, t, ho, _, hd, _⟩ := R.1
  exact ⟨o, ho, fun v e => by rw [hd] at e; cases e⟩
theorem setI_fresh {w : World} {h : Heap} : SetI w (h.push { cls := .type "set", dict := none, data := .set #[] 0 (.fresh 0 0 (!w.params.followText "set-order")) }) h.objs.size [] := ⟨(setR_fresh w).congr fun k => by simp, List.nodup_nil⟩
def addI (k : Int) (L : List Int) : List Int := if k ∈ L then L else k :: L
theorem mem_addI {k j : Int} {L : List Int} : j ∈ addI k L ↔ j = k ∨ j ∈ L := by
  unfold addI
  split
  · rename_i h
    exact ⟨.inr, fun z => z.elim (fun e => e ▸ h) id⟩
  · exact List.mem_cons
section
variable {P : Program} {w : World} {A : Around} {E : Value → Shared → Prop} {s : Shared}
theorem setI_add {a : Addr} {L : List Int} {k : Int} {tk : Tok} {Q : Value → Shared → Prop} (R : SetI w s.heap a L) (few : L.length + 1 < 64)
    (hQ : ∀ h', Heap.SameBut a s.heap h' → SetI w h' a (addI k L) → Q .none { s with heap := h', toks := s.toks + 1 }) : wpAny (model P w) A (call (.builtin "set.add") [.ref a, .int k tk]) Q E s := by
  refine setR_add R.1 (by unfold scanBound; omega) fun h' sb new => hQ h' sb ?_
  have e : (addI k L).length = if decide (k ∈ L) = true then L.length else L.length + 1 := by
    unfold addI
    by_cases h : k ∈ L
    · rw [if_pos h, if_pos (decide_eq_true h)]
    · rw [if_neg h, if_neg (by rw [decide_eq_false h]; decide)]
      rfl
  refine ⟨?_, ?_⟩
  · rw [e]
    refine new.congr fun j => ?_
    by_cases h1 : j = k
    · rw [decide_eq_true (mem_addI.mpr (.inl h1)), decide_eq_true h1, Bool.or_true]
    · by_cases h2 : j ∈ L
      · rw [decide_eq_true (mem_addI.mpr (.inr h2)), decide_eq_true h2, Bool.true_or]
      · rw [decide_eq_false (fun z => (mem_addI.mp z).elim h1 h2), decide_eq_false h1, decide_eq_false h2]
        rfl
  · unfold addI
    split
    · exact R.2
    · rename_i h
      exact List.nodup_cons.mpr ⟨h, R.2⟩
end
/-- {.. for ..} of ints: L, what stands in the set -/
abbrev addInt (L : List Int) (y : V) (_ : Hp) (N : List Int → Prop) : Prop := ∃ k, y = .int k ∧ L.length + 1 < 64 ∧ N (addI k L)
abbrev tScN (wi : TI) (g : TG) (tt : TT) (te : TE) (vs : List Nat) (σ : L2.St) (H : Hp) (Qf : List Int → Hp → Prop) : Prop := tSet addInt [] wi g tt te vs σ H Qf
theorem setK_int (X : Cx) : SetK X (fun L h a => SetI X.w h a L) addInt [] where
  keep := fun _ _ _ _ R k => setI_keep R k
  obj := fun _ _ _ R => setI_obj R
  new := fun _ => setI_fresh
  add := fun _ _ _ _ _ _ _ _ _ _ _ _ _ _ _ _ R r ⟨k, e, few, n⟩ q => by
    subst e
    obtain ⟨tk, rfl⟩ := r
    exact setI_add R few fun h' sb new => q _ h' _ n new sb
/-- sorted({..}) -/
def tSortScN (wi : TI) (g : TG) (tt : TT) (te : TE) (vs : List Nat) : TE := fun σ H Q => tScN wi g tt te vs σ H fun L H' => L.length < 64 ∧
  ∀ (ns : List Int) p, ns.Pairwise (· < ·) → (∀ k, k ∈ ns ↔ k ∈ L) → H' p = none → Q (.ref p) (upd H' p (.lst (ns.map V.int)))
section
variable {X : Cx} {W : WX}
theorem pe_sortScN {elt tg iter : Expr} {ifs : List Expr} {scope : Scope} {own : List (Str × Nat)} {pos cpos p0 : Pos} {wi : TI} {g : TG} {tt : TT} {te : TE} (hc : X.calm = true) (hu : X.A.units + 64 < cLine) (hN : X.N.Nodup) (hms : X.mg "sorted" = none) (hi : PI X tg iter wi) (ok : BlkOk X.N X.env.scope scope own)
    (hg : ∀ (s : Shared) (H : Hp) (C : Addr) (cl : List (Str × Addr)) (fp : List Addr), PG (X.blk s H scope (compEnvC scope cl C X.env) fp) tg g) (ht : ∀ (s : Shared) (H : Hp) (C : Addr) (cl : List (Str × Addr)) (fp : List Addr), PTs (X.blk s H scope (compEnvC scope cl C X.env) fp) ifs tt)
    (he : ∀ (s : Shared) (H : Hp) (C : Addr) (cl : List (Str × Addr)) (fp : List Addr), PE (X.blk s H scope (compEnvC scope cl C X.env) fp) elt te) (hgl : Gl X "sorted") (hs : ∀ x, foldedSetIterable iter X.env x = pure x)
    (ho : starEach [.SetComp elt [⟨tg, iter, ifs, 0⟩] scope cpos] X.env = (false, eval (.SetComp elt [⟨tg, iter, ifs, 0⟩] scope cpos) X.env) :: starEach [] X.env) :
    PE X (.Call (.Name "sorted" p0) [.SetComp elt [⟨tg, iter, ifs, 0⟩] scope cpos] [] pos) (tSortScN wi g tt te (own.map (·.2))) := by
  refine ⟨fun pins s σ H Q I h => ?_⟩
  refine wpAny_Call_Name_kw (ld_blt I hgl hms (u := .builtin "sorted") rfl ?_ (by decide) (by decide))
  refine PyProof.Rows.callWith_builtin1 ?_ ho rfl
  rw [ho]
  show wpAny _ _ (spliced ((false, eval (.SetComp elt [⟨tg, iter, ifs, 0⟩] scope cpos) X.env) :: backTo pos (starEach [] X.env))) _ _ s
  refine Calls.spliced_cons (wpAny_mono (set_core (setK_int X) hc hN I hi ok hg ht he hs h) (fun u s2 h2 => ?_) fun _ _ z => z)
  obtain ⟨D, L, H2, rfl, I2, R0, hD, h2, q⟩ := h2
  refine Calls.spliced_nil ?_
  refine sorted_set R0.1 (I2.ok.hd hc) h2 fun s' p out c ns k g o hp hgp hi hs hm hl => ?_
  have hlen : (ns.map V.int).length ≤ sizeLine := by rw [List.length_map, hl, sizeLine_eq]; omega
  have hn : H2 p = none := I2.hok.fresh hp
  have J : Inv X pins σ (upd H2 p (.lst (ns.map V.int))) { s2 with heap := s'.heap, gens := s'.gens, drawn := s'.drawn, toks := s'.toks } :=
    I2.call (ch := []) (Un.laid k hp hn) (I2.hok.laid k hp ⟨hlen, out.toList, c, vals_of_ints hi, hgp⟩) (by rw [g]; exact I2.bare) (fun _ z => nomatch z)
  have e : s' = { s2 with heap := s'.heap, gens := s'.gens, drawn := s'.drawn, toks := s'.toks } := by
    cases s'
    cases s2
    cases o
    rfl
  rw [e]
  exact ⟨.ref p, _, J, rfl, q ns p hs (fun k => (hm k).trans decide_eq_true_iff) hn⟩
end
def scTurnsI (I : DIt) (g : DTG) (tt : DTT) (te : DTE) (s : DSt) (G1 : Gp) (fin : List Int → Prop) : Prop :=
  ∃ f : Nat → Option Int, I.n ≤ 62 ∧ I.here G1 ∧ (∀ i x, i < I.n → I.item i x → g x s G1 fun s2 G2 => tt s2 G2 (fun b G3 => if b = true then te s2 G3 (fun y G4 => (∃ k, f i = some k ∧ y = .int k) ∧ G4 = G1) X0 else f i = none ∧ G3 = G1) X0) ∧
    ∀ out : List Int, out.Pairwise (· < ·) → (∀ k, k ∈ out ↔ ∃ i, i < I.n ∧ f i = some k) → fin out
abbrev dSortScI (di : DTI) (g : DTG) (tt : DTT) (te : DTE) (vs : List Nat) : DTE := fun s G Q E => di s G (fun I G1 => scTurnsI I g tt te (wipeD s vs) G1 fun out => Q (.lst (out.map .int)) G1) E
structure LOkI (f : Nat → Option Int) (i : Nat) (L : List Int) : Prop where
  few : L.length ≤ i
  mem : ∀ k, k ∈ L ↔ ∃ j, j < i ∧ f j = some k
theorem LOkI.yes {f : Nat → Option Int} {i : Nat} {L : List Int} {k : Int} (h : LOkI f i L) (e : f i = some k) : LOkI f (i + 1) (addI k L) := by
  refine ⟨?_, fun j => ?_⟩
  · have := h.few
    unfold addI
    split
    · omega
    · rw [List.length_cons]
      omega
  · rw [mem_addI, h.mem]
    constructor
    · rintro (rfl | ⟨n, h1, h2⟩)
      · exact ⟨i, Nat.lt_succ_self i, e⟩
      · exact ⟨n, by omega, h2⟩
    · rintro ⟨n, h1, h2⟩
      by_cases z : n = i
      · rw [z, e] at h2
        cases h2
        exact .inl rfl
      · exact .inr ⟨n, by omega, h2⟩
theorem LOkI.no {f : Nat → Option Int} {i : Nat} {L : List Int} (h : LOkI f i L) (e : f i = none) : LOkI f (i + 1) L := by
  refine ⟨by have := h.few; omega, fun j => ?_⟩
  rw [h.mem]
  constructor
  · rintro ⟨n, h1, h2⟩
    exact ⟨n, by omega, h2⟩
  · rintro ⟨n, h1, h2⟩
    by_cases z : n = i
    · rw [z, e] at h2
      cases h2
    · exact ⟨n, by omega, h2⟩
theorem ae_sortScI {K : PySem.W.Frag} {W : WX} {ti : TI} {tg : TG} {t1 : TT} {t2 : TE} {di : DTI} {g : DTG} {tt : DTT} {te : DTE} {vs : List Nat} (ai : AI K W ti di)
    (ag : ∀ F σ H s G v x Qd Q, RS K F H G → RepSt K F σ s → Rep K F v x → g x s G Qd → ContW K F σ vs Qd Q → tg v σ H Q) (at_ : AT K W0 t1 tt) (ae : AE K W0 t2 te) : AE K W (tSortScN ti tg t1 t2 vs) (dSortScI di g tt te vs) := fun F σ H s G Qd Ed Q rs st q c cx => by
  refine ai F σ H s G _ Ed _ rs st q (fun F1 H1 G1 J I e1 rs1 ir q1 => ?_) cx
  obtain ⟨f, hU, here, turn, done⟩ := q1
  refine ⟨fun i m L H' => i + m = I.n ∧ ∃ F', FSame F1 F' ∧ RS K F' H' G1 ∧ LOkI f i L, ⟨I.n, Nat.zero_add _, F1, FSame.refl F1, rs1, ⟨Nat.le_refl 0, fun k => ⟨fun h => (nomatch h), fun ⟨j, h, _⟩ => absurd h (Nat.not_lt_zero _)⟩⟩⟩, fun i m L H2 hW => ?_⟩
  obtain ⟨em, F2, e2, rs2, lo⟩ := hW
  by_cases hlt : i < I.n
  · refine .inr ⟨ir.go F2 H2 G1 i e2 rs2 here hlt, fun L' H' => ∃ F', FSame F1 F' ∧ RS K F' H' G1 ∧ LOkI f (i + 1) L', fun L' H' hN => ⟨m - 1, by omega, by omega, hN⟩, fun x H3 hy => ?_⟩
    obtain ⟨F3, dx, e3, rs3, rx, it⟩ := ir.yld F2 H2 G1 i x H3 e2 rs2 here hlt hy
    have e03 := (e1.trans e2).trans e3
    refine ag F3 (wipe σ vs) H3 (wipeD s vs) G1 x dx _ _ rs3 (repst_wipe (st.mono e03) vs) rx (turn i dx hlt it) fun F4 H4 G4 σ4 s4 e4 rs4 st4 w4 q4 => ⟨w4.trans (wipe_wipe vs vs fun _ h => h), ?_⟩
    refine at_ F4 σ4 H4 s4 G4 _ _ _ rs4 st4 q4 (fun F5 H5 G5 b e5 rs5 q5 => ?_) (fun _ _ _ _ _ _ _ _ _ z => z)
    cases b with
    | false =>
      simp only [Bool.false_eq_true, if_false] at q5 ⊢
      obtain ⟨n, rfl⟩ := q5
      exact ⟨F5, ((e2.trans e3).trans e4).trans e5, rs5, lo.no n⟩
    | true =>
      simp only [if_true] at q5 ⊢
      refine ae F5 σ4 H5 s4 G5 _ _ _ rs5 (st4.mono e5) q5 (fun F6 H6 G6 y dy e6 rs6 ry q6 => ?_) (fun _ _ _ _ _ _ _ _ _ z => z)
      obtain ⟨⟨k, hk, rfl⟩, rfl⟩ := q6
      cases ry
      exact ⟨k, rfl, by have := lo.few; omega, F6, (((e2.trans e3).trans e4).trans e5).trans e6, rs6, lo.yes hk⟩
  · have ei : i = I.n := by omega
    subst ei
    refine .inl ⟨ir.stop F2 H2 G1 e2 rs2 here, by have := lo.few; omega, fun ns p pw hm hn => ?_⟩
    exact (c.mono (e1.trans e2)).lst rs2 (repl_of_int ns) (done ns pw fun k => (hm k).trans (lo.mem k)) p hn
section
variable {X : Cx} {W : WX}
theorem de_sortScI {elt tg iter : Expr} {ifs : List Expr} {scope : Scope} {own : List (Str × Nat)} {pos cpos p0 : Pos} {di : DTI} {g : DTG} {tt : DTT} {te : DTE} (hc : X.calm = true) (hu : X.A.units + 64 < cLine) (hN : X.N.Nodup) (hms : X.mg "sorted" = none) (hi : DI X W tg iter di) (ok : BlkOk X.N X.env.scope scope own)
    (hg : ∀ (s : Shared) (H : Hp) (C : Addr) (cl : List (Str × Addr)) (fp : List Addr), DGv (X.blk s H scope (compEnvC scope cl C X.env) fp) (own.map (·.2)) tg g) (ht : ∀ (s : Shared) (H : Hp) (C : Addr) (cl : List (Str × Addr)) (fp : List Addr), DTs (X.blk s H scope (compEnvC scope cl C X.env) fp) ifs tt)
    (he : ∀ (s : Shared) (H : Hp) (C : Addr) (cl : List (Str × Addr)) (fp : List Addr), DE (X.blk s H scope (compEnvC scope cl C X.env) fp) W0 elt te) (hgl : Gl X "sorted" := by rfl) (hs : ∀ x, foldedSetIterable iter X.env x = pure x := by intro _; rfl)
    (ho : starEach [.SetComp elt [⟨tg, iter, ifs, 0⟩] scope cpos] X.env = (false, eval (.SetComp elt [⟨tg, iter, ifs, 0⟩] scope cpos) X.env) :: starEach [] X.env := by rfl) :
    DE X W (.Call (.Name "sorted" p0) [.SetComp elt [⟨tg, iter, ifs, 0⟩] scope cpos] [] pos) (dSortScI di g tt te (own.map (·.2))) := by
  obtain ⟨ti, p, ai⟩ := hi
  exact ⟨⟨_, pe_sortScN (g := tgOf X.K (own.map (·.2)) g) (tt := ttOf X.K W0 tt) (te := tOf X.K W0 te) hc hu hN hms p ok (fun s H C cl fp => (hg s H C cl fp).pg) (fun s H C cl fp => (ht s H C cl fp).pt) (fun s H C cl fp => (he s H C cl fp).pe) hgl hs ho,
    ae_sortScI ai (fun F σ H s G v x Qd Q h1 h2 h3 h4 h5 => ⟨F, s, G, x, Qd, h1, h2, h3, h4, h5⟩) at_of' ae_of⟩⟩
end
end Dl
set_option Elab.async false
set_option linter.all false
set_option maxRecDepth 100000
set_option maxHeartbeats 4000000
/-! sorted(xs) of a list of ints. -/
namespace Dl
open PySem PySem.Spec PyProof.Rows L2 GenW
set_option autoImplicit false
def gSorted (x : D) (G : Gp) (Q : DK) : Prop := ∃ ns : List Int, lv x G = some (ns.map .int) ∧ ∀ ns' : List Int, ns'.Perm ns → ns'.Pairwise (· ≤ ·) → Q (.lst (ns'.map .int)) G
theorem dc_sorted {X : Cx} : DCall X (.builtin "sorted") (g1 gSorted) := dcall1 cr_sortedI fun F H G v x Qd Q rs rv q c => by
  obtain ⟨ns, e, q⟩ := q
  obtain ⟨a, xs, rfl, h1, r1⟩ := lv_at rs rv e
  have z := repl_int r1
  subst z
  exact ⟨a, ns, rfl, .inl (.inl h1), fun ns' p h1 h2 hp => c.lst rs (repl_of_int ns') (q ns' h1 h2) p hp⟩
end Dl
set_option Elab.async false
set_option linter.all false
set_option maxRecDepth 100000
set_option maxHeartbeats 4000000
/-! x is True, x is not False: of truth values, and of data that are none. -/
namespace Dl
open PySem PySem.Spec PyProof.Rows L2 GenW
set_option autoImplicit false
theorem bool_same (a b : Bool) : (Value.bool a == Value.bool b) = decide (a = b) := by cases a <;> cases b <;> rfl
def gIsB (neg : Bool) : G2 := fun x y G Q => match x, y with
  | .bl a, .bl b => Q (.bl (if neg then !decide (a = b) else decide (a = b))) G
  | _, _ => False
section
variable {X : Cx}
theorem op_isBB : OpR X (compareOp .Is) (fun x y H Q => ∃ a b, x = .bl a ∧ y = .bl b ∧ Q (.bl (decide (a = b))) H) := by
  intro pins s σ H x y v u Q I rx ry h
  obtain ⟨a, b, rfl, rfl, q⟩ := h
  cases (show v = Value.bool a from rx)
  cases (show u = Value.bool b from ry)
  exact wpAny_is_plain rfl (fin_bl I q (bool_same a b).symm)
theorem op_notBB : OpR X (compareOp .IsNot) (fun x y H Q => ∃ a b, x = .bl a ∧ y = .bl b ∧ Q (.bl (!decide (a = b))) H) := by
  intro pins s σ H x y v u Q I rx ry h
  obtain ⟨a, b, rfl, rfl, q⟩ := h
  cases (show v = Value.bool a from rx)
  cases (show u = Value.bool b from ry)
  exact wpAny_isNot_plain rfl (fin_bl I q (congrArg not (bool_same a b).symm))
theorem do_isB : DOp X (compareOp .Is) (gIsB false) := ⟨⟨_, op_isBB, fun F H G x y dx dy Qd Q rs rx ry q c => by
  cases rx with
  | bl a =>
    cases ry with
    | bl b => exact ⟨a, b, rfl, rfl, c F H G _ _ (FSame.refl F) rs (.bl _) q⟩
    | _ => exact False.elim q
  | _ => exact False.elim q⟩⟩
theorem do_notB : DOp X (compareOp .IsNot) (gIsB true) := ⟨⟨_, op_notBB, fun F H G x y dx dy Qd Q rs rx ry q c => by
  cases rx with
  | bl a =>
    cases ry with
    | bl b => exact ⟨a, b, rfl, rfl, c F H G _ _ (FSame.refl F) rs (.bl _) q⟩
    | _ => exact False.elim q
  | _ => exact False.elim q⟩⟩
end
end Dl
set_option Elab.async false
set_option linter.all false
set_option maxRecDepth 100000
set_option maxHeartbeats 4000000
/-! Dicts: keys that are ints and texts; keys that are tuples of ints (sought by tuples of ints, texts, None). -/
namespace Dl
open PySem PySem.Spec PyProof.Rows L2 GenW
set_option autoImplicit false
/-! ### data -/
def leafD : D → Option Leaf
  | .int i => some (.num i)
  | .str x => some (.text x)
  | .non => some .none
  | _ => none
def leavesD : List D → Option (List Leaf)
  | [] => some []
  | d :: ds => match leafD d, leavesD ds with
    | some k, some ks => some (k :: ks)
    | _, _ => none
def intsD : List D → Option (List Int)
  | [] => some []
  | .int i :: ds => match intsD ds with
    | some is => some (i :: is)
    | none => none
  | _ :: _ => none
def keyD : D → Option Key
  | .int i => some (.inl i)
  | .str x => some (.inr x)
  | _ => none
def lookT (kvs : List (List Int × D)) (k : List Leaf) : Option D := (kvs.find? fun p => decide (p.1.map Leaf.num = k)).map (·.2)
def lookK (kvs : List (Key × D)) (k : Key) : Option D := (kvs.find? fun p => decide (p.1 = k)).map (·.2)
def putT (kvs : List (List Int × D)) (k : List Int) (d : D) : List (List Int × D) :=
  if (lookT kvs (k.map Leaf.num)).isSome = true then kvs.map fun p => if p.1.map Leaf.num = k.map Leaf.num then (p.1, d) else p else kvs ++ [(k, d)]
def putDk (kvs : List (Key × D)) (k : Key) (d : D) : List (Key × D) :=
  if (lookK kvs k).isSome = true then kvs.map fun p => if p.1 = k then (p.1, d) else p else kvs ++ [(k, d)]
/-- what stands in the dict x at y (none: no dict, no key) -/
def lookD (x y : D) (G : Gp) : Option (Option D) := match x with
  | .ref a => match G a with
    | some (.dk kvs) => (keyD y).map (lookK kvs)
    | some (.dt kvs) => match y with
      | .tup ds => (leavesD ds).map (lookT kvs)
      | _ => none
    | _ => none
  | _ => none
/-! ### the same of values -/
def LfV (v : V) (k : Leaf) : Prop := match k with
  | .num i => v = .int i
  | .text x => v = .str x
  | .none => v = .non
abbrev LfVs : List V → List Leaf → Prop := Paired LfV
theorem leaf_rep {K : PySem.W.Frag} {F : Fp} {v : V} {d : D} {k : Leaf} (r : Rep K F v d) (h : leafD d = some k) : LfV v k := by
  cases r with
  | int i => cases h; rfl
  | str x => cases h; rfl
  | non => cases h; rfl
  | _ => exact nomatch h
theorem leaves_rep {K : PySem.W.Frag} {F : Fp} : ∀ {ds : List D} {vs : List V} {ks : List Leaf}, RepL K F vs ds → leavesD ds = some ks → LfVs vs ks
  | [], _, _, r, h => by
    cases r
    cases h
    exact .nil
  | d :: ds, _, ks, r, h => by
    cases r with
    | cons r1 r2 =>
      unfold leavesD at h
      split at h
      · rename_i k ks e1 e2
        cases h
        exact .cons (leaf_rep r1 e1) (leaves_rep r2 e2)
      · cases h
theorem ints_rep {K : PySem.W.Frag} {F : Fp} : ∀ {ds : List D} {vs : List V} {is : List Int}, RepL K F vs ds → intsD ds = some is → vs = is.map V.int
  | [], _, _, r, h => by
    cases r
    cases h
    rfl
  | d :: ds, _, is, r, h => by
    cases r with
    | cons r1 r2 =>
      unfold intsD at h
      split at h
      · rename_i e0
        cases e0
      · rename_i i ds' e0
        split at h
        · rename_i is e
          cases h
          cases e0
          cases r1
          rw [ints_rep r2 e]
          rfl
        · cases h
      · cases h
theorem lf_ints : ∀ is : List Int, LfVs (is.map V.int) (is.map Leaf.num)
  | [] => .nil
  | i :: is => .cons rfl (lf_ints is)
theorem leaf_is {P : Program} {w : World} {v : V} {u : Value} {k : Leaf} (h : LfV v k) (r : RelV v u) : (leafKind P w).is k u = true := by
  cases k with
  | num i =>
    cases (show v = .int i from h)
    obtain ⟨t, rfl⟩ := (show ∃ t, u = Value.int i t from r)
    exact decide_eq_true rfl
  | text x =>
    cases (show v = .str x from h)
    obtain ⟨t, rfl⟩ := (show ∃ t, u = Value.str x t from r)
    show (x == x) = true
    simp
  | none =>
    cases (show v = .non from h)
    cases (show u = Value.none from r)
    rfl
theorem leaves_are {P : Program} {w : World} : ∀ {ks : List Leaf} {vs : List V} {us : List Value}, LfVs vs ks → Vals vs us → ItemsAre (leafKind P w) ks us
  | _, _, _, .nil, .nil => .nil
  | _, _, _, .cons h hs, .cons r rs => .cons (leaf_is h r) (leaves_are hs rs)
section
variable {X : Cx} {pins : List (Addr × Obj)} {σ : St} {H : Hp} {s : Shared}
theorem tab_key (I : Inv X pins σ H s) {b : Addr} {ys : List V} {ks : List Leaf} (h : SqT X.K H b ys) (l : LfVs ys ks) : (tupleKind (leafKind X.prog X.w)).is s.heap ks b := by
  obtain ⟨its, r, ⟨o, h1, h2, n, h3⟩, _⟩ := I.tuple h
  exact ⟨o, its.toArray, n, h1, h2, h3, by simpa using leaves_are l r⟩
end
/-- the keys of a dict of tuples stand where it says -/
def KeysAt (K : PySem.W.Frag) (H : Hp) (xs : List (List Leaf × Addr × Value)) : Prop := ∀ q ∈ xs, ∃ is : List Int, SqT K H q.2.1 (is.map V.int) ∧ q.1 = is.map Leaf.num
/-- the dict at a holds xs -/
def TabAt (K : PySem.W.Frag) (H : Hp) (a : Addr) (xs : List (List Leaf × Addr × Value)) : Prop := H a = some (tabO a xs) ∧ (a == sysModules) = false ∧ xs.length ≤ sizeLine ∧ KeysAt K H xs
section
variable {X : Cx} {pins : List (Addr × Obj)} {σ : St} {H : Hp} {s : Shared}
theorem tab_dict (I : Inv X pins σ H s) {a : Addr} {xs : List (List Leaf × Addr × Value)} (h : TabAt X.K H a xs) : s.heap.DictOfH (tupleKind (leafKind X.prog X.w)) a xs := by
  obtain ⟨h1, _, _, h4⟩ := h
  obtain ⟨⟨o, es, ep, e1, e2, e3, e4, e5⟩, _⟩ := I.hok a _ h1
  refine ⟨o, es, ep, e1, e2, e3, e4 _ _, fun x hx => ?_, e5⟩
  obtain ⟨is, k1, k2⟩ := h4 x hx
  rw [k2]
  exact tab_key I k1 (lf_ints is)
end
/-- what the dict x holds at y -/
def GetV (K : PySem.W.Frag) (H : Hp) (x y : V) (o : Option V) : Prop := ∃ a, x = .ref a ∧ ((∃ kvs k, H a = some (.dK kvs) ∧ y = kV k ∧ o = valV kvs k) ∨
  ∃ xs b ys ks, TabAt K H a xs ∧ y = .ref b ∧ SqT K H b ys ∧ LfVs ys ks ∧ RelO o ((atKey xs ks).map (·.2)))
def RelOD (K : PySem.W.Frag) (F : Fp) : Option V → Option D → Prop
  | some v, some d => Rep K F v d
  | none, none => True
  | _, _ => False
theorem tab_val {K : PySem.W.Frag} {F : Fp} {kvs : List (List Int × D)} {xs : List (List Leaf × Addr × Value)} (r : Paired (TabR K F) kvs xs) (k : List Leaf) :
    ∃ o, RelO o ((atKey xs k).map (·.2)) ∧ RelOD K F o (lookT kvs k) := by
  induction r with
  | nil => exact ⟨none, True.intro, True.intro⟩
  | @cons p q ps qs h t ih =>
    obtain ⟨h1, h2, v, h3, h4⟩ := h
    by_cases e : p.1.map Leaf.num = k
    · have e' : q.1 = k := h1.trans e
      have b : atKey (q :: qs) k = some q.2 := by simp [atKey, List.find?_cons, e']
      have c : lookT (p :: ps) k = some p.2 := by simp [lookT, List.find?_cons, e]
      rw [b, c]
      exact ⟨some v, h4, h3⟩
    · have e' : ¬ q.1 = k := fun z => e (h1.symm.trans z)
      have b : atKey (q :: qs) k = atKey qs k := by simp [atKey, List.find?_cons, e']
      have c : lookT (p :: ps) k = lookT ps k := by simp [lookT, List.find?_cons, e]
      rw [b, c]
      exact ih
theorem dk_val {K : PySem.W.Frag} {F : Fp} : ∀ {vs : List (Key × V)} {kvs : List (Key × D)} (k : Key), vs.map (·.1) = kvs.map (·.1) → RepL K F (vs.map (·.2)) (kvs.map (·.2)) → RelOD K F (valV vs k) (lookK kvs k)
  | [], [], _, _, _ => True.intro
  | [], _ :: _, _, h, _ => nomatch h
  | _ :: _, [], _, h, _ => nomatch h
  | p :: vs, q :: kvs, k, h, r => by
    rw [List.map_cons, List.map_cons] at h r
    obtain ⟨h1, h2⟩ := List.cons.inj h
    cases r with
    | cons r1 r2 =>
      by_cases e : p.1 = k
      · have e' : q.1 = k := h1.symm.trans e
        have c : lookK (q :: kvs) k = some q.2 := by simp [lookK, List.find?_cons, e']
        rw [valV_pos e, c]
        exact r1
      · have e' : ¬ q.1 = k := fun z => e (h1.trans z)
        have c : lookK (q :: kvs) k = lookK kvs k := by simp [lookK, List.find?_cons, e']
        rw [valV_neg e, c]
        exact dk_val k h2 r2
theorem tab_at {K : PySem.W.Frag} {F : Fp} {H : Hp} {G : Gp} (rs : RS K F H G) {a : Addr} {kvs : List (List Int × D)} (h : G a = some (.dt kvs)) : ∃ xs, TabAt K H a xs ∧ Paired (TabR K F) kvs xs := by
  obtain ⟨xs, h1, h2, h3, h4⟩ := (rs.gf a _ h).2
  have l : kvs.length = xs.length := Paired.length h4
  refine ⟨xs, ⟨h1, h2, by omega, fun q hq => ?_⟩, h4⟩
  clear h1 h2 h3 l h
  induction h4 with
  | nil => exact nomatch hq
  | @cons p q' ps qs h t ih =>
    rcases List.mem_cons.mp hq with rfl | hq
    · obtain ⟨k1, k2, _⟩ := h
      exact ⟨_, same_t rs.same k2, k1⟩
    · exact ih hq
theorem get_of {K : PySem.W.Frag} {F : Fp} {H : Hp} {G : Gp} {v u : V} {x y : D} {od : Option D} (rs : RS K F H G) (rx : Rep K F v x) (ry : Rep K F u y) (h : lookD x y G = some od) : ∃ o, GetV K H v u o ∧ RelOD K F o od := by
  unfold lookD at h
  split at h
  · rename_i a
    cases rx
    split at h
    · rename_i kvs eg
      obtain ⟨vs, h1, h2, h3⟩ := (rs.gf a _ eg).2
      obtain ⟨k, hk, rfl⟩ := Option.map_eq_some_iff.mp h
      have ey : u = kV k := by
        cases ry with
        | int i => cases hk; rfl
        | str z => cases hk; rfl
        | _ => exact nomatch hk
      exact ⟨_, ⟨a, rfl, .inl ⟨vs, k, h1, ey, rfl⟩⟩, dk_val k h2 h3⟩
    · rename_i kvs eg
      split at h
      · rename_i ds
        obtain ⟨ks, hk, rfl⟩ := Option.map_eq_some_iff.mp h
        obtain ⟨xs, t, r⟩ := tab_at rs eg
        obtain ⟨o, r1, r2⟩ := tab_val r ks
        cases ry with
        | tup s1 s2 => exact ⟨o, ⟨a, rfl, .inr ⟨xs, _, _, ks, t, rfl, same_t rs.same s1, leaves_rep s2 hk, r1⟩⟩, r2⟩
      · cases h
    · cases h
  · cases h
section
variable {X : Cx} {pins : List (Addr × Obj)} {σ : St} {H : Hp} {s : Shared} {x y v d : V} {xv u r : Value} {o : Option V} {A : Around} {E : Value → Shared → Prop}
theorem g_typeIs (I : Inv X pins σ H s) (g : GetV X.K H x y o) (rx : RelV x xv) : s.TypeIs xv "dict" := by
  obtain ⟨a, rfl, ⟨kvs, k, e, _⟩ | ⟨xs, b, ys, ks, t, _⟩⟩ := g
  · cases (show xv = Value.ref a from rx)
    obtain ⟨_, _, vs, _, dd⟩ := dk_of I.hok e
    exact dd.typeIs
  · cases (show xv = Value.ref a from rx)
    exact (tab_dict I t).typeIs
theorem g_getItem {Q : Value → Shared → Prop} (hu : A.units + 1 < cLine) (I : Inv X pins σ H s) (g : GetV X.K H x y (some v)) (rx : RelV x xv) (ry : RelV y u) (h : ∀ w' s', Inv X pins σ H s' → RelV v w' → Q w' s') :
    wpAny (model X.prog X.w) A (getItem xv u) Q E s := by
  obtain ⟨a, rfl, ⟨kvs, k, e, ey, l⟩ | ⟨xs, b, ys, ks, t, ey, s1, s2, l⟩⟩ := g
  · cases (show xv = Value.ref a from rx)
    exact d_getItem hu I (.inl ⟨kvs, k, .inl e, ey, l⟩) ry h
  · cases (show xv = Value.ref a from rx)
    subst ey
    cases (show u = Value.ref b from ry)
    obtain ⟨w', hw, rw'⟩ := RelO.some_of (v := v) l
    obtain ⟨p, hp, hp2⟩ := Option.map_eq_some_iff.mp hw
    refine wpAny_getItem_heap (tupleKind_room_in1 hu) (tab_key I s1 s2) (tab_dict I t) hp ?_
    rw [hp2]
    exact h w' _ (I.tok _) rw'
theorem g_in {Q : Value → Shared → Prop} (hu : A.units + 1 < cLine) (I : Inv X pins σ H s) (g : GetV X.K H x y o) (rx : RelV x xv) (ry : RelV y u) (h : ∀ s', Inv X pins σ H s' → Q (.bool o.isSome) s') :
    wpAny (model X.prog X.w) A (compareOp .In u xv) Q E s := by
  obtain ⟨a, rfl, ⟨kvs, k, e, ey, l⟩ | ⟨xs, b, ys, ks, t, ey, s1, s2, l⟩⟩ := g
  · cases (show xv = Value.ref a from rx)
    exact d_in hu I (.inl ⟨kvs, k, .inl e, ey, l⟩) ry h
  · cases (show xv = Value.ref a from rx)
    subst ey
    cases (show u = Value.ref b from ry)
    refine wpAny_in_heap (tupleKind_room_in1 hu) (tab_key I s1 s2) t.2.1 (tab_dict I t) ?_
    have q := l.isSome_eq
    rw [Option.isSome_map] at q
    rw [← q]
    exact h _ (I.tok _)
theorem g_notIn {Q : Value → Shared → Prop} (hu : A.units + 1 < cLine) (I : Inv X pins σ H s) (g : GetV X.K H x y o) (rx : RelV x xv) (ry : RelV y u) (h : ∀ s', Inv X pins σ H s' → Q (.bool (!o.isSome)) s') :
    wpAny (model X.prog X.w) A (compareOp .NotIn u xv) Q E s := by
  obtain ⟨a, rfl, ⟨kvs, k, e, ey, l⟩ | ⟨xs, b, ys, ks, t, ey, s1, s2, l⟩⟩ := g
  · cases (show xv = Value.ref a from rx)
    exact d_notIn hu I (.inl ⟨kvs, k, .inl e, ey, l⟩) ry h
  · cases (show xv = Value.ref a from rx)
    subst ey
    cases (show u = Value.ref b from ry)
    refine wpAny_notIn_heap (tupleKind_room_in1 hu) (tab_key I s1 s2) t.2.1 (tab_dict I t) ?_
    have q := l.isSome_eq
    rw [Option.isSome_map] at q
    rw [← q]
    exact h _ (I.tok _)
end
section
variable {X : Cx}
theorem ix_dict (hu : X.A.units + 1 < cLine) : IxR X (fun x y H Q => ∃ v, GetV X.K H x y (some v) ∧ Q v H) := by
  intro value slice pins s σ H x y v u Q I rx ry h hs
  obtain ⟨r, g, q⟩ := h
  exact tail_any (g_typeIs I g rx) PySem.F.slot_dict_getitem.lookup (g_getItem hu I g rx ry fun w' s' I' rw' => ⟨r, H, I', rw', q⟩) hs
end
def gDk : G2 := fun x y G Q => match lookD x y G with
  | some (some d) => Q d G
  | _ => False
section
variable {X : Cx} {W : WX} {a b : Expr} {da db : DTE} {pos : Pos}
theorem de_dix (hu : X.A.units + 1 < cLine) (h : DE X W a da) (h2 : DE X W b db) (hp : PlainIx b := by exact fun _ _ => rfl) : DE X W (.Subscript a b pos) (dOp gDk da db) := by
  obtain ⟨t, p, q⟩ := h
  obtain ⟨u, p2, q2⟩ := h2
  refine ⟨⟨_, pe_ix (ix_dict hu) p p2 hp, ae_op (fun F H G x y dx dy Qd Q rs rx ry q c => ?_) q q2⟩⟩
  unfold gDk at q
  split at q
  · rename_i d e
    obtain ⟨o, g, r⟩ := get_of rs rx ry e
    cases o with
    | none => exact r.elim
    | some v => exact ⟨v, g, c F H G v d (FSame.refl F) rs r q⟩
  · exact q.elim
end
/-! ### y in d -/
def gInD (neg : Bool) : G2 := fun x y G Q => match lookD y x G with
  | some o => Q (.bl (if neg then !o.isSome else o.isSome)) G
  | none => False
theorem RelOD.some {K : PySem.W.Frag} {F : Fp} {o : Option V} {d : Option D} (r : RelOD K F o d) : o.isSome = d.isSome := by
  cases o <;> cases d <;> first | rfl | exact r.elim
section
variable {X : Cx}
theorem do_inD (hu : X.A.units + 1 < cLine) : DOp X (compareOp .In) (gInD false) := ⟨⟨fun x y H Q => ∃ o, GetV X.K H y x o ∧ Q (.bl o.isSome) H, (by
  intro pins s σ H x y v u Q I rx ry h
  obtain ⟨o, g, q⟩ := h
  exact g_in hu I g ry rx fun s' I' => ⟨.bl o.isSome, H, I', rfl, q⟩), fun F H G x y dx dy Qd Q rs rx ry q c => by
  unfold gInD at q
  split at q
  · rename_i o e
    obtain ⟨ov, g, r⟩ := get_of rs ry rx e
    refine ⟨ov, g, ?_⟩
    rw [r.some]
    exact c F H G _ _ (FSame.refl F) rs (.bl _) q
  · exact q.elim⟩⟩
theorem do_notInD (hu : X.A.units + 1 < cLine) : DOp X (compareOp .NotIn) (gInD true) := ⟨⟨fun x y H Q => ∃ o, GetV X.K H y x o ∧ Q (.bl (!o.isSome)) H, (by
  intro pins s σ H x y v u Q I rx ry h
  obtain ⟨o, g, q⟩ := h
  exact g_notIn hu I g ry rx fun s' I' => ⟨.bl (!o.isSome), H, I', rfl, q⟩), fun F H G x y dx dy Qd Q rs rx ry q c => by
  unfold gInD at q
  split at q
  · rename_i o e
    obtain ⟨ov, g, r⟩ := get_of rs ry rx e
    refine ⟨ov, g, ?_⟩
    rw [r.some]
    exact c F H G _ _ (FSame.refl F) rs (.bl _) q
  · exact q.elim⟩⟩
end
/-! ### an empty dict -/
abbrev dNewK : DTE := fun _ G Q _ => ∀ p, G p = none → Q (.ref p) (gupd G p (.dk []))
abbrev dNewT : DTE := fun _ G Q _ => ∀ p, G p = none → Q (.ref p) (gupd G p (.dt []))
section
variable {X : Cx} {W : WX} {pos : Pos}
theorem de_newK : DE X W (.Dict [] [] pos) dNewK := ⟨⟨_, pe_dnewK, fun F σ H s G Qd Ed Q rs st hq c cx p hp =>
  c F _ _ _ _ (FSame.refl F) (rs.newG hp (g := .dk []) ⟨[], upd_same, rfl, .nil⟩) (.ref p) (hq p (rs.free hp).2)⟩⟩
theorem tabO_ok {P : Program} {w : World} {H : Hp} {h : Heap} {a : Addr} {xs : List (List Leaf × Addr × Value)} {o : Obj} {es : Array DictEntry} {ep : Nat} (h1 : h.get? a = some o) (h2 : o.ExactDict) (h3 : o.data = .dict es ep)
    (h4 : ∀ P w, es.toList = xs.map (entryOfKey (tupleKind (leafKind P w)))) (h5 : (xs.map (·.1)).Nodup) : ObjOk P w H h a (tabO a xs) :=
  ⟨⟨o, es, ep, h1, h2, h3, h4, h5⟩, ⟨o, h1⟩, fun g1 g2 ⟨o, es, ep, e1, r⟩ k => ⟨o, es, ep, k o e1, r⟩⟩
theorem pe_newT : PE X (.Dict [] [] pos) (fun _ H Q => ∀ p, H p = none → (p == sysModules) = false → Q (.ref p) (upd H p (tabO p []))) := ⟨fun pins s σ H Q I h =>
  wpAny_Dict_empty ⟨.ref s.heap.objs.size, _, I.laid (a := s.heap.objs.size) (o := tabO s.heap.objs.size []) (t' := s.toks) (fun _ _ q => Heap.get?_push_of_some _ q) (Nat.le_refl _)
    (tabO_ok (es := #[]) (ep := 0) (Heap.get?_push_size _ rfl) ⟨rfl, rfl, rfl⟩ rfl (fun _ _ => rfl) List.nodup_nil), rfl, h _ (I.hok.fresh (Nat.le_refl _)) (beq_eq_false_iff_ne.mpr (Ne.symm (Nat.ne_of_lt I.big)))⟩⟩
theorem de_newT : DE X W (.Dict [] [] pos) dNewT := ⟨⟨_, pe_newT, fun F σ H s G Qd Ed Q rs st hq c cx p hp hs =>
  c F _ _ _ _ (FSame.refl F) (rs.newG hp (g := .dt []) ⟨[], upd_same, hs, Nat.zero_le _, .nil⟩) (.ref p) (hq p (rs.free hp).2)⟩⟩
end
/-! ### d[y] = v -/
theorem ent_any {P P' : Program} {w w' : World} {q : List Leaf × Addr × Value} {is : List Int} (h : q.1 = is.map Leaf.num) : entryOfKey (tupleKind (leafKind P w)) q = entryOfKey (tupleKind (leafKind P' w')) q := by
  have e : (tupleKind (leafKind P w)).hash q.1 = (tupleKind (leafKind P' w')).hash q.1 := by
    rw [h]
    show tupleKeyHash (leafKind P w) (is.map Leaf.num) = tupleKeyHash (leafKind P' w') (is.map Leaf.num)
    unfold tupleKeyHash
    rw [List.map_map, List.map_map]
    rfl
  unfold entryOfKey
  rw [e]
theorem stored_mem {xs : List (List Leaf × Addr × Value)} {k : List Leaf} {b : Addr} {r : Value} {q : List Leaf × Addr × Value} (h : q ∈ storedH xs k b r) : (∃ q' ∈ xs, q'.1 = q.1 ∧ q'.2.1 = q.2.1) ∨ q = (k, b, r) := by
  unfold storedH at h
  split at h
  · obtain ⟨q', h1, h2⟩ := List.mem_map.mp h
    refine .inl ⟨q', h1, ?_⟩
    unfold putAt at h2
    split at h2
    · rw [← h2]
      exact ⟨rfl, rfl⟩
    · rw [h2]
      exact ⟨rfl, rfl⟩
  · rcases List.mem_append.mp h with h | h
    · exact .inl ⟨q, h, rfl, rfl⟩
    · exact .inr (List.mem_singleton.mp h)
theorem tab_map {K : PySem.W.Frag} {F : Fp} {kvs : List (List Int × D)} {xs : List (List Leaf × Addr × Value)} (r : Paired (TabR K F) kvs xs) (k : List Leaf) {d : D} {v : V} {u : Value} (rv : Rep K F v d) (ru : RelV v u) :
    Paired (TabR K F) (kvs.map fun p => if p.1.map Leaf.num = k then (p.1, d) else p) (xs.map (putAt k u)) := by
  induction r with
  | nil => exact .nil
  | @cons p q ps qs h t ih =>
    rw [List.map_cons, List.map_cons]
    refine .cons ?_ ih
    obtain ⟨h1, h2, h3⟩ := h
    unfold putAt
    by_cases e : p.1.map Leaf.num = k
    · rw [if_pos e, if_pos (h1.trans e)]
      exact ⟨h1, h2, v, rv, ru⟩
    · rw [if_neg e, if_neg (fun z => e (h1.symm.trans z))]
      exact ⟨h1, h2, h3⟩
theorem tab_put {K : PySem.W.Frag} {F : Fp} {kvs : List (List Int × D)} {xs : List (List Leaf × Addr × Value)} (r : Paired (TabR K F) kvs xs) (is : List Int) {b : Addr} {d : D} {v : V} {u : Value} (hb : SqT K (toH F) b (is.map V.int)) (rv : Rep K F v d) (ru : RelV v u) :
    Paired (TabR K F) (putT kvs is d) (storedH xs (is.map Leaf.num) b u) := by
  have e : (lookT kvs (is.map Leaf.num)).isSome = (atKey xs (is.map Leaf.num)).isSome := by
    obtain ⟨o, h1, h2⟩ := tab_val r (is.map Leaf.num)
    rw [← h2.some, h1.isSome_eq, Option.isSome_map]
  unfold putT storedH
  rw [e]
  by_cases q : (atKey xs (is.map Leaf.num)).isSome = true
  · rw [if_pos q, if_pos q]
    exact tab_map r _ rv ru
  · rw [if_neg q, if_neg q]
    exact Paired.snoc r ⟨rfl, hb, v, rv, ru⟩
theorem putT_len (kvs : List (List Int × D)) (is : List Int) (d : D) : (putT kvs is d).length ≤ kvs.length + 1 := by
  unfold putT
  split
  · rw [List.length_map]
    omega
  · rw [List.length_append]
    exact Nat.le_refl _
theorem dk_put {K : PySem.W.Frag} {F : Fp} {vs : List (Key × V)} {kvs : List (Key × D)} (k : Key) {v : V} {d : D} (h1 : vs.map (·.1) = kvs.map (·.1)) (h2 : RepL K F (vs.map (·.2)) (kvs.map (·.2))) (rv : Rep K F v d) :
    (putK vs k v).map (·.1) = (putDk kvs k d).map (·.1) ∧ RepL K F ((putK vs k v).map (·.2)) ((putDk kvs k d).map (·.2)) := by
  have e : (vs.any fun kv => decide (kv.1 = k)) = (lookK kvs k).isSome := by
    rw [valV_any, (dk_val k h1 h2).some]
  unfold putK putDk
  rw [e]
  by_cases q : (lookK kvs k).isSome = true
  · rw [if_pos q, if_pos q]
    clear e q
    revert kvs
    induction vs with
    | nil =>
      intro kvs h1 h2
      cases kvs with
      | nil => exact ⟨rfl, .nil⟩
      | cons q qs => exact nomatch h1
    | cons p ps ih =>
      intro kvs h1 h2
      cases kvs with
      | nil => exact nomatch h1
      | cons q qs =>
        rw [List.map_cons, List.map_cons] at h1 h2
        obtain ⟨a1, a2⟩ := List.cons.inj h1
        cases h2 with
        | cons b1 b2 =>
          obtain ⟨i1, i2⟩ := ih a2 b2
          rw [List.map_cons, List.map_cons, List.map_cons, List.map_cons, List.map_cons, List.map_cons, i1]
          by_cases e : p.1 = k
          · rw [if_pos e, if_pos (a1.symm.trans e)]
            exact ⟨by rw [show (p.1, v).1 = (q.1, d).1 from a1], .cons rv i2⟩
          · rw [if_neg e, if_neg (fun z => e (a1.trans z))]
            exact ⟨by rw [a1], .cons b1 i2⟩
  · rw [if_neg q, if_neg q]
    rw [List.map_append, List.map_append, List.map_append, List.map_append, h1]
    exact ⟨rfl, h2.append (.cons rv .nil)⟩
def rPutD (K : PySem.W.Frag) : V → V → V → Hp → (Hp → Prop) → Prop := fun o i v H Q => ∃ a, o = .ref a ∧ ((∃ kvs k, H a = some (.dK kvs) ∧ i = kV k ∧ kvs.length < sizeLine ∧ Q (upd H a (.dK (putK kvs k v)))) ∨
  ∃ xs b, ∃ is : List Int, TabAt K H a xs ∧ i = .ref b ∧ SqT K H b (is.map V.int) ∧ xs.length < sizeLine ∧ ∀ r, RelV v r → Q (upd H a (tabO a (storedH xs (is.map Leaf.num) b r))))
section
variable {X : Cx}
theorem set_dict (hu : X.A.units + 1 < cLine) : PSet X (rPutD X.K) := by
  intro pins s σ H o i v ov iv u Q I ro ri rv h
  obtain ⟨a, rfl, ⟨kvs, k, e, ei, hl, q⟩ | ⟨xs, b, is, t, ei, s1, hl, q⟩⟩ := h
  · cases (show ov = Value.ref a from ro)
    exact d_setItem hu I (.inl ⟨kvs, k, e, ei, hl, rfl⟩) ri rv fun s' I' => ⟨_, I', q⟩
  · cases (show ov = Value.ref a from ro)
    subst ei
    cases (show iv = Value.ref b from ri)
    refine wpAny_setItem_heap (hsz := Nat.le_of_lt hl) (tupleKind_room_in1 hu) (tab_key I s1 (lf_ints is)) (tab_dict I t) fun h' dd' hs => ⟨_, ?_, q u rv⟩
    obtain ⟨ob, es, ep, hq, h2, h3, h4, _, h5⟩ := dd'
    refine d_write I (by rw [t.1]; exact True.intro) hs ⟨ob, hq⟩ (tabO_ok hq h2 h3 (fun P w => ?_) h5)
    rw [h4]
    refine List.map_congr_left fun z hz => ?_
    rcases stored_mem hz with ⟨q', m, e1, e2⟩ | e
    · obtain ⟨is', _, e3⟩ := t.2.2.2 q' m
      exact ent_any (e1.symm.trans e3)
    · rw [e]
      exact ent_any rfl
end
def gPutD (o i x : D) (G : Gp) (Q : Gp → Prop) : Prop := match o with
  | .ref a => match G a with
    | some (.dk kvs) => match keyD i with
      | some k => kvs.length < sizeLine ∧ Q (gupd G a (.dk (putDk kvs k x)))
      | none => False
    | some (.dt kvs) => match i with
      | .tup ds => match intsD ds with
        | some is => kvs.length < sizeLine ∧ Q (gupd G a (.dt (putT kvs is x)))
        | none => False
      | _ => False
    | _ => False
  | _ => False
abbrev dgDk (do_ di : DTE) : DTG := fun x s G Q => do_ s G (fun o G1 => di s G1 (fun i G2 => gPutD o i x G2 fun G3 => Q s G3) X0) X0
section
variable {X : Cx} {pos : Pos}
theorem dg_dk {o i : Expr} {do_ di : DTE} (hu : X.A.units + 1 < cLine) (h : DE X W0 o do_) (h2 : DE X W0 i di) (ha : ∀ v, assign (.Subscript o i pos) X.env v = (do
      let ov ← holding [v] (eval o X.env)
      let iv ← holding [v, ov] (eval i X.env)
      standAt pos
      holding [v, ov, iv] (setItem ov iv v)
      release [v, ov, iv] []) := by intro _; rfl) : DG X (.Subscript o i pos) (dgDk do_ di) := by
  obtain ⟨t, p, a⟩ := h
  obtain ⟨u, p2, a2⟩ := h2
  refine ⟨⟨_, pg_sub p p2 (set_dict hu) ha, fun F σ H s G v x Qd Q rs st rv q c => ?_⟩⟩
  refine a F σ H s G _ X0 _ rs st q (fun F1 H1 G1 ov ox e1 rs1 ro q1 => ?_) cx0
  refine a2 F1 σ H1 s G1 _ X0 _ rs1 (st.mono e1) q1 (fun F2 H2 G2 iv ix e2 rs2 ri q2 => ?_) cx0
  have rv2 := rv.mono (e1.trans e2)
  have st2 := st.mono (e1.trans e2)
  unfold gPutD at q2
  split at q2
  · rename_i b
    cases ro
    split at q2
    · rename_i kvs eg
      split at q2
      · rename_i k hk
        obtain ⟨vs, h1, h3, h4⟩ := (rs2.gf b _ eg).2
        have ei : iv = kV k := by
          cases ri with
          | int i => cases hk; rfl
          | str z => cases hk; rfl
          | _ => exact nomatch hk
        have l : vs.length = kvs.length := by
          have := congrArg List.length h3
          rwa [List.length_map, List.length_map] at this
        obtain ⟨k1, k2⟩ := dk_put k h3 h4 rv2
        exact ⟨b, rfl, .inl ⟨vs, k, h1, ei, by rw [l]; exact q2.1, c F2 _ _ σ s (e1.trans e2) (rs2.setG eg (o := .dK (putK vs k v)) (g := .dk (putDk kvs k x)) ⟨_, upd_same, k1, k2⟩) st2 q2.2⟩⟩
      · exact q2.elim
    · rename_i kvs eg
      split at q2
      · rename_i ds
        split at q2
        · rename_i is hi
          obtain ⟨xs, t, r⟩ := tab_at rs2 eg
          have l : kvs.length = xs.length := Paired.length r
          cases ri with
          | tup s1 s2 =>
            have e := ints_rep s2 hi
            subst e
            refine ⟨b, rfl, .inr ⟨xs, _, is, t, rfl, same_t rs2.same s1, by rw [← l]; exact q2.1, fun z hz => ?_⟩⟩
            exact c F2 _ _ σ s (e1.trans e2) (rs2.setG eg (g := .dt (putT kvs is x)) ⟨_, upd_same, t.2.1, by have := putT_len kvs is x; have := q2.1; omega, tab_put r is s1 rv2 hz⟩) st2 q2.2
        · exact q2.elim
      · exact q2.elim
    · exact q2.elim
  · exact q2.elim
end
end Dl
set_option Elab.async false
set_option linter.all false
set_option maxRecDepth 100000
set_option maxHeartbeats 4000000
/-! Dicts, more: d.get(k, x), len(d), the list of a dict's keys, {k: v for ..}. -/
namespace Dl
open PySem PySem.Spec PyProof.Rows L2 GenW
set_option autoImplicit false
/-! ### d.get(y, z) -/
def IsDV (K : PySem.W.Frag) (H : Hp) (x : V) : Prop := ∃ a, x = .ref a ∧ ((∃ kvs, H a = some (.dK kvs)) ∨ ∃ xs, TabAt K H a xs)
section
variable {X : Cx} {pins : List (Addr × Obj)} {σ : St} {H : Hp} {s : Shared} {x y d : V} {xv u r : Value} {o : Option V} {A : Around} {E : Value → Shared → Prop}
theorem isDV_at (I : Inv X pins σ H s) (g : IsDV X.K H x) (rx : RelV x xv) : s.TypeIs xv "dict" ∧ ∀ b, xv = .ref b → ∃ ob, s.heap.get? b = some ob ∧ ob.dict = none := by
  obtain ⟨a, rfl, ⟨kvs, e⟩ | ⟨xs, t⟩⟩ := g
  · cases (show xv = Value.ref a from rx)
    obtain ⟨t1, t2, _⟩ := isD_at I (.inl ⟨kvs, .inl e⟩)
    exact ⟨t1, t2⟩
  · cases (show xv = Value.ref a from rx)
    have dd := tab_dict I t
    refine ⟨dd.typeIs, fun b q => ?_⟩
    cases q
    obtain ⟨ob, _, _, h1, h2, _⟩ := dd
    exact ⟨ob, h1, h2.2.1⟩
theorem g_get2 {Q : Value → Shared → Prop} (hu : A.units + 1 < cLine) (I : Inv X pins σ H s) (g : GetV X.K H x y o) (rx : RelV x xv) (ry : RelV y u) (rd : RelV d r) (h : ∀ w' s', Inv X pins σ H s' → RelV (o.getD d) w' → Q w' s') :
    wpAny (model X.prog X.w) A (call (.builtin "dict.get") [xv, u, r]) Q E s := by
  obtain ⟨a, rfl, ⟨kvs, k, e, ey, l⟩ | ⟨xs, b, ys, ks, t, ey, s1, s2, l⟩⟩ := g
  · cases (show xv = Value.ref a from rx)
    exact d_get2 hu I (.inl ⟨kvs, k, .inl e, ey, l⟩) ry rd h
  · cases (show xv = Value.ref a from rx)
    subst ey
    cases (show u = Value.ref b from ry)
    have dd := tab_dict I t
    exact call_meetsIn PySem.F.slot_dict_get dd.typeIs PySem.F.entry_dict_get (PySem.F.args_dict_get_3 _ _ _) (meetsH_dict_get_default (tupleKind (leafKind X.prog X.w)) a b t.2.1 r)
      ⟨tupleKind_room_in1 hu, ks, xs, tab_key I s1 s2, dd, h _ _ (I.tok _) (l.getD rd)⟩
end
def tGet2 (K : PySem.W.Frag) (td ty tx : TE) : TE := fun σ H Q => td σ H fun x H1 => IsDV K H1 x ∧ ty σ H1 fun y H2 => tx σ H2 fun z H3 => ∃ o, GetV K H3 x y o ∧ Q (o.getD z) H3
theorem pe_get2 {X : Cx} {o e f : Expr} {apos cpos : Pos} {td ty tx : TE} (hu : X.A.units + 1 < cLine) (ho : PE X o td) (he : PE X e ty) (hf : PE X f tx) (m : M2 X o "get" apos e f cpos) : PE X (.Call (.Attribute o "get" apos) [e, f] [] cpos) (tGet2 X.K td ty tx) := by
  refine ⟨fun pins s σ H Q I h => ?_⟩
  refine wpAny_Call_method m.base m.few m.line PySem.F.plainAttrs_dict PySem.F.slot_dict_get PySem.F.type_dict_get (thn (ho.run pins s σ H _ I h) fun u s1 ⟨x, H1, I1, rx, d, q1⟩ => ?_)
  obtain ⟨t1, t2⟩ := isDV_at I1 d rx
  refine ⟨t1, t2, ?_⟩
  rw [m.trees]
  refine Calls.callWith_builtin rfl (Calls.evalArgs_plain (Calls.spliced_cons (thn (he.run pins s1 σ H1 _ I1 q1) fun iv s2 ⟨y, H2, I2, ry, q2⟩ =>
    Calls.spliced_cons (thn (hf.run pins s2 σ H2 _ I2 q2) fun fv s3 ⟨z, H3, I3, rz, ov, g, q3⟩ => Calls.spliced_nil ?_))))
  exact g_get2 hu I3 g rx ry rz fun w' s4 I4 rw' => ⟨_, H3, I4, rw', q3⟩
def isDct (x : D) (G : Gp) : Prop := match x with
  | .ref a => match G a with
    | some (.dk _) => True
    | some (.dt _) => True
    | _ => False
  | _ => False
theorem isDct_v {K : PySem.W.Frag} {F : Fp} {H : Hp} {G : Gp} {v : V} {x : D} (rs : RS K F H G) (r : Rep K F v x) (h : isDct x G) : IsDV K H v := by
  unfold isDct at h
  split at h
  · rename_i a
    cases r
    split at h
    · rename_i kvs eg
      obtain ⟨vs, h1, _⟩ := (rs.gf a _ eg).2
      exact ⟨a, rfl, .inl ⟨vs, h1⟩⟩
    · rename_i kvs eg
      obtain ⟨xs, t, _⟩ := tab_at rs eg
      exact ⟨a, rfl, .inr ⟨xs, t⟩⟩
    · exact h.elim
  · exact h.elim
def gGetD (x y z : D) (G : Gp) (Q : DK) : Prop := match lookD x y G with
  | some o => Q (o.getD z) G
  | none => False
abbrev dGet2 (do_ de df : DTE) : DTE := fun s G Q E => do_ s G (fun x G1 => isDct x G1 ∧ de s G1 (fun y G2 => df s G2 (fun z G3 => gGetD x y z G3 Q) E) E) E
section
variable {X : Cx} {W : WX} {o e f : Expr} {do_ de df : DTE} {apos cpos : Pos}
theorem de_get2 (hu : X.A.units + 1 < cLine) (ho : DE X W o do_) (he : DE X W e de) (hf : DE X W f df)
    (base : attributeBase o "get" X.env (eval o X.env) = eval o X.env := by rfl)
    (few : ((backTo cpos (starEach [e, f] X.env)).all (fun x => !x.1) && (backToKw cpos (keywordEach [] X.env)).all (fun x => x.1.isSome)
      && decide (([e, f] : List Expr).length + ([] : List Keyword).length + (if ([] : List Keyword).isEmpty then 0 else 1) < 30)) = true := by rfl)
    (line : (apos.endLine == cpos.line) = true := by rfl) (trees : backTo cpos (starEach [e, f] X.env) = [(false, eval e X.env), (false, eval f X.env)] := by rfl) :
    DE X W (.Call (.Attribute o "get" apos) [e, f] [] cpos) (dGet2 do_ de df) := by
  obtain ⟨t, p, q⟩ := ho
  obtain ⟨t2, p2, q2⟩ := he
  obtain ⟨t3, p3, q3⟩ := hf
  refine ⟨⟨_, pe_get2 hu p p2 p3 ⟨base, few, line, trees⟩, fun F σ H s G Qd Ed Q rs st hq c cx => q F σ H s G _ Ed _ rs st hq (fun F1 H1 G1 v x e1 rs1 rv k1 => ⟨isDct_v rs1 rv k1.1, ?_⟩) cx⟩⟩
  refine q2 F1 σ H1 s G1 _ Ed _ rs1 (st.mono e1) k1.2 (fun F2 H2 G2 v2 y e2 rs2 rv2 k2 => ?_) (cx.mono e1)
  refine q3 F2 σ H2 s G2 _ Ed _ rs2 (st.mono (e1.trans e2)) k2 (fun F3 H3 G3 v3 z e3 rs3 rv3 k3 => ?_) (cx.mono (e1.trans e2))
  unfold gGetD at k3
  split at k3
  · rename_i od el
    obtain ⟨ov, g, r⟩ := get_of rs3 (rv.mono (e2.trans e3)) (rv2.mono e3) el
    refine ⟨ov, g, c F3 H3 G3 _ _ ((e1.trans e2).trans e3) rs3 ?_ k3⟩
    cases ov <;> cases od <;> first | exact r | exact rv3 | exact r.elim
  · exact k3.elim
end
/-! ### len(d) -/
def gLenD : D → Gp → DK → Prop := fun x G Q => match x with
  | .ref a => match G a with
    | some (.dk kvs) => Q (.int kvs.length) G
    | some (.dt kvs) => Q (.int kvs.length) G
    | _ => False
  | _ => False
section
variable {X : Cx}
theorem call_lenV : CallR X (.builtin "len") (fun xs H Q => ∃ a, xs = [V.ref a] ∧ ((∃ kvs, H a = some (.dK kvs) ∧ Q (.int (kvs.length : Nat)) H) ∨ ∃ ys, TabAt X.K H a ys ∧ Q (.int (ys.length : Nat)) H)) := by
  intro pins s σ H xs us Q I r h
  obtain ⟨a, rfl, ⟨kvs, e, q⟩ | ⟨ys, t, q⟩⟩ := h
  · exact call_lenD pins s σ H _ us Q I r ⟨a, kvs, rfl, e, q⟩
  · obtain ⟨u, rfl, ru⟩ := vals1 r
    obtain rfl : u = .ref a := ru
    refine call_len_dictH t.2.1 (tab_dict I t) (by have := t.2.2.1; rw [sizeLine_eq] at this; omega) ?_
    exact ⟨.int (ys.length : Nat), H, I.tok _, ⟨_, rfl⟩, q⟩
theorem dc_lenD : DCall X (.builtin "len") (g1 gLenD) := dcall1 call_lenV fun F H G v x Qd Q rs rv q c => by
  unfold gLenD at q
  split at q
  · rename_i a
    cases rv
    split at q
    · rename_i kvs eg
      obtain ⟨vs, h1, h2, _⟩ := (rs.gf a _ eg).2
      have l : vs.length = kvs.length := by
        have := congrArg List.length h2
        rwa [List.length_map, List.length_map] at this
      exact ⟨a, rfl, .inl ⟨vs, h1, by rw [l]; exact c F H G _ _ (FSame.refl F) rs (.int _) q⟩⟩
    · rename_i kvs eg
      obtain ⟨xs, t, r⟩ := tab_at rs eg
      have l : kvs.length = xs.length := Paired.length r
      exact ⟨a, rfl, .inr ⟨xs, t, by rw [← l]; exact c F H G _ _ (FSame.refl F) rs (.int _) q⟩⟩
    · exact q.elim
  · exact q.elim
end
/-! ### list(d), d's keys ints and texts -/
def dKey : Key → D
  | .inl i => .int i
  | .inr x => .str x
theorem dKeys_rep {K : PySem.W.Frag} {F : Fp} : ∀ ks : List Key, RepL K F (ks.map kV) (ks.map dKey)
  | [] => .nil
  | .inl i :: ks => .cons (.int i) (dKeys_rep ks)
  | .inr x :: ks => .cons (.str x) (dKeys_rep ks)
def gKeysOf : D → Gp → DK → Prop := fun x G Q => match x with
  | .ref a => match G a with
    | some (.dk kvs) => Q (.lst (kvs.map fun p => dKey p.1)) G
    | _ => False
  | _ => False
def gKeysM : D → Gp → DK → Prop := fun x G Q => match x with
  | .ref a => match G a with
    | some (.dk kvs) => ∀ p, G p = none → Q (.ref p) (gupd G p (.lst (kvs.map fun p => dKey p.1)))
    | _ => False
  | _ => False
theorem keys_list {K : PySem.W.Frag} {F : Fp} {vs : List (Key × V)} {kvs : List (Key × D)} (h : vs.map (·.1) = kvs.map (·.1)) : RepL K F (vs.map fun kv => kV kv.1) (kvs.map fun p => dKey p.1) := by
  have e1 : (vs.map fun kv => kV kv.1) = (kvs.map (·.1)).map kV := by rw [← h, List.map_map]; rfl
  have e2 : (kvs.map fun p => dKey p.1) = (kvs.map (·.1)).map dKey := by rw [List.map_map]; rfl
  rw [e1, e2]
  exact dKeys_rep _
section
variable {X : Cx}
theorem dc_keys (hc : X.calm = true) : DCall X (.type "list") (g1 gKeysOf) := dcall1 (call_list_dK hc) fun F H G v x Qd Q rs rv q c => by
  unfold gKeysOf at q
  split at q
  · rename_i a
    cases rv
    split at q
    · rename_i kvs eg
      obtain ⟨vs, h1, h2, _⟩ := (rs.gf a _ eg).2
      exact ⟨a, vs, rfl, h1, c.lst rs (keys_list h2) q⟩
    · exact q.elim
  · exact q.elim
theorem dc_keysM (hc : X.calm = true) : DCall X (.type "list") (g1 gKeysM) := dcall1 (call_list_dK hc) fun F H G v x Qd Q rs rv q c => by
  unfold gKeysM at q
  split at q
  · rename_i a
    cases rv
    split at q
    · rename_i kvs eg
      obtain ⟨vs, h1, h2, _⟩ := (rs.gf a _ eg).2
      exact ⟨a, vs, rfl, h1, c.lstM rs (keys_list h2) q⟩
    · exact q.elim
  · exact q.elim
end
/-! ### {k: v for ..}, its keys tuples of ints -/
theorem d_tabSet {X : Cx} {pins : List (Addr × Obj)} {σ : St} {H : Hp} {s : Shared} {E : Value → Shared → Prop} {D b : Addr} {xs : List (List Leaf × Addr × Value)} {is : List Int} {r : Value} {Q : Unit → Shared → Prop} (hu : X.A.units < cLine) (I : Inv X pins σ H s) (t : TabAt X.K H D xs) (hz : xs.length < sizeLine)
    (hb : SqT X.K H b (is.map V.int)) (h : ∀ s', Inv X pins σ (upd H D (tabO D (storedH xs (is.map Leaf.num) b r))) s' → Q () s') : wpAny (model X.prog X.w) X.A (dictSet D (.ref b) r) Q E s := by
  refine wpAny_dictSet_heap (hsz := Nat.le_of_lt hz) (show (tupleKind (leafKind X.prog X.w)).room X.A from hu) (tab_key I hb (lf_ints is)) (tab_dict I t) fun h' dd' hs => h _ ?_
  obtain ⟨ob, es, ep, hq, h2, h3, h4, _, h5⟩ := dd'
  refine d_write I (by rw [t.1]; exact True.intro) hs ⟨ob, hq⟩ (tabO_ok hq h2 h3 (fun P w => ?_) h5)
  rw [h4]
  refine List.map_congr_left fun z hz => ?_
  rcases stored_mem hz with ⟨q', m, e1, e2⟩ | e
  · obtain ⟨is', _, e3⟩ := t.2.2.2 q' m
    exact ent_any (e1.symm.trans e3)
  · rw [e]
    exact ent_any rfl
/-- {k: v for target in iter if ..}, D the new dict, its keys tuples of ints -/
def tTab (K : PySem.W.Frag) (wi : TI) (g : TG) (tt : TT) (tk tv : TE) (vs : List Nat) : TE := fun σ H Q => wi σ H fun J H1 => ∀ D, H1 D = none → (D == sysModules) = false → ∃ W : Nat → Nat → Hp → Prop, (∃ m, W 0 m (upd H1 D (tabO D []))) ∧ ∀ i m H, W i m H →
  (J.stop i H ∧ Q (.ref D) H) ∨ (J.go i H ∧ ∃ Nx : Hp → Prop, (∀ H', Nx H' → ∃ m', m' < m ∧ W (i + 1) m' H') ∧ ∀ x H', J.yld i H x H' → g x (wipe σ vs) H' fun σ2 H2 => wipe σ2 vs = wipe σ vs ∧ tt σ2 H2 fun c H3 =>
    if c = true then tk σ2 H3 fun y H4 => tv σ2 H4 fun z H5 => ∃ xs b, ∃ is : List Int, y = .ref b ∧ TabAt K H5 D xs ∧ SqT K H5 b (is.map V.int) ∧ xs.length < sizeLine ∧ ∀ r, RelV z r → Nx (upd H5 D (tabO D (storedH xs (is.map Leaf.num) b r))) else Nx H3)
section
variable {X : Cx}
theorem tab_core {pins : List (Addr × Obj)} {s : Shared} {σ : St} {H : Hp} {Q : VK} {Qf : Value → Shared → Prop} {use : Option (Value → Sem Unit)} {pos' : Pos} {kx vx tg iter : Expr} {ifs : List Expr} {scope : Scope} {own : List (Str × Nat)} {pos : Pos} {wi : TI} {g : TG} {tt : TT} {tk tv : TE} (hc : X.calm = true) (hu : X.A.units < cLine) (hN : X.N.Nodup) (hi : PI X tg iter wi) (ok : BlkOk X.N X.env.scope scope own)
    (hg : ∀ (s : Shared) (H : Hp) (C : Addr) (cl : List (Str × Addr)) (fp : List Addr), PG (X.blk s H scope (compEnvC scope cl C X.env) fp) tg g)
    (ht : ∀ (s : Shared) (H : Hp) (C : Addr) (cl : List (Str × Addr)) (fp : List Addr), PTs (X.blk s H scope (compEnvC scope cl C X.env) fp) ifs tt)
    (hk : ∀ (s : Shared) (H : Hp) (C : Addr) (cl : List (Str × Addr)) (fp : List Addr), PE (X.blk s H scope (compEnvC scope cl C X.env) fp) kx tk)
    (hv : ∀ (s : Shared) (H : Hp) (C : Addr) (cl : List (Str × Addr)) (fp : List Addr), PE (X.blk s H scope (compEnvC scope cl C X.env) fp) vx tv) (hs : ∀ x, foldedSetIterable iter X.env x = pure x) (I : Inv X pins σ H s)
    (h : tTab X.K wi g tt tk tv (own.map (·.2)) σ H Q)
    (last : ∀ D C s' H', Inv X pins σ H' s' → (∃ m, s'.heap.Ns C m) → FpOk X pins H' C → Q (.ref D) H' → compPost (model X.prog X.w) X.A X.xe use Qf (.ref D) C (.ok .next) s') :
    wpAny (model X.prog X.w) X.A (comprehension (.DictComp kx vx [⟨tg, iter, ifs, 0⟩] scope pos) scope X.env pos' newDict false (eval iter X.env) use) Qf X.xe s := by
  have cells : ∀ y ∈ scope.names, y.2 = .free → ∃ c, X.env.cells.lookup y.1 = some c := by
    intro y m e
    exact I.ok.has _ (ok.free y m e)
  refine wpAny_comprehension_free (use := use) rfl hs (closure_ok cells) ok.kind (fun y m e => (ok.uniq y m).trans (congrArg some e)) (thn (hi.run pins s σ H _ I h) fun _ _ k => thn k fun itv s1 k => ?_)
  obtain ⟨it, fp, tn, J, H1, rfl, I1, T, t1, f1, k⟩ := k
  refine wpAny_newObj_type (newEnv_comp ?_)
  -- the new dict D
  have big : sysModules < s1.heap.objs.size := I1.big
  have new : ObjOk X.prog X.w (upd H1 s1.heap.objs.size (tabO s1.heap.objs.size [])) (s1.heap.push { cls := .type "dict", data := .dict #[] }) s1.heap.objs.size (tabO s1.heap.objs.size []) :=
    tabO_ok (es := #[]) (ep := 0) (Heap.get?_push_size _ rfl) ⟨rfl, rfl, rfl⟩ rfl (fun _ _ => rfl) List.nodup_nil
  have I2 := I1.laid (t' := s1.toks) (fun b o e => Heap.get?_push_of_some _ e) (Nat.le_refl _) new
  have dn : H1 s1.heap.objs.size = none := I1.hok.fresh (Nat.le_refl _)
  have lt : ∀ b ∈ fp, b < s1.heap.objs.size := fun b hb => (T.obj 0 _ t1 b hb).elim fun _ z => Heap.lt_size z.1
  obtain ⟨W, ⟨m0, w0⟩, turn⟩ := k _ dn (beq_eq_false_iff_ne.mpr (Ne.symm (Nat.ne_of_lt big)))
  have keep2 : ∀ b o, s1.heap.get? b = some o → (s1.heap.push { cls := .type "dict", data := .dict #[] }).get? b = some o := fun b o e => Heap.get?_push_of_some _ e
  have size2 : (s1.heap.push { cls := .type "dict", data := .dict #[] }).objs.size = s1.heap.objs.size + 1 := Heap.size_push ..
  have f2 : ∀ b ∈ fp, FpOk X pins (upd H1 s1.heap.objs.size (tabO s1.heap.objs.size [])) b := fun b hb =>
    ⟨(upd_ne (Nat.ne_of_lt (lt b hb))).trans (f1 b hb).1, (f1 b hb).2⟩
  have lt2 : ∀ b ∈ fp, b < (s1.heap.push { cls := .type "dict", data := .dict #[] }).objs.size := fun b hb => by
    rw [size2]
    exact Nat.lt_succ_of_lt (lt b hb)
  have t2 : tn 0 (s1.heap.push { cls := .type "dict", data := .dict #[] }) := T.keep 0 _ _ t1 fun b _ o e => keep2 b o e
  generalize s1.heap.push { cls := .type "dict", data := .dict #[] } = hp at *
  generalize s1.heap.objs.size = D at *
  generalize e2 : ({ s1 with heap := hp } : Shared) = s2 at *
  obtain rfl : s2.heap = hp := by rw [← e2]
  generalize upd H1 D (tabO D []) = H2 at *
  have I3 := block_start (fp := fp) I2 ok hN fun b hb => ⟨f2 b hb, lt2 b hb⟩
  have t3 : tn 0 (pushCells (s2.heap.push { cls := .type "dict", data := .dict #[] }) scope.names) := T.keep 0 _ _ t2 fun b _ o e => pushCells_keeps _ _ _ _ (Heap.get?_push_of_some _ e)
  have lg := hg s2 H2 s2.heap.objs.size (cellsFrom (s2.heap.objs.size + 1) scope.names (cloFrom X.env.cells scope.names [])) fp
  have lt' := ht s2 H2 s2.heap.objs.size (cellsFrom (s2.heap.objs.size + 1) scope.names (cloFrom X.env.cells scope.names [])) fp
  have lk := hk s2 H2 s2.heap.objs.size (cellsFrom (s2.heap.objs.size + 1) scope.names (cloFrom X.env.cells scope.names [])) fp
  have lv := hv s2 H2 s2.heap.objs.size (cellsFrom (s2.heap.objs.size + 1) scope.names (cloFrom X.env.cells scope.names [])) fp
  have runs : codeAny (model X.prog X.w) X.A (.compLoop (.DictComp kx vx [⟨tg, iter, ifs, 0⟩] scope pos) 0 (.ref it) (.ref D) (envB X scope s2))
      (compPost (model X.prog X.w) X.A X.xe use Qf (.ref D) s2.heap.objs.size) { s2 with heap := pushCells (s2.heap.push { cls := .type "dict", data := .dict #[] }) scope.names } := by
    refine compLoop_anyD (fun n s => ∃ i H, Inv (cxB X scope s2 H2 fp) [] (wipe σ (own.map (·.2))) H s ∧ tn i s.heap ∧ (∀ b ∈ fp, H b = none) ∧ W i n H) (fun n s ⟨i, H, Is, ts, zs, ws⟩ => ?_) m0 ⟨0, H2, I3, t3, fun b hb => (f2 b hb).1, w0⟩
    rcases turn i n H ws with ⟨stop, q⟩ | ⟨go, Nx, nx, step⟩
    · refine thnF (T.done (cxB X scope s2 H2 fp) rfl rfl rfl hc i [] s _ H (fun _ _ => False) Is (blk_fp Is zs) ts stop) fun r s' ⟨er, I'⟩ => ?_
      subst er
      obtain ⟨Ix, hm, z⟩ := blk_exit I2 f2 I'
      exact last D _ s' H Ix hm z q
    · refine thnF (T.item (cxB X scope s2 H2 fp) rfl rfl rfl hc i [] s _ H (fun _ _ => False) Is (blk_fp Is zs) ts go) fun r sa ⟨u, er, k⟩ => ?_
      subst er
      refine thnF k fun _ sb ⟨x, Hb, Ib, rx, yl, tb, zb⟩ => ?_
      refine thnF (lg.run _ sb _ Hb x u _ (Ib.pinned (blk_fp Ib zb) (T.obj _ _ tb)) rx (step x Hb yl)) fun _ sc ⟨σc, Hc, Ic, ec, k⟩ => ?_
      refine thnF (lt'.run _ sc σc Hc _ Ic k) fun c sd ⟨Hd, Id, k⟩ => ?_
      have over : ∀ {s' : Shared} {H' : Hp}, Inv (cxB X scope s2 H2 fp) ([] ++ pinsAt fp sb.heap) σc H' s' → Nx H' →
          ∃ m, m < n ∧ ∃ i H, Inv (cxB X scope s2 H2 fp) [] (wipe σ (own.map (·.2))) H s' ∧ tn i s'.heap ∧ (∀ b ∈ fp, H b = none) ∧ W i m H := fun {s' H'} I' v => by
        obtain ⟨m, hm, w⟩ := nx H' v
        obtain ⟨j1, j2, j3⟩ := blk_next T tb I' (fun p m => List.mem_append.mpr (.inr m)) ec
        exact ⟨m, hm, i + 1, H', j1, j2, j3, w⟩
      cases c with
      | false => exact over Id k
      | true =>
        refine thnF (lk.run _ sd σc Hd _ Id k) fun _ se ⟨y, He, Ie, re, k⟩ => ?_
        refine thnF (lv.run _ se σc He _ Ie k) fun w sf ⟨z, Hf, If, rf, xs, b, is, ey, tab, sq, few, done⟩ => ?_
        subst ey
        cases re
        exact d_tabSet (X := cxB X scope s2 H2 fp) hu If tab few sq fun s' I' => over I' (done _ rf)
  exact codeAny_compStart_dict runs (T.self X.A 0 _ _ _ t3 runs)
theorem pe_tab {kx vx tg iter : Expr} {ifs : List Expr} {scope : Scope} {own : List (Str × Nat)} {pos : Pos} {wi : TI} {g : TG} {tt : TT} {tk tv : TE} (hc : X.calm = true) (hu : X.A.units < cLine) (hN : X.N.Nodup) (hi : PI X tg iter wi) (ok : BlkOk X.N X.env.scope scope own)
    (hg : ∀ (s : Shared) (H : Hp) (C : Addr) (cl : List (Str × Addr)) (fp : List Addr), PG (X.blk s H scope (compEnvC scope cl C X.env) fp) tg g)
    (ht : ∀ (s : Shared) (H : Hp) (C : Addr) (cl : List (Str × Addr)) (fp : List Addr), PTs (X.blk s H scope (compEnvC scope cl C X.env) fp) ifs tt)
    (hk : ∀ (s : Shared) (H : Hp) (C : Addr) (cl : List (Str × Addr)) (fp : List Addr), PE (X.blk s H scope (compEnvC scope cl C X.env) fp) kx tk)
    (hv : ∀ (s : Shared) (H : Hp) (C : Addr) (cl : List (Str × Addr)) (fp : List Addr), PE (X.blk s H scope (compEnvC scope cl C X.env) fp) vx tv) (hs : ∀ x, foldedSetIterable iter X.env x = pure x) :
    PE X (.DictComp kx vx [⟨tg, iter, ifs, 0⟩] scope pos) (tTab X.K wi g tt tk tv (own.map (·.2))) := by
  refine ⟨fun pins s σ H Q I h => ?_⟩
  rw [arm_eval_DictComp]
  refine tab_core (use := none) hc hu hN hi ok hg ht hk hv hs I h fun D C s' H' Ix ⟨m, hm⟩ ⟨z0, z1, _, z3, z4, z5⟩ q => ⟨m, hm, fun h' sb => ?_⟩
  exact ⟨.ref D, H', Ix.turned (t' := s'.toks) (fun b o ne e => (sb.2 b ne).trans e) z0 z1 z3 z4 z5, rfl, q⟩
/-- y = {k: v for ..} -/
theorem ps_setTab {i : Nat} {y : Str} {py spos : Pos} {kx vx tg iter : Expr} {ifs : List Expr} {scope : Scope} {own : List (Str × Nat)} {pos : Pos} {wi : TI} {g : TG} {tt : TT} {tk tv : TE} (hc : X.calm = true) (hu : X.A.units < cLine) (hN : X.N.Nodup)
    (hy : X.N[i]? = some y) (hyl : X.env.scope.names.lookup y = some .local) (hsw : swapsWith (.DictComp kx vx [⟨tg, iter, ifs, 0⟩] scope pos) (some (.Name y py)) spos.line X.env = pure true) (hi : PI X tg iter wi) (ok : BlkOk X.N X.env.scope scope own)
    (hg : ∀ (s : Shared) (H : Hp) (C : Addr) (cl : List (Str × Addr)) (fp : List Addr), PG (X.blk s H scope (compEnvC scope cl C X.env) fp) tg g)
    (ht : ∀ (s : Shared) (H : Hp) (C : Addr) (cl : List (Str × Addr)) (fp : List Addr), PTs (X.blk s H scope (compEnvC scope cl C X.env) fp) ifs tt)
    (hk : ∀ (s : Shared) (H : Hp) (C : Addr) (cl : List (Str × Addr)) (fp : List Addr), PE (X.blk s H scope (compEnvC scope cl C X.env) fp) kx tk)
    (hv : ∀ (s : Shared) (H : Hp) (C : Addr) (cl : List (Str × Addr)) (fp : List Addr), PE (X.blk s H scope (compEnvC scope cl C X.env) fp) vx tv) (hs : ∀ x, foldedSetIterable iter X.env x = pure x) :
    PS X (.Assign [.Name y py] (.DictComp kx vx [⟨tg, iter, ifs, 0⟩] scope pos) spos) (tAsg (tTab X.K wi g tt tk tv (own.map (·.2))) (gName i)) := by
  refine ⟨fun pins s σ H D I h => ?_⟩
  rw [exec_Assign_Name_used _ _ _ _ hsw]
  refine wpAny_bind (wpAny_standAt (wpAny_bind ?_))
  have made : wpAny (model X.prog X.w) X.A (comprehension (.DictComp kx vx [⟨tg, iter, ifs, 0⟩] scope pos) scope X.env (firstIterPos [⟨tg, iter, ifs, 0⟩] pos) newDict false (eval iter X.env) (some (assign (.Name y py) X.env)))
      (fun _ s' => SP X pins D .next s') X.xe s := by
    refine tab_core (Q := fun x H1 => gName i x σ H1 D.nx) hc hu hN hi ok hg ht hk hv hs I h fun d C s' H' Ix ⟨m, hm⟩ ⟨z0, z1, _, z3, z4, z5⟩ q => ?_
    refine wpAny_assign_Name (store_ok2 (v := V.ref d) Ix hN hy (Or.inl hyl) rfl (fun st It ⟨a, same, at_⟩ => ?_) (Or.inr hyl))
    have off : C ≠ a := fun e => by
      cases at_ with
      | inl e' => exact z1 (e.trans e')
      | inr e' => exact z4 y a e' e.symm
    exact ⟨m, hm.sameBut same off, fun h' sb => ⟨_, H', It.turned (t' := st.toks) (fun b o ne e => (sb.2 b ne).trans e) z0 z1 z3 z4 z5, q⟩⟩
  exact wpAny_bind (thn made fun _ _ w => wpAny_pure (wpAny_pure w))
end
def tcTurns (I : DIt) (g : DTG) (tt : DTT) (dk dv : DTE) (s : DSt) (G1 : Gp) (p : Addr) (fin : Gp → Prop) : Prop :=
  ∃ V : Nat → List (List Int × D) → Gp → Prop, V 0 [] (gupd G1 p (.dt [])) ∧ (∀ i acc G', i ≤ I.n → V i acc G' → G' p = some (.dt acc) ∧ I.here G') ∧
    (∀ i x acc G', i < I.n → I.item i x → V i acc G' → g x s G' fun s2 G2 => tt s2 G2 (fun b G3 => if b = true then dk s2 G3 (fun y G4 => dv s2 G4 (fun z G5 => G5 p = some (.dt acc) ∧ acc.length < sizeLine ∧ match y with
      | .tup ds => match intsD ds with
        | some is => V (i + 1) (putT acc is z) (gupd G5 p (.dt (putT acc is z)))
        | none => False
      | _ => False) X0) X0 else V (i + 1) acc G3) X0) ∧
    ∀ acc G', V I.n acc G' → fin G'
abbrev dTab (di : DTI) (g : DTG) (tt : DTT) (dk dv : DTE) (vs : List Nat) : DTE := fun s G Q E => di s G (fun I G1 => ∀ p, G1 p = none → tcTurns I g tt dk dv (wipeD s vs) G1 p fun G' => Q (.ref p) G') E
section
variable {X : Cx} {W : WX} {tg iter kx vx : Expr} {ifs : List Expr} {scope : Scope} {own : List (Str × Nat)} {di : DTI} {g : DTG} {tt : DTT} {dk dv : DTE} {pos : Pos}
theorem ae_tab {K : PySem.W.Frag} {W : WX} {ti : TI} {tg : TG} {t1 : TT} {t2 t3 : TE} {vs : List Nat} (ai : AI K W ti di)
    (ag : ∀ F σ H s G v x Qd Q, RS K F H G → RepSt K F σ s → Rep K F v x → g x s G Qd → ContW K F σ vs Qd Q → tg v σ H Q) (at_ : AT K W0 t1 tt) (ak : AE K W0 t2 dk) (av : AE K W0 t3 dv) : AE K W (tTab K ti tg t1 t2 t3 vs) (dTab di g tt dk dv vs) := by
  intro F σ H s G Qd Ed Q rs st q c cx
  refine ai F σ H s G _ Ed _ rs st q (fun F1 H1 G1 J I e1 rs1 ir q1 D hD hsys => ?_) cx
  obtain ⟨V, v0, here, turn, done⟩ := q1 D (rs1.free hD).2
  have rs0 : RS K F1 (upd H1 D (tabO D [])) (gupd G1 D (.dt [])) := rs1.newG hD (g := .dt []) ⟨[], upd_same, hsys, Nat.zero_le _, .nil⟩
  refine ⟨fun i m H' => i + m = I.n ∧ ∃ F' acc G', FSame F1 F' ∧ RS K F' H' G' ∧ V i acc G', ⟨I.n, Nat.zero_add _, F1, [], _, FSame.refl F1, rs0, v0⟩, fun i m H2 hW => ?_⟩
  obtain ⟨em, F2, acc, G2, e2, rs2, v2⟩ := hW
  by_cases hlt : i < I.n
  · have hr := here i acc G2 (Nat.le_of_lt hlt) v2
    refine .inr ⟨ir.go F2 H2 G2 i e2 rs2 hr.2 hlt, fun H' => ∃ F' acc G', FSame F1 F' ∧ RS K F' H' G' ∧ V (i + 1) acc G', fun H' hN => ⟨m - 1, by omega, by omega, hN⟩, fun x H3 hy => ?_⟩
    obtain ⟨F3, dx, e3, rs3, rx, it⟩ := ir.yld F2 H2 G2 i x H3 e2 rs2 hr.2 hlt hy
    have e03 := (e1.trans e2).trans e3
    refine ag F3 (wipe σ vs) H3 (wipeD s vs) G2 x dx _ _ rs3 (repst_wipe (st.mono e03) vs) rx (turn i dx acc G2 hlt it v2) fun F4 H4 G4 σ4 s4 e4 rs4 st4 w4 q4 => ⟨w4.trans (wipe_wipe vs vs fun _ h => h), ?_⟩
    refine at_ F4 σ4 H4 s4 G4 _ _ _ rs4 st4 q4 (fun F5 H5 G5 b e5 rs5 q5 => ?_) (fun _ _ _ _ _ _ _ _ _ z => z)
    cases b with
    | false => exact ⟨F5, acc, G5, ((e2.trans e3).trans e4).trans e5, rs5, q5⟩
    | true =>
      refine ak F5 σ4 H5 s4 G5 _ _ _ rs5 (st4.mono e5) q5 (fun F6 H6 G6 y dy e6 rs6 ry q6 => ?_) (fun _ _ _ _ _ _ _ _ _ z => z)
      refine av F6 σ4 H6 s4 G6 _ _ _ rs6 (st4.mono (e5.trans e6)) q6 (fun F7 H7 G7 z dz e7 rs7 rz q7 => ?_) (fun _ _ _ _ _ _ _ _ _ z => z)
      obtain ⟨eD, few, q8⟩ := q7
      split at q8
      · rename_i ds
        split at q8
        · rename_i is hi
          obtain ⟨xs, t, r⟩ := tab_at rs7 eD
          have l : acc.length = xs.length := Paired.length r
          have ry7 := ry.mono e7
          cases ry7 with
          | tup s1 s2 =>
            have e := ints_rep s2 hi
            subst e
            refine ⟨xs, _, is, rfl, t, same_t rs7.same s1, by rw [← l]; exact few, fun u hu => ?_⟩
            refine ⟨F7, putT acc is dz, _, (((e2.trans e3).trans e4).trans e5).trans (e6.trans e7), rs7.setG eD (g := .dt (putT acc is dz)) ⟨_, upd_same, t.2.1, by have := putT_len acc is dz; omega, tab_put r is s1 rz hu⟩, q8⟩
        · exact q8.elim
      · exact q8.elim
  · have ei : i = I.n := by omega
    subst ei
    have hr := here I.n acc G2 (Nat.le_refl _) v2
    exact .inl ⟨ir.stop F2 H2 G2 e2 rs2 hr.2, c F2 H2 G2 _ _ (e1.trans e2) rs2 (.ref D) (done acc G2 v2)⟩
theorem de_tab (hc : X.calm = true) (hu : X.A.units < cLine) (hN : X.N.Nodup) (hi : DI X W tg iter di) (ok : BlkOk X.N X.env.scope scope own)
    (hg : ∀ (s : Shared) (H : Hp) (C : Addr) (cl : List (Str × Addr)) (fp : List Addr), DGv (X.blk s H scope (compEnvC scope cl C X.env) fp) (own.map (·.2)) tg g)
    (ht : ∀ (s : Shared) (H : Hp) (C : Addr) (cl : List (Str × Addr)) (fp : List Addr), DTs (X.blk s H scope (compEnvC scope cl C X.env) fp) ifs tt)
    (hk : ∀ (s : Shared) (H : Hp) (C : Addr) (cl : List (Str × Addr)) (fp : List Addr), DE (X.blk s H scope (compEnvC scope cl C X.env) fp) W0 kx dk)
    (hv : ∀ (s : Shared) (H : Hp) (C : Addr) (cl : List (Str × Addr)) (fp : List Addr), DE (X.blk s H scope (compEnvC scope cl C X.env) fp) W0 vx dv) (hs : ∀ x, foldedSetIterable iter X.env x = pure x := by intro _; rfl) :
    DE X W (.DictComp kx vx [⟨tg, iter, ifs, 0⟩] scope pos) (dTab di g tt dk dv (own.map (·.2))) := by
  obtain ⟨ti, p, ai⟩ := hi
  exact ⟨⟨_, pe_tab (g := tgOf X.K (own.map (·.2)) g) (tt := ttOf X.K W0 tt) (tk := tOf X.K W0 dk) (tv := tOf X.K W0 dv) hc hu hN p ok (fun s H C cl fp => (hg s H C cl fp).pg) (fun s H C cl fp => (ht s H C cl fp).pt) (fun s H C cl fp => (hk s H C cl fp).pe) (fun s H C cl fp => (hv s H C cl fp).pe) hs,
    ae_tab ai (fun F σ H s G v x Qd Q h1 h2 h3 h4 h5 => ⟨F, s, G, x, Qd, h1, h2, h3, h4, h5⟩) at_of' ae_of ae_of⟩⟩
theorem ds_setTab {i : Nat} {y : Str} {py spos : Pos} (hc : X.calm = true) (hu : X.A.units < cLine) (hN : X.N.Nodup) (hy : X.N[i]? = some y) (hyl : X.env.scope.names.lookup y = some .local)
    (hsw : swapsWith (.DictComp kx vx [⟨tg, iter, ifs, 0⟩] scope pos) (some (.Name y py)) spos.line X.env = pure true) (hi : DI X W tg iter di) (ok : BlkOk X.N X.env.scope scope own)
    (hg : ∀ (s : Shared) (H : Hp) (C : Addr) (cl : List (Str × Addr)) (fp : List Addr), DGv (X.blk s H scope (compEnvC scope cl C X.env) fp) (own.map (·.2)) tg g)
    (ht : ∀ (s : Shared) (H : Hp) (C : Addr) (cl : List (Str × Addr)) (fp : List Addr), DTs (X.blk s H scope (compEnvC scope cl C X.env) fp) ifs tt)
    (hk : ∀ (s : Shared) (H : Hp) (C : Addr) (cl : List (Str × Addr)) (fp : List Addr), DE (X.blk s H scope (compEnvC scope cl C X.env) fp) W0 kx dk)
    (hv : ∀ (s : Shared) (H : Hp) (C : Addr) (cl : List (Str × Addr)) (fp : List Addr), DE (X.blk s H scope (compEnvC scope cl C X.env) fp) W0 vx dv) (hs : ∀ x, foldedSetIterable iter X.env x = pure x := by intro _; rfl) :
    DS X W (.Assign [.Name y py] (.DictComp kx vx [⟨tg, iter, ifs, 0⟩] scope pos) spos) (dSet i (dTab di g tt dk dv (own.map (·.2)))) := by
  obtain ⟨ti, p, ai⟩ := hi
  refine ⟨⟨_, ps_setTab (g := tgOf X.K (own.map (·.2)) g) (tt := ttOf X.K W0 tt) (tk := tOf X.K W0 dk) (tv := tOf X.K W0 dv) hc hu hN hy hyl hsw p ok (fun s H C cl fp => (hg s H C cl fp).pg) (fun s H C cl fp => (ht s H C cl fp).pt) (fun s H C cl fp => (hk s H C cl fp).pe) (fun s H C cl fp => (hv s H C cl fp).pe) hs, fun F σ H s G Dd E rs st q r => ?_⟩⟩
  exact ae_tab ai (fun F σ H s G v x Qd Q h1 h2 h3 h4 h5 => ⟨F, s, G, x, Qd, h1, h2, h3, h4, h5⟩) at_of' ae_of ae_of F σ H s G _ _ _ rs st q (fun F1 H1 G1 v x e1 rs1 rv q1 => r.nx F1 H1 G1 _ _ e1 rs1 ((st.mono e1).set i rv) q1) (r.ex.at_ st)
theorem sw_dict {gs : List Comprehension} {y : Str} {py : Pos} {l : Nat} {env : Env} (hk : env.scope.kind = .function) (hy : env.scope.names.lookup y = some .local) (hl : (py.line == pos.line) = true)
    (ha : (scope.names.any fun (n, k) => n == y && (k == .local || k == .cell)) = false) : swapsWith (.DictComp kx vx gs scope pos) (some (.Name y py)) l env = pure true := by
  have ky : env.kindOf y = some .local := hy
  have kf : env.blockKind = .function := by
    show (if env.scope.kind.isAnnotationScope = true then _ else _) = _
    rw [hk]
    rfl
  have e : (env.blockKind == .function && env.kindOf y == some .local && py.line == pos.line && !(scope.names.any fun (n, k) => n == y && (k == .local || k == .cell))) = true := by
    rw [kf, ky, hl, ha]
    rfl
  show pure _ = pure true
  exact congrArg pure e
end
end Dl
set_option Elab.async false
set_option linter.all false
set_option maxRecDepth 100000
set_option maxHeartbeats 4000000
/-! sorted(l), pairs of ints, wherever the pairs stand. -/
namespace Dl
open PySem PySem.Spec PyProof.Rows L2 GenW
set_option autoImplicit false
/-- a pair of ints, by its address -/
abbrev AP := Addr × Int × Int
def leP (x y : Int × Int) : Prop := x.1 < y.1 ∨ (x.1 = y.1 ∧ x.2 ≤ y.2)
def rSortPP (K : PySem.W.Frag) : List V → Hp → VK → Prop := fun vs H Q => ∃ (a : Addr) (zs : List AP), vs = [.ref a] ∧ SqL K H a (zs.map fun z => V.ref z.1) ∧ (∀ z ∈ zs, SqT K H z.1 [.int z.2.1, .int z.2.2]) ∧
  ∀ (zs' : List AP) (p : Addr), zs'.Perm zs → zs'.Pairwise (fun x y => leP x.2 y.2) → H p = none → Q (.ref p) (upd H p (.lst (zs'.map fun z => V.ref z.1)))
theorem refs_of : ∀ {zs : List AP} {us : List Value}, Vals (zs.map fun z => V.ref z.1) us → us = zs.map fun z => Value.ref z.1
  | [], _, h => by
    cases h
    rfl
  | z :: zs, _, h => by
    rw [List.map_cons] at h
    cases h with
    | cons h1 h2 =>
      cases h1
      rw [refs_of h2]
      rfl
/-- the pair that stands at an address -/
def pairAt (zs : List AP) (v : Value) : Int × Int := match v with
  | .ref p => match zs.find? fun z => z.1 == p with
    | some z => z.2
    | none => (0, 0)
  | _ => (0, 0)
section
variable {X : Cx}
theorem cr_sortPP : CallR X (.builtin "sorted") (rSortPP X.K) := by
  intro pins s σ H vs us Q I r h
  obtain ⟨a, zs, rfl, hs, hx, q⟩ := h
  obtain ⟨its, rv, hl, hz⟩ := I.list hs
  obtain ⟨u, rfl, ru⟩ := vals1 r
  obtain rfl : u = Value.ref a := ru
  obtain rfl := refs_of rv
  have key : ∀ z ∈ zs, pairAt zs (.ref z.1) = z.2 := fun z hzm => by
    unfold pairAt
    dsimp only
    cases e : zs.find? fun y => y.1 == z.1 with
    | none =>
      have := List.find?_eq_none.mp e z hzm
      simp at this
    | some y =>
      have e1 : y.1 = z.1 := by simpa using List.find?_some e
      have s1 := hx y (List.mem_of_find?_eq_some e)
      rw [e1] at s1
      have e2 := I.tuple_inj s1 (hx z hzm)
      simp only [List.cons.injEq, V.int.injEq, and_true] at e2
      exact Prod.ext e2.1 e2.2
  refine SrtO.sorted_pairsO (k := pairAt zs) hl.isList (by rw [← rv.length]; exact hz) (fun v hv => ?_) fun h' d out h1 h2 kp hd hn => ?_
  · obtain ⟨z, hzm, rfl⟩ := List.mem_map.mp hv
    rw [key z hzm]
    obtain ⟨its2, r2, ⟨o, ho, hc, n, hdat⟩, _⟩ := I.tuple (hx z hzm)
    obtain ⟨u1, u2, rfl, ⟨t1, rfl⟩, t2, rfl⟩ := vals2 r2
    exact ⟨z.1, o, t1, t2, n, rfl, ho, hc, hdat⟩
  · obtain ⟨zs', p', e'⟩ := perm_lift (fun z : AP => Value.ref z.1) h2.perm zs rfl
    subst e'
    obtain ⟨n, hn⟩ := hn
    refine ⟨.ref d, upd H d (.lst (zs'.map fun z => V.ref z.1)), I.laid (t' := s.toks) kp hd ⟨?_, _, n, vals_maps (fun z : AP => V.ref z.1) (fun z : AP => Value.ref z.1) zs' (fun z _ => rfl), hn⟩, rfl, q zs' d p' ?_ (I.hok.fresh hd)⟩
    · rw [List.length_map, p'.length_eq, ← List.length_map (f := fun z : AP => V.ref z.1)]
      exact hz
    · refine (List.pairwise_map.mp h1).imp_of_mem fun {x y} mx my e => ?_
      dsimp only at e
      rw [key x (p'.mem_iff.mp mx), key y (p'.mem_iff.mp my)] at e
      have : ¬ (SrtO.lexB y.2 x.2 = true) := by rw [e]; decide
      rw [SrtO.lexB_iff] at this
      unfold leP
      omega
end
def pairD (k : Int × Int) : D := .tup [.int k.1, .int k.2]
def gSortPP (x : D) (G : Gp) (Q : DK) : Prop := ∃ ks : List (Int × Int), lv x G = some (ks.map pairD) ∧ ∀ ks' : List (Int × Int), ks'.Perm ks → ks'.Pairwise leP → Q (.lst (ks'.map pairD)) G
theorem pairs_rep {K : PySem.W.Frag} {F : Fp} : ∀ {ks : List (Int × Int)} {xs : List V}, RepL K F xs (ks.map pairD) → ∃ zs : List AP, zs.map (·.2) = ks ∧ xs = zs.map (fun z => V.ref z.1) ∧ ∀ z ∈ zs, SqT K (toH F) z.1 [.int z.2.1, .int z.2.2]
  | [], _, h => by
    cases h
    exact ⟨[], rfl, rfl, fun z hz => nomatch hz⟩
  | k :: ks, _, h => by
    rw [List.map_cons] at h
    cases h with
    | cons h1 h2 =>
      obtain ⟨zs, rfl, rfl, h3⟩ := pairs_rep h2
      cases h1 with
      | @tup b ys _ s1 s2 =>
        cases s2 with
        | cons r1 s2 =>
          cases r1
          cases s2 with
          | cons r2 s2 =>
            cases r2
            cases s2
            refine ⟨(b, k.1, k.2) :: zs, rfl, rfl, fun z hz => ?_⟩
            rcases List.mem_cons.mp hz with rfl | hz
            · exact s1
            · exact h3 z hz
theorem rep_pairs {K : PySem.W.Frag} {F : Fp} : ∀ zs : List AP, (∀ z ∈ zs, SqT K (toH F) z.1 [.int z.2.1, .int z.2.2]) → RepL K F (zs.map fun z => V.ref z.1) ((zs.map (·.2)).map pairD)
  | [], _ => .nil
  | z :: zs, h => .cons (.tup (h z List.mem_cons_self) (.cons (.int _) (.cons (.int _) .nil))) (rep_pairs zs fun y hy => h y (List.mem_cons_of_mem _ hy))
theorem dc_sortPP {X : Cx} : DCall X (.builtin "sorted") (g1 gSortPP) := dcall1 cr_sortPP fun F H G v x Qd Q rs rv q c => by
  obtain ⟨ks, e, q⟩ := q
  obtain ⟨a, xs, rfl, h1, r1⟩ := lv_at rs rv e
  obtain ⟨zs, rfl, rfl, h3⟩ := pairs_rep r1
  refine ⟨a, zs, rfl, .inl (.inl h1), fun z hz => same_t rs.same (h3 z hz), fun zs' p p' so hp => ?_⟩
  exact c.lst rs (rep_pairs zs' fun z hz => h3 z (p'.mem_iff.mp hz)) (q _ (p'.map _) (List.pairwise_map.mpr so)) p hp
theorem room1 {k : Nat} {A : Around} (r : Room k A) : A.units + 1 < cLine := by
  have := r.un
  omega
end Dl
set_option Elab.async false
set_option linter.all false
set_option maxRecDepth 100000
set_option maxHeartbeats 4000000
/-! o.f op= e. -/
namespace Dl
open PySem PySem.Spec PyProof.Rows L2 GenW
set_option autoImplicit false
abbrev dFldAug (c f : Str) (do_ dv_ : DTE) (g : G2) : DTS := fun D s G => do_ s G (fun x G1 => gIns c x G1 (gFld f G1 fun d G1' => dv_ s G1' (fun y G2 => g d y G2 fun z G3 =>
  gIns c x G3 fun a fs => fs.length < 1000 ∧ D.nx s (gupd G3 a (.ins c (putD f z fs)))) (fun x G2 => D.ex x s G2))) (fun x G1 => D.ex x s G1)
section
variable {X : Cx} {W : WX} {e o value : Expr} {do_ dv_ : DTE} {c f : Str} {pos tpos : Pos} {op : Operator} {g : G2}
theorem ds_fldAug (hc : Cls X.K (He.ga X.K c)) (hn : NoAttr X.K (He.ga X.K c) f) (ho : DE X W o do_) (hv : DE X W value dv_) (hp : DOp X (inplaceOp op) g) : DS X W (.AugAssign (.Attribute o f tpos) op value pos) (dFldAug c f do_ dv_ g) := by
  obtain ⟨t, p, a⟩ := ho
  obtain ⟨u, p2, a2⟩ := hv
  obtain ⟨r, hr, ar⟩ := hp
  refine ⟨⟨_, ps_fldaug p p2 hr, fun F σ H s G Dd E rs st q re => a F σ H s G _ _ _ rs st q (fun F1 H1 G1 v x e1 rs1 rx q1 => ?_) (re.ex.at_ st)⟩⟩
  obtain ⟨b, fs, dx, vs, rfl, rfl, eg, eh, rf, q2⟩ := gins_at rs1 rx q1
  unfold gFld at q2
  split at q2
  · rename_i d ed
    obtain ⟨y, hy, ry⟩ := (rf.look (f := f)).1 d ed
    refine ⟨b, _, dx, vs, y, rfl, eh, hc, hn, hy, ?_⟩
    refine a2 F1 σ H1 s G1 _ _ _ rs1 (st.mono e1) q2 (fun F2 H2 G2 v2 z e2 rs2 rz q3 => ?_) ((re.ex.at_ st).mono e1)
    refine ar F2 H2 G2 y v2 d z _ _ rs2 (ry.mono e2) rz q3 fun F3 H3 G3 nw nz e3 rs3 rn q4 => ?_
    obtain ⟨b', fs', dx', vs', e1', e2', eg', eh', rf', hl, q5⟩ := gins_at rs3 (.ref b) q4
    cases e1'
    exact ⟨dx', vs', eh', by rw [rf'.len]; exact hl, re.nx F3 _ _ σ s ((e1.trans e2).trans e3) (rs3.setIns eg' rf' rn) (st.mono ((e1.trans e2).trans e3)) q5⟩
  · exact q2.elim
end
end Dl
set_option Elab.async false
set_option linter.all false
set_option maxRecDepth 100000
set_option maxHeartbeats 4000000
/-! xs.pop(i), i not below 0. -/
namespace Dl
open PySem PySem.Spec PyProof.Rows L2 GenW
set_option autoImplicit false
def dmPopAt : GM := fun x xs G Q => match x, xs with
  | .ref a, [.int i] => match G a with
    | some (.lst ds) => 0 ≤ i ∧ i < 2 ^ 62 ∧ match ds[i.toNat]? with
      | some d => Q d (gupd G a (.lst (ds.take i.toNat ++ ds.drop (i.toNat + 1))))
      | none => False
    | _ => False
  | _, _ => False
theorem seq_at {i : Int} {n : Nat} (h0 : 0 ≤ i) (h1 : i.toNat < n) : seqIndex? i n = some i.toNat := by
  unfold seqIndex?
  simp only [show ¬ i < 0 by omega, if_false]
  rw [if_pos (by simp; omega)]
theorem dm_popAt {X : Cx} : DM X "list.pop" dmPopAt := ⟨⟨_, mt_popAt, fun F H G v vs x xs Qd Q rs rv rvs q c => by
  unfold dmPopAt at q
  split at q
  · rename_i a i
    split at q
    · rename_i ds eg
      obtain ⟨q1, q2, q3⟩ := q
      split at q3
      · rename_i d ed
        cases rv
        cases rvs with
        | cons ru rest =>
          cases rest
          cases ru
          obtain ⟨ys, h1, r1⟩ := (rs.gf a _ eg).2
          obtain ⟨y, hy, ry⟩ := r1.get ed
          have hl := (List.getElem?_eq_some_iff.mp hy).1
          refine ⟨a, ys, i, i.toNat, y, rfl, rfl, h1, by omega, by omega, seq_at q1 hl, hy, ?_⟩
          refine c F _ _ _ _ (FSame.refl F) (rs.setG eg (g := .lst (ds.take i.toNat ++ ds.drop (i.toNat + 1))) ⟨_, upd_same, ?_⟩) ry q3
          rw [List.eraseIdx_eq_take_drop_succ]
          exact (r1.take i.toNat).append (r1.drop (i.toNat + 1))
      · exact q3.elim
    · exact q.elim
  · exact q.elim⟩⟩
end Dl
set_option Elab.async false
set_option linter.all false
set_option maxRecDepth 100000
set_option maxHeartbeats 4000000
/-! range with a step above 0; comprehensions with two walks. -/
namespace Dl
open PySem PySem.Spec PyProof.Rows L2 GenW
set_option autoImplicit false
/-- n whole numbers from lo on, c apart -/
def itStep (lo c : Int) (n : Nat) : DIt := ⟨n, fun i x => x = .int (lo + (i : Nat) * c), fun _ => True⟩
theorem itr_step {K : PySem.W.Frag} {F : Fp} {lo c : Int} {n : Nat} : ItR K F (Itc lo c n) (itStep lo c n) := ⟨fun _ _ _ _ _ _ => Nat.le_refl n, fun _ _ _ i _ _ _ h => h, fun F' H G i x H' e rs _ h y => by
  obtain ⟨rfl, rfl⟩ := y
  exact ⟨F', _, FSame.refl F', rs, .int _, rfl⟩⟩
abbrev dRng3 (dA : DTA) : DTI := fun s G Q E => dA s G (fun xs G1 => match xs with
  | [.int i, .int j, .int c] => ∃ n, RgC i j c n ∧ Q (itStep i c n) G1
  | _ => False) E
section
variable {X : Cx} {W : WX} {tg a b c : Expr} {dA : DTA} {p pos : Pos}
theorem repl3 {K : PySem.W.Frag} {F : Fp} {us : List V} {x y z : D} (h : RepL K F us [x, y, z]) : ∃ u v w, us = [u, v, w] ∧ Rep K F u x ∧ Rep K F v y ∧ Rep K F w z := by
  cases h with
  | cons h1 h =>
    obtain ⟨v, w, rfl, h2, h3⟩ := repl2 h
    exact ⟨_, v, w, rfl, h1, h2, h3⟩
theorem di_rng3 (hm : X.mg "range" = none) (h : DA X W [a, b, c] dA) (hg : Gl X "range" := by rfl) (hs : starEach [a, b, c] X.env = (false, eval a X.env) :: starEach [b, c] X.env := by rfl) (hpl : (backTo pos (starEach [b, c] X.env)).any (·.1) = false := by rfl) :
    DI X W tg (.Call (.Name "range" p) [a, b, c] [] pos) (dRng3 dA) := by
  obtain ⟨t, pa, q⟩ := h
  refine ⟨⟨_, pi_range3 hg hm pa hs hpl, fun F σ H s G Qd Ed Q rs st hq k cx => q F σ H s G _ Ed _ rs st hq (fun F1 H1 G1 vs xs e1 rs1 rv q1 => ?_) cx⟩⟩
  split at q1
  · obtain ⟨u, v, w, rfl, r1, r2, r3⟩ := repl3 rv
    cases r1
    cases r2
    cases r3
    obtain ⟨n, h1, h2⟩ := q1
    exact ⟨_, _, _, n, rfl, h1, k F1 H1 G1 _ _ e1 rs1 itr_step h2⟩
  · exact q1.elim
end
theorem for_step {lo c : Int} {n : Nat} {g : DTG} {b : DTS} {D : DEnds} {s : DSt} {G : Gp} (V : Nat → DSt → Gp → Prop) (h0 : V 0 s G)
    (turn : ∀ i s' G', i < n → V i s' G' → g (.int (lo + (i : Nat) * c)) s' G' fun s2 G2 => b { D with nx := V (i + 1), ct := V (i + 1), bk := D.nx } s2 G2) (done : ∀ s' G', V n s' G' → D.nx s' G') : forGo (itStep lo c n) g b D s G :=
  ⟨V, h0, fun _ _ _ _ _ => trivial, fun i x s' G' hi it v => by
    cases it
    exact turn i s' G' hi v, done⟩
/-! two walks -/
/-- the inner walk's turns, in turn i of the outer one -/
def lcIn (I : DIt) (g : DTG) (tt : DTT) (te : DTE) (s : DSt) (p : Addr) (acc0 : List D) (G1 : Gp) (fin : List D → Gp → Prop) : Prop :=
  ∃ V : Nat → List D → Gp → Prop, V 0 acc0 G1 ∧ (∀ i acc G', i ≤ I.n → V i acc G' → G' p = some (.lst acc) ∧ I.here G') ∧
    (∀ i x acc G', i < I.n → I.item i x → V i acc G' → g x s G' fun s2 G2 => tt s2 G2 (fun b G3 => if b = true then te s2 G3 (fun y G4 => G4 p = some (.lst acc) ∧ acc.length < sizeLine ∧ V (i + 1) (acc ++ [y]) (gupd G4 p (.lst (acc ++ [y])))) X0 else V (i + 1) acc G3) X0) ∧
    ∀ acc G', V I.n acc G' → fin acc G'
def lc2Turns (I : DIt) (g : DTG) (tt : DTT) (di1 : DTI) (g1 : DTG) (tt1 : DTT) (te : DTE) (vs1 : List Nat) (s : DSt) (G1 : Gp) (p : Addr) (fin : List D → Gp → Prop) : Prop :=
  ∃ V : Nat → List D → Gp → Prop, V 0 [] (gupd G1 p (.lst [])) ∧ (∀ i acc G', i ≤ I.n → V i acc G' → G' p = some (.lst acc) ∧ I.here G') ∧
    (∀ i x acc G', i < I.n → I.item i x → V i acc G' → g x s G' fun s2 G2 => tt s2 G2 (fun b G3 => if b = true then di1 s2 G3 (fun I1 G4 => lcIn I1 g1 tt1 te (wipeD s2 vs1) p acc G4 (V (i + 1))) X0 else V (i + 1) acc G3) X0) ∧
    ∀ acc G', V I.n acc G' → fin acc G'
abbrev dLc2 (di : DTI) (g : DTG) (tt : DTT) (di1 : DTI) (g1 : DTG) (tt1 : DTT) (te : DTE) (vs vs1 : List Nat) : DTE := fun s G Q E => di s G (fun I G1 => ∀ p, G1 p = none → lc2Turns I g tt di1 g1 tt1 te vs1 (wipeD s vs) G1 p fun acc G' => Q (.lst acc) (gdel G' p)) E
abbrev dLc2M (di : DTI) (g : DTG) (tt : DTT) (di1 : DTI) (g1 : DTG) (tt1 : DTT) (te : DTE) (vs vs1 : List Nat) : DTE := fun s G Q E => di s G (fun I G1 => ∀ p, G1 p = none → lc2Turns I g tt di1 g1 tt1 te vs1 (wipeD s vs) G1 p fun _ G' => Q (.ref p) G') E
section
variable {X : Cx} {W : WX} {tg iter tg1 iter1 elt : Expr} {ifs ifs1 : List Expr} {scope : Scope} {own : List (Str × Nat)} {di di1 : DTI} {g g1 : DTG} {tt tt1 : DTT} {te : DTE} {pos : Pos}
theorem lc2_core' {K : PySem.W.Frag} {W : WX} {ti ti1 : TI} {tg tg1 : TG} {t1 t11 : TT} {t2 : TE} {vs vs1 : List Nat} (ai : AI K W ti di)
    (ag : ∀ F σ H s G v x Qd Q, RS K F H G → RepSt K F σ s → Rep K F v x → g x s G Qd → ContW K F σ vs Qd Q → tg v σ H Q) (at_ : AT K W0 t1 tt) (ai1 : AI K W0 ti1 di1)
    (ag1 : ∀ F σ H s G v x Qd Q, RS K F H G → RepSt K F σ s → Rep K F v x → g1 x s G Qd → ContW K F σ vs1 Qd Q → tg1 v σ H Q) (at1 : AT K W0 t11 tt1) (ae : AE K W0 t2 te)
    {F : Fp} {σ : St} {H : Hp} {s : DSt} {G : Gp} {Ed : DX} {Q : VK} {fin : Addr → List D → Gp → Prop} (rs : RS K F H G) (st : RepSt K F σ s)
    (q : di s G (fun I G1 => ∀ p, G1 p = none → lc2Turns I g tt di1 g1 tt1 te vs1 (wipeD s vs) G1 p (fin p)) Ed) (cx : ContX K F W σ Ed)
    (hf : ∀ F' H' G' p acc, FSame F F' → RS K F' H' G' → G' p = some (.lst acc) → fin p acc G' → Q (.ref p) H') : tLc2 ti tg t1 ti1 tg1 t11 t2 vs vs1 σ H Q := by
  refine ai F σ H s G _ Ed _ rs st q (fun F1 H1 G1 J I e1 rs1 ir q1 D hD => ?_) cx
  obtain ⟨V, v0, here, turn, done⟩ := q1 D (rs1.free hD).2
  have rs0 : RS K F1 (upd H1 D (.lst [])) (gupd G1 D (.lst [])) := rs1.newG hD (g := .lst []) ⟨[], upd_same, .nil⟩
  refine ⟨fun i m H' => i + m = I.n ∧ ∃ F' acc G', FSame F1 F' ∧ RS K F' H' G' ∧ V i acc G', ⟨I.n, Nat.zero_add _, F1, [], _, FSame.refl F1, rs0, v0⟩, fun i m H2 hW => ?_⟩
  obtain ⟨em, F2, acc, G2, e2, rs2, v2⟩ := hW
  by_cases hlt : i < I.n
  · have hr := here i acc G2 (Nat.le_of_lt hlt) v2
    refine .inr ⟨ir.go F2 H2 G2 i e2 rs2 hr.2 hlt, fun H' => ∃ F' acc G', FSame F1 F' ∧ RS K F' H' G' ∧ V (i + 1) acc G', fun H' hN => ⟨m - 1, by omega, by omega, hN⟩, fun x H3 hy => ?_⟩
    obtain ⟨F3, dx, e3, rs3, rx, it⟩ := ir.yld F2 H2 G2 i x H3 e2 rs2 hr.2 hlt hy
    have e03 := (e1.trans e2).trans e3
    refine ag F3 (wipe σ vs) H3 (wipeD s vs) G2 x dx _ _ rs3 (repst_wipe (st.mono e03) vs) rx (turn i dx acc G2 hlt it v2) fun F4 H4 G4 σ4 s4 e4 rs4 st4 w4 q4 => ⟨w4.trans (wipe_wipe vs vs fun _ h => h), ?_⟩
    refine at_ F4 σ4 H4 s4 G4 _ _ _ rs4 st4 q4 (fun F5 H5 G5 b e5 rs5 q5 => ?_) (fun _ _ _ _ _ _ _ _ _ z => z)
    have e15 := ((e2.trans e3).trans e4).trans e5
    cases b with
    | false => exact ⟨F5, acc, G5, e15, rs5, q5⟩
    | true =>
      refine ai1 F5 σ4 H5 s4 G5 _ _ _ rs5 (st4.mono e5) q5 (fun F6 H6 G6 J1 I1 e6 rs6 ir1 q6 => ?_) (fun _ _ _ _ _ _ _ _ _ z => z)
      obtain ⟨V1, w0, here1, turn1, done1⟩ := q6
      refine ⟨fun j k H' => j + k = I1.n ∧ ∃ F' acc' G', FSame F6 F' ∧ RS K F' H' G' ∧ V1 j acc' G', ⟨I1.n, Nat.zero_add _, F6, acc, G6, FSame.refl F6, rs6, w0⟩, fun j k H7 hW1 => ?_⟩
      obtain ⟨ek, F7, acc', G7, e7, rs7, v7⟩ := hW1
      by_cases hlt1 : j < I1.n
      · have hr1 := here1 j acc' G7 (Nat.le_of_lt hlt1) v7
        refine .inr ⟨ir1.go F7 H7 G7 j e7 rs7 hr1.2 hlt1, fun H' => ∃ F' acc' G', FSame F6 F' ∧ RS K F' H' G' ∧ V1 (j + 1) acc' G', fun H' hN => ⟨k - 1, by omega, by omega, hN⟩, fun y H8 hy1 => ?_⟩
        obtain ⟨F8, dy, e8, rs8, ry, it1⟩ := ir1.yld F7 H7 G7 j y H8 e7 rs7 hr1.2 hlt1 hy1
        refine ag1 F8 (wipe σ4 vs1) H8 (wipeD s4 vs1) G7 y dy _ _ rs8 (repst_wipe (st4.mono (((e5.trans e6).trans e7).trans e8)) vs1) ry (turn1 j dy acc' G7 hlt1 it1 v7) fun F9 H9 G9 σ9 s9 e9 rs9 st9 w9 q9 => ⟨w9.trans (wipe_wipe vs1 vs1 fun _ h => h), ?_⟩
        refine at1 F9 σ9 H9 s9 G9 _ _ _ rs9 st9 q9 (fun Fa Ha Ga b ea rsa qa => ?_) (fun _ _ _ _ _ _ _ _ _ z => z)
        cases b with
        | false => exact ⟨Fa, acc', Ga, ((e7.trans e8).trans e9).trans ea, rsa, qa⟩
        | true =>
          refine ae Fa σ9 Ha s9 Ga _ _ _ rsa (st9.mono ea) qa (fun Fb Hb Gb z dz eb rsb rz qb => ?_) (fun _ _ _ _ _ _ _ _ _ z => z)
          obtain ⟨eD, lt, vb⟩ := qb
          obtain ⟨xs, h1, r1⟩ := (rsb.gf D _ eD).2
          exact ⟨xs, h1, by rw [r1.length]; exact lt, Fb, acc' ++ [dz], _, (((e7.trans e8).trans e9).trans ea).trans eb, rsb.setG eD (g := .lst (acc' ++ [dz])) ⟨_, upd_same, r1.append (.cons rz .nil)⟩, vb⟩
      · have ej : j = I1.n := by omega
        subst ej
        have hr1 := here1 I1.n acc' G7 (Nat.le_refl _) v7
        exact .inl ⟨ir1.stop F7 H7 G7 e7 rs7 hr1.2, F7, acc', G7, (e15.trans e6).trans e7, rs7, done1 acc' G7 v7⟩
  · have ei : i = I.n := by omega
    subst ei
    have hr := here I.n acc G2 (Nat.le_refl _) v2
    exact .inl ⟨ir.stop F2 H2 G2 e2 rs2 hr.2, hf F2 H2 G2 D acc (e1.trans e2) rs2 hr.1 (done acc G2 v2)⟩
/-- what is walked, told by the datum alone -/
def tiOf (K : PySem.W.Frag) (d : DTI) : TI := fun σ H R => ∃ F s G Qd Ed, RS K F H G ∧ RepSt K F σ s ∧ d s G Qd Ed ∧ (∀ F' H' G' J I, FSame F F' → RS K F' H' G' → ItR K F' J I → Qd I G' → R J H') ∧ ContX K F W0 σ Ed
theorem DI.pi {X : Cx} {tg e : Expr} {d : DTI} (h : DI X W0 tg e d) : PI X tg e (tiOf X.K d) := by
  obtain ⟨t, p, a⟩ := h
  refine ⟨fun pins s σ H R I q => p.run pins s σ H R I ?_⟩
  obtain ⟨F, s, G, Qd, Ed, h1, h2, h3, h4, h5⟩ := q
  exact a F σ H s G Qd Ed R h1 h2 h3 h4 h5
theorem ai_of {K : PySem.W.Frag} {d : DTI} : AI K W0 (tiOf K d) d := fun F σ H s G Qd Ed Q h1 h2 h3 h4 h5 => ⟨F, s, G, Qd, Ed, h1, h2, h3, h4, h5⟩
theorem ag_of {K : PySem.W.Frag} {vs : List Nat} {d : DTG} : ∀ F σ H s G v x Qd Q, RS K F H G → RepSt K F σ s → Rep K F v x → d x s G Qd → ContW K F σ vs Qd Q → tgOf K vs d v σ H Q := fun F σ H s G v x Qd Q h1 h2 h3 h4 h5 => ⟨F, s, G, x, Qd, h1, h2, h3, h4, h5⟩
abbrev BlkG (X : Cx) (scope : Scope) (vs : List Nat) (tg : Expr) (g : DTG) : Prop := ∀ (s : Shared) (H : Hp) (C : Addr) (cl : List (Str × Addr)) (fp : List Addr), DGv (X.blk s H scope (compEnvC scope cl C X.env) fp) vs tg g
abbrev BlkT (X : Cx) (scope : Scope) (ifs : List Expr) (tt : DTT) : Prop := ∀ (s : Shared) (H : Hp) (C : Addr) (cl : List (Str × Addr)) (fp : List Addr), DTs (X.blk s H scope (compEnvC scope cl C X.env) fp) ifs tt
abbrev BlkI (X : Cx) (scope : Scope) (tg iter : Expr) (di : DTI) : Prop := ∀ (s : Shared) (H : Hp) (C : Addr) (cl : List (Str × Addr)) (fp : List Addr), DI (X.blk s H scope (compEnvC scope cl C X.env) fp) W0 tg iter di
abbrev BlkE (X : Cx) (scope : Scope) (elt : Expr) (te : DTE) : Prop := ∀ (s : Shared) (H : Hp) (C : Addr) (cl : List (Str × Addr)) (fp : List Addr), DE (X.blk s H scope (compEnvC scope cl C X.env) fp) W0 elt te
theorem de_lc2 {vs1 : List Nat} (hc : X.calm = true) (hN : X.N.Nodup) (hi : DI X W tg iter di) (ok : BlkOk X.N X.env.scope scope own) (hv : ∀ i ∈ vs1, i ∈ own.map (·.2))
    (hg : BlkG X scope (own.map (·.2)) tg g) (ht : BlkT X scope ifs tt) (hi1 : BlkI X scope tg1 iter1 di1) (hg1 : BlkG X scope vs1 tg1 g1) (ht1 : BlkT X scope ifs1 tt1) (he : BlkE X scope elt te)
    (hs : ∀ x, foldedSetIterable iter X.env x = pure x := by intro _; rfl) (hs1 : ∀ env x, foldedSetIterable iter1 env x = pure x := by intro _ _; rfl) :
    DE X W (.ListComp elt [⟨tg, iter, ifs, 0⟩, ⟨tg1, iter1, ifs1, 0⟩] scope pos) (dLc2 di g tt di1 g1 tt1 te (own.map (·.2)) vs1) := by
  obtain ⟨ti, p, ai⟩ := hi
  refine ⟨⟨_, pe_lc2 (g := tgOf X.K (own.map (·.2)) g) (tt := ttOf X.K W0 tt) (wi1 := tiOf X.K di1) (g1 := tgOf X.K vs1 g1) (tt1 := ttOf X.K W0 tt1) (te := tOf X.K W0 te) hc hN p ok hv (fun s H C cl fp => (hg s H C cl fp).pg) (fun s H C cl fp => (ht s H C cl fp).pt) (fun s H C cl fp => (hi1 s H C cl fp).pi) (fun s H C cl fp => (hg1 s H C cl fp).pg) (fun s H C cl fp => (ht1 s H C cl fp).pt) (fun s H C cl fp => (he s H C cl fp).pe) hs hs1, fun F σ H s G Qd Ed Q rs st q c cx => ?_⟩⟩
  refine lc2_core' ai ag_of at_of' ai_of ag_of at_of' ae_of rs st q cx fun F' H' G' p acc e' rs' ep f => ?_
  obtain ⟨F2, e2, rs2, r2⟩ := rs'.freeze ep
  exact c F2 H' _ _ _ (e'.trans e2) rs2 r2 f
theorem de_lc2M {vs1 : List Nat} (hc : X.calm = true) (hN : X.N.Nodup) (hi : DI X W tg iter di) (ok : BlkOk X.N X.env.scope scope own) (hv : ∀ i ∈ vs1, i ∈ own.map (·.2))
    (hg : BlkG X scope (own.map (·.2)) tg g) (ht : BlkT X scope ifs tt) (hi1 : BlkI X scope tg1 iter1 di1) (hg1 : BlkG X scope vs1 tg1 g1) (ht1 : BlkT X scope ifs1 tt1) (he : BlkE X scope elt te)
    (hs : ∀ x, foldedSetIterable iter X.env x = pure x := by intro _; rfl) (hs1 : ∀ env x, foldedSetIterable iter1 env x = pure x := by intro _ _; rfl) :
    DE X W (.ListComp elt [⟨tg, iter, ifs, 0⟩, ⟨tg1, iter1, ifs1, 0⟩] scope pos) (dLc2M di g tt di1 g1 tt1 te (own.map (·.2)) vs1) := by
  obtain ⟨ti, p, ai⟩ := hi
  refine ⟨⟨_, pe_lc2 (g := tgOf X.K (own.map (·.2)) g) (tt := ttOf X.K W0 tt) (wi1 := tiOf X.K di1) (g1 := tgOf X.K vs1 g1) (tt1 := ttOf X.K W0 tt1) (te := tOf X.K W0 te) hc hN p ok hv (fun s H C cl fp => (hg s H C cl fp).pg) (fun s H C cl fp => (ht s H C cl fp).pt) (fun s H C cl fp => (hi1 s H C cl fp).pi) (fun s H C cl fp => (hg1 s H C cl fp).pg) (fun s H C cl fp => (ht1 s H C cl fp).pt) (fun s H C cl fp => (he s H C cl fp).pe) hs hs1, fun F σ H s G Qd Ed Q rs st q c cx => ?_⟩⟩
  exact lc2_core' ai ag_of at_of' ai_of ag_of at_of' ae_of rs st q cx fun F' H' G' p acc e' rs' ep f => c F' H' _ _ _ e' rs' (.ref p) f
/-- y = [.. for .. for ..] -/
theorem ds_setLc2 {vs1 : List Nat} {i : Nat} {y : Str} {py spos : Pos} (hc : X.calm = true) (hN : X.N.Nodup) (hy : X.N[i]? = some y) (hyl : X.env.scope.names.lookup y = some .local)
    (hsw : swapsWith (.ListComp elt [⟨tg, iter, ifs, 0⟩, ⟨tg1, iter1, ifs1, 0⟩] scope pos) (some (.Name y py)) spos.line X.env = pure true) (hi : DI X W tg iter di) (ok : BlkOk X.N X.env.scope scope own) (hv : ∀ i ∈ vs1, i ∈ own.map (·.2))
    (hg : BlkG X scope (own.map (·.2)) tg g) (ht : BlkT X scope ifs tt) (hi1 : BlkI X scope tg1 iter1 di1) (hg1 : BlkG X scope vs1 tg1 g1) (ht1 : BlkT X scope ifs1 tt1) (he : BlkE X scope elt te)
    (hs : ∀ x, foldedSetIterable iter X.env x = pure x := by intro _; rfl) (hs1 : ∀ env x, foldedSetIterable iter1 env x = pure x := by intro _ _; rfl) :
    DS X W (.Assign [.Name y py] (.ListComp elt [⟨tg, iter, ifs, 0⟩, ⟨tg1, iter1, ifs1, 0⟩] scope pos) spos) (dSet i (dLc2 di g tt di1 g1 tt1 te (own.map (·.2)) vs1)) := by
  obtain ⟨ti, p, ai⟩ := hi
  refine ⟨⟨_, ps_setLc2 (g := tgOf X.K (own.map (·.2)) g) (tt := ttOf X.K W0 tt) (wi1 := tiOf X.K di1) (g1 := tgOf X.K vs1 g1) (tt1 := ttOf X.K W0 tt1) (te := tOf X.K W0 te) hc hN hy hyl hsw p ok hv (fun s H C cl fp => (hg s H C cl fp).pg) (fun s H C cl fp => (ht s H C cl fp).pt) (fun s H C cl fp => (hi1 s H C cl fp).pi) (fun s H C cl fp => (hg1 s H C cl fp).pg) (fun s H C cl fp => (ht1 s H C cl fp).pt) (fun s H C cl fp => (he s H C cl fp).pe) hs hs1, fun F σ H s G Dd E rs st q r => ?_⟩⟩
  refine lc2_core' ai ag_of at_of' ai_of ag_of at_of' ae_of rs st q (r.ex.at_ st) fun F' H' G' p acc e' rs' ep f => ?_
  obtain ⟨F2, e2, rs2, r2⟩ := rs'.freeze ep
  exact r.nx F2 H' _ _ _ (e'.trans e2) rs2 ((st.mono (e'.trans e2)).set i r2) f
theorem ds_setLc2M {vs1 : List Nat} {i : Nat} {y : Str} {py spos : Pos} (hc : X.calm = true) (hN : X.N.Nodup) (hy : X.N[i]? = some y) (hyl : X.env.scope.names.lookup y = some .local)
    (hsw : swapsWith (.ListComp elt [⟨tg, iter, ifs, 0⟩, ⟨tg1, iter1, ifs1, 0⟩] scope pos) (some (.Name y py)) spos.line X.env = pure true) (hi : DI X W tg iter di) (ok : BlkOk X.N X.env.scope scope own) (hv : ∀ i ∈ vs1, i ∈ own.map (·.2))
    (hg : BlkG X scope (own.map (·.2)) tg g) (ht : BlkT X scope ifs tt) (hi1 : BlkI X scope tg1 iter1 di1) (hg1 : BlkG X scope vs1 tg1 g1) (ht1 : BlkT X scope ifs1 tt1) (he : BlkE X scope elt te)
    (hs : ∀ x, foldedSetIterable iter X.env x = pure x := by intro _; rfl) (hs1 : ∀ env x, foldedSetIterable iter1 env x = pure x := by intro _ _; rfl) :
    DS X W (.Assign [.Name y py] (.ListComp elt [⟨tg, iter, ifs, 0⟩, ⟨tg1, iter1, ifs1, 0⟩] scope pos) spos) (dSet i (dLc2M di g tt di1 g1 tt1 te (own.map (·.2)) vs1)) := by
  obtain ⟨ti, p, ai⟩ := hi
  refine ⟨⟨_, ps_setLc2 (g := tgOf X.K (own.map (·.2)) g) (tt := ttOf X.K W0 tt) (wi1 := tiOf X.K di1) (g1 := tgOf X.K vs1 g1) (tt1 := ttOf X.K W0 tt1) (te := tOf X.K W0 te) hc hN hy hyl hsw p ok hv (fun s H C cl fp => (hg s H C cl fp).pg) (fun s H C cl fp => (ht s H C cl fp).pt) (fun s H C cl fp => (hi1 s H C cl fp).pi) (fun s H C cl fp => (hg1 s H C cl fp).pg) (fun s H C cl fp => (ht1 s H C cl fp).pt) (fun s H C cl fp => (he s H C cl fp).pe) hs hs1, fun F σ H s G Dd E rs st q r => ?_⟩⟩
  exact lc2_core' ai ag_of at_of' ai_of ag_of at_of' ae_of rs st q (r.ex.at_ st) fun F' H' G' p acc e' rs' ep f => r.nx F' H' _ _ _ e' rs' ((st.mono e').set i (.ref p)) f
end
end Dl
set_option Elab.async false
set_option linter.all false
set_option maxRecDepth 100000
set_option maxHeartbeats 4000000
/-! a whole number in a tuple of whole numbers. -/
namespace Dl
open PySem PySem.Spec PyProof.Rows L2 GenW
set_option autoImplicit false
def gInT (neg : Bool) : G2 := fun x y G Q => match x, y with
  | .int i, .tup ds => ∃ ns : List Int, ds = ns.map .int ∧ Q (.bl (if neg then !decide (i ∈ ns) else decide (i ∈ ns))) G
  | _, _ => False
theorem inV_int (i : Int) : ∀ ns : List Int, inV (.int i) (ns.map V.int) = decide (i ∈ ns)
  | [] => rfl
  | n :: ns => by
    have ih := inV_int i ns
    unfold inV at ih ⊢
    rw [List.map_cons, List.any_cons, ih]
    by_cases h : n = i
    · subst h
      rw [show eqV (.int n) (.int n) = true from by unfold eqV; simp, Bool.true_or]
      exact (decide_eq_true List.mem_cons_self).symm
    · rw [show eqV (.int n) (.int i) = false from by unfold eqV; simp [h], Bool.false_or]
      exact decide_eq_decide.mpr ⟨fun m => List.mem_cons_of_mem _ m, fun m => (List.mem_cons.mp m).resolve_left (fun z => h z.symm)⟩
theorem flat_ints : ∀ ns : List Int, (ns.map V.int).all flatV = true
  | [] => rfl
  | n :: ns => by rw [List.map_cons, List.all_cons, flat_ints ns]; rfl
section
variable {X : Cx}
theorem in_tup {neg : Bool} {K : PySem.W.Frag} {F : Fp} {H : Hp} {G : Gp} {x y : V} {dx dy : D} {Qd : DK} {Q : VK} (rs : RS K F H G) (rx : Rep K F x dx) (ry : Rep K F y dy) (q : gInT neg dx dy G Qd) (c : Cont K F Qd Q) : rIn K neg x y H Q := by
  unfold gInT at q
  split at q
  · obtain ⟨ns, rfl, q⟩ := q
    cases rx
    cases ry with
    | tup h r =>
      rw [repl_int r] at h
      refine ⟨_, _, rfl, .inr (same_t rs.same h), rfl, flat_ints ns, ?_⟩
      rw [inV_int]
      exact c F H G _ _ (FSame.refl F) rs (.bl _) q
  · exact q.elim
theorem do_inT : DOp X (compareOp .In) (gInT false) := ⟨⟨_, op_in_seq, fun F H G x y dx dy Qd Q rs rx ry q c => in_tup rs rx ry q c⟩⟩
theorem do_notInT : DOp X (compareOp .NotIn) (gInT true) := ⟨⟨_, op_notIn_seq, fun F H G x y dx dy Qd Q rs rx ry q c => in_tup rs rx ry q c⟩⟩
end
end Dl
set_option Elab.async false
set_option linter.all false
set_option maxRecDepth 100000
set_option maxHeartbeats 4000000
/-! An attribute as one of several targets; xs.index(i) of a list of whole numbers. -/
namespace Dl
open PySem PySem.Spec PyProof.Rows L2 GenW
set_option autoImplicit false
section
variable {X : Cx} {W : WX} {pos : Pos} {o : Expr} {c f : Str}
/-- what is given to o.f -/
def gFldT (K : PySem.W.Frag) (to : TE) (f : Str) : TG := fun y σ H Q => to σ H fun x H1 => ∃ a C dx fs, x = .ref a ∧ H1 a = some (.ins C dx fs) ∧ Cls K C ∧ NoAttr K C f ∧ fs.length < 1000 ∧ Q σ (upd H1 a (.ins C dx (putF f y fs)))
theorem pg_fld {to : TE} (ho : PE X o to) : PG X (.Attribute o f pos) (gFldT X.K to f) := ⟨fun pins s σ H y u Q I ry h => by
  rw [assign_Attribute]
  refine wpAny_bind (wpAny_holding (thn (ho.run pins s σ H _ I h) fun w s1 z => ?_))
  obtain ⟨x, H1, I1, rx, a, C, dx, fs, rfl, ea, hc, hn, hl, q⟩ := z
  cases rx
  exact wpAny_bind (wpAny_standAt (wpAny_bind (wpAny_holding (setattr_ok I1 ea hc hn hl ry fun s2 I2 => wpAny_release ⟨σ, _, I2, q⟩))))⟩
abbrev dgFld (c f : Str) (do_ : DTE) : DTG := fun y s G Q => do_ s G (fun x G1 => gIns c x G1 fun a fs => fs.length < 1000 ∧ Q s (gupd G1 a (.ins c (putD f y fs)))) X0
theorem dg_fld {do_ : DTE} (hc : Cls X.K (He.ga X.K c)) (hn : NoAttr X.K (He.ga X.K c) f) (ho : DE X W0 o do_) : DG X (.Attribute o f pos) (dgFld c f do_) := by
  obtain ⟨t, p, a⟩ := ho
  refine ⟨⟨_, pg_fld p, fun F σ H s G v y Qd Q rs st rv q k => ?_⟩⟩
  refine a F σ H s G _ X0 _ rs st q (fun F1 H1 G1 w x e1 rs1 rx q1 => ?_) cx0
  obtain ⟨b, fs, dx, vs, rfl, rfl, eg, eh, rf, hl, q2⟩ := gins_at rs1 rx q1
  refine ⟨b, _, dx, vs, rfl, eh, hc, hn, by rw [rf.len]; exact hl, ?_⟩
  exact k F1 _ _ σ s e1 (rs1.setIns eg rf (rv.mono e1)) (st.mono e1) q2
end
def dmIndex : GM := fun x xs G Q => match xs with
  | [.int k] => ∃ (ns : List Int) (j : Nat), lv x G = some (ns.map .int) ∧ ns[j]? = some k ∧ (∀ m, m < j → ns[m]? ≠ some k) ∧ Q (.int (j : Nat)) G
  | _ => False
theorem dm_index {X : Cx} : DM X "list.index" dmIndex := ⟨⟨_, mt_index, fun F H G v vs x xs Qd Q rs rv rvs q c => by
  unfold dmIndex at q
  split at q
  · rename_i k
    obtain ⟨ns, j, e, hj, hm, q⟩ := q
    cases rvs with
    | cons ru rest =>
      cases rest
      cases ru
      obtain ⟨a, ys, rfl, h1, r1⟩ := lv_at rs rv e
      have z := repl_int r1
      subst z
      refine ⟨a, _, _, j, .int k, rfl, rfl, .inl (.inl h1), rfl, ?_, by rw [List.getElem?_map, hj]; rfl, ?_, fun m z' l hz => ?_, c F H G _ _ (FSame.refl F) rs (.int _) q⟩
      · exact List.all_eq_true.mpr fun v hv => by
          obtain ⟨n, _, rfl⟩ := List.mem_map.mp hv
          rfl
      · show (k == k) = true
        exact beq_self_eq_true k
      · rw [List.getElem?_map] at hz
        obtain ⟨n, hn, rfl⟩ := Option.map_eq_some_iff.mp hz
        show (n == k) = false
        exact beq_eq_false_iff_ne.mpr fun e => hm m l (by rw [hn, e])
  · exact q.elim⟩⟩
end Dl
set_option Elab.async false
set_option linter.all false
set_option maxRecDepth 100000
set_option maxHeartbeats 4000000
/-! index of data: in a list, in a module's tuple. -/
namespace Dl
open PySem PySem.Spec PyProof.Rows L2 GenW
set_option autoImplicit false
theorem dp_at {K : PySem.W.Frag} {H : Hp} : ∀ {xs : List V} {ds : List PyData} {j : Nat} {v : V}, DpAll K H xs ds → xs[j]? = some v → ∃ d, ds[j]? = some d ∧ Dp K H v d
  | _, _, 0, _, .cons h _, e => by
    cases e
    exact ⟨_, rfl, h⟩
  | _, _, j + 1, _, .cons _ t, e => dp_at (j := j) t e
theorem lay_at : ∀ {ds : List PyData} {j : Nat} {d : PyData}, PyData.canLayAll0 ds = true → ds[j]? = some d → d.canLay0 = true
  | [], _, _, _, e => nomatch e
  | _ :: _, 0, _, h, e => by
    cases e
    unfold PyData.canLayAll0 at h
    exact (Bool.and_eq_true_iff.mp h).1
  | _ :: _, j + 1, _, h, e => by
    unfold PyData.canLayAll0 at h
    exact lay_at (j := j) (Bool.and_eq_true_iff.mp h).2 e
theorem dps_len {K : PySem.W.Frag} {H : Hp} : ∀ {xs : List V} {ds : List PyData}, DpAll K H xs ds → xs.length = ds.length
  | _, _, .nil => rfl
  | _, _, .cons _ t => congrArg (· + 1) (dps_len t)
def rTix (K : PySem.W.Frag) : V → List V → Hp → VK → Prop := fun x xs H Q => ∃ (a : Addr) (ys : List V) (y : V) (d : PyData) (ds : List PyData) (j : Nat), x = .ref a ∧ xs = [y] ∧ SqT K H a ys ∧ DpAll K H ys ds ∧ Dp K H y d ∧ PyData.canLayAll0 ds = true ∧ SeqAt.shaped d = true ∧
  (∃ z, ds[j]? = some z ∧ PyData.eqv z d = true) ∧ (∀ (m : Nat) (z : PyData), m < j → ds[m]? = some z → PyData.eqv z d = false) ∧ Q (.int (j : Nat)) H
theorem mt_tix {X : Cx} (hu : X.A.units + 65 < cLine) : MtR X "tuple.index" (rTix X.K) := by
  intro pins s σ H x xs v us Q I rx rxs h
  obtain ⟨a, ys, y, d, ds, j, rfl, rfl, hq, hds, hy, lay, sd, ⟨z, hz, ez⟩, no, q⟩ := h
  cases rx
  obtain ⟨u, rfl, ru⟩ := Vals.one rxs
  obtain ⟨its, rv, ⟨o, ho, hc, n, hd⟩, _⟩ := I.tuple hq
  obtain ⟨cls, dd, data, sl⟩ := o
  dsimp only at hc hd
  subst hc
  subst hd
  obtain ⟨bs, rd⟩ := Dp.reads I d y u hy ru
  have e1 := rv.length
  have e2 := dps_len hds
  have dz := SeqAt.depth_of_shaped sd
  have hz2 := (List.getElem?_eq_some_iff.mp hz).1
  have hj : j < its.toArray.size := by
    rw [List.size_toArray]
    omega
  refine call_meets PySem.F.slot_tuple_index ⟨_, ho, rfl⟩ PySem.F.entry_tuple_index (PySem.F.args_tuple_index_2 _ _)
    (SeqAt.tuple_index2_found a its.toArray n dd sl u (fun m => match ds[m]? with
      | some z => PyData.eqv z d
      | none => false) j hj (Nat.zero_le _) hj (by rw [hz]; exact ez) ?_) ⟨ho, fun m hm => ?_, ⟨.int (j : Nat), H, I.tok _, ⟨_, rfl⟩, q⟩⟩
  · intro m _ _ lt
    obtain ⟨w, hw⟩ : ∃ w, ds[m]? = some w := ⟨_, List.getElem?_eq_getElem (by omega)⟩
    rw [hw]
    exact no m w lt hw
  · have hm2 : m < its.length := by simpa using hm
    obtain ⟨w, hw⟩ : ∃ w, ys[m]? = some w := ⟨_, List.getElem?_eq_getElem (by omega)⟩
    obtain ⟨t, ht, rt⟩ := rv.get hw
    obtain ⟨k, hk, dk⟩ := dp_at hds hw
    obtain ⟨as, ra⟩ := Dp.reads I k w t dk rt
    rw [hk]
    have et : its.toArray[m] = t := by
      obtain ⟨_, e⟩ := List.getElem?_eq_some_iff.mp ht
      simpa using e
    rw [et]
    exact SeqAt.eqAt_reads k d X.A.in1 s t u as bs ra rd (lay_at lay hk) (SeqAt.canLay_of_shaped sd) (by rw [Around.in1_units]; omega)
/-- the first place of an equal one -/
def FirstAt (ds : List D) (y : D) (j : Nat) : Prop := (∃ z, ds[j]? = some z ∧ deq z y = true) ∧ ∀ (m : Nat) (z : D), m < j → ds[m]? = some z → deq z y = false
def dmTix : GM := fun x xs G Q => match x, xs with
  | .tup ds, [y] => EqOk (.tup ds) ∧ EqOk y ∧ ∃ j : Nat, FirstAt ds y j ∧ Q (.int (j : Nat)) G
  | _, _ => False
theorem toPs_at : ∀ {ds : List D} {j : Nat}, (toP.toPs ds)[j]? = ds[j]?.map toP
  | [], _ => rfl
  | _ :: _, 0 => rfl
  | _ :: ds, j + 1 => by
    unfold toP.toPs
    exact toPs_at (ds := ds) (j := j)
theorem dm_tix {X : Cx} (hu : X.A.units + 65 < cLine) : DM X "tuple.index" dmTix := ⟨⟨_, mt_tix hu, fun F H G v vs x xs Qd Q rs rv rvs q c => by
  unfold dmTix at q
  split at q
  · rename_i ds y
    obtain ⟨ok1, ok2, j, ⟨⟨z, hz, ez⟩, no⟩, q⟩ := q
    cases rvs with
    | @cons u _ _ _ ru rest =>
      cases rest
      cases rv with
      | @tup a ys _ h1 r1 =>
        have p1 := ok1.1
        unfold pure? at p1
        have l1 := SeqAt.canLay_of_shaped ok1.2
        unfold toP PyData.canLay0 at l1
        refine ⟨a, ys, u, _, _, j, rfl, rfl, same_t rs.same h1, dps_of rs r1 p1, dp_of rs ru ok2.1, l1, ok2.2, ⟨toP z, by rw [toPs_at, hz]; rfl, ez⟩, fun m w lt hw => ?_, c F H G _ _ (FSame.refl F) rs (.int _) q⟩
        rw [toPs_at] at hw
        obtain ⟨w', hw', rfl⟩ := Option.map_eq_some_iff.mp hw
        exact no m w' lt hw'
  · exact q.elim⟩⟩
def dmLix : GM := fun x xs G Q => match xs with
  | [y] => ∃ ds, lv x G = some ds ∧ EqOk (.lst ds) ∧ EqOk y ∧ ∃ j : Nat, FirstAt ds y j ∧ Q (.int (j : Nat)) G
  | _ => False
theorem dm_lix {X : Cx} (hu : X.A.units + 65 < cLine) : DM X "list.index" dmLix := ⟨⟨_, mt_indexD hu, fun F H G v vs x xs Qd Q rs rv rvs q c => by
  unfold dmLix at q
  split at q
  · rename_i y
    obtain ⟨ds, e, ok1, ok2, j, ⟨⟨z, hz, ez⟩, no⟩, q⟩ := q
    obtain ⟨a, ys, rfl, h1, r1⟩ := lv_at rs rv e
    cases rvs with
    | @cons u _ _ _ ru rest =>
      cases rest
      have p1 := ok1.1
      unfold pure? at p1
      have s1 := ok1.2
      unfold toP at s1
      refine ⟨a, u, _, _, j, toP z, rfl, rfl, .lst (.inl (.inl h1)) (dps_of rs r1 p1), dp_of rs ru ok2.1, s1, ok2.2, by rw [toPs_at, hz]; rfl, ez, fun m w lt hw => ?_, c F H G _ _ (FSame.refl F) rs (.int _) q⟩
      rw [toPs_at] at hw
      obtain ⟨w', hw', rfl⟩ := Option.map_eq_some_iff.mp hw
      exact no m w' lt hw'
  · exact q.elim⟩⟩
section
variable {X : Cx} {W : WX} {e o : Expr} {es : List Expr} {do_ : DTE} {dA : DTA} {name x : Str} {apos cpos pos : Pos} {id : String} {g : GM} {d : D}
/-- a method of a list, one that changes or one that stays -/
abbrev dBML (g : GM) (do_ : DTE) (dA : DTA) : DTE := fun s G Q E => do_ s G (fun x G1 => (lv x G1).isSome = true ∧ dA s G1 (fun xs G2 => g x xs G2 Q) E) E
theorem de_bml (pa : PlainAttrs "list") (slot : Slot "list" name id) (hty : typeOf (.builtin id) = pure (.type "method_descriptor")) (hm : DM X id g) (ho : DE X W o do_) (ha : DA X W (e :: es) dA)
    (hbase : attributeBase o name X.env (eval o X.env) = eval o X.env := by rfl)
    (hfew : ((backTo cpos (starEach (e :: es) X.env)).all (fun x => !x.1) && (backToKw cpos (keywordEach [] X.env)).all (fun x => x.1.isSome)
      && decide ((e :: es).length + ([] : List Keyword).length + (if ([] : List Keyword).isEmpty then 0 else 1) < 30)) = true := by rfl)
    (hline : (apos.endLine == cpos.line) = true := by rfl) (hs : starEach (e :: es) X.env = (false, eval e X.env) :: starEach es X.env := by rfl) (hplain : (backTo cpos (starEach es X.env)).any (·.1) = false := by rfl) :
    DE X W (.Call (.Attribute o name apos) (e :: es) [] cpos) (dBML g do_ dA) := by
  obtain ⟨r, h1, h2⟩ := hm
  obtain ⟨t, p, q⟩ := ho
  obtain ⟨u, p2, q2⟩ := ha
  refine ⟨⟨_, pe_bm pa slot hty h1 p p2 hbase hfew hline hs hplain, fun F σ H s G Qd Ed Q rs st hq c cx => q F σ H s G _ Ed _ rs st hq (fun F1 H1 G1 v x e1 rs1 rv q1 => ⟨?_, ?_⟩) cx⟩⟩
  · obtain ⟨ds, e⟩ := Option.isSome_iff_exists.mp q1.1
    obtain ⟨a, xs, rfl, h, _⟩ := lv_at rs1 rv e
    exact .inl ⟨rfl, xs, .inl (.inl h)⟩
  · exact q2 F1 σ H1 s G1 _ Ed _ rs1 (st.mono e1) q1.2 (fun F2 H2 G2 vs xs e2 rs2 rvs q3 => h2 F2 H2 G2 v vs x xs Qd Q rs2 (rv.mono e2) rvs q3 (c.mono (e1.trans e2))) (cx.mono e1)
/-- a method of a module's tuple -/
abbrev dBMC (g : GM) (d : D) (dA : DTA) : DTE := fun s G Q E => dA s G (fun xs G2 => g d xs G2 Q) E
theorem de_bmc (h : ∃ u, X.mg x = some u ∧ GloV X.K u d) (ht : TupC X.K X.mg x) (pa : PlainAttrs "tuple") (slot : Slot "tuple" name id) (hty : typeOf (.builtin id) = pure (.type "method_descriptor")) (hm : DM X id g) (ha : DA X W (e :: es) dA)
    (hg : Gl X x := by rfl) (hd : (x == ("__debug__" : Str)) = false := by decide)
    (hbase : attributeBase (.Name x pos) name X.env (eval (.Name x pos) X.env) = eval (.Name x pos) X.env := by rfl)
    (hfew : ((backTo cpos (starEach (e :: es) X.env)).all (fun x => !x.1) && (backToKw cpos (keywordEach [] X.env)).all (fun x => x.1.isSome)
      && decide ((e :: es).length + ([] : List Keyword).length + (if ([] : List Keyword).isEmpty then 0 else 1) < 30)) = true := by rfl)
    (hline : (apos.endLine == cpos.line) = true := by rfl) (hs : starEach (e :: es) X.env = (false, eval e X.env) :: starEach es X.env := by rfl) (hplain : (backTo cpos (starEach es X.env)).any (·.1) = false := by rfl) :
    DE X W (.Call (.Attribute (.Name x pos) name apos) (e :: es) [] cpos) (dBMC g d dA) := by
  obtain ⟨r, h1, h2⟩ := hm
  obtain ⟨t, p2, q2⟩ := ha
  obtain ⟨u, hu, v, rv, rep⟩ := h
  obtain ⟨a, ob, hu2, hk, hc, hdn⟩ := ht
  rw [hu] at hu2
  cases hu2
  have ev : v = .ref a := by
    cases v with
    | ref b =>
      cases rv
      rfl
    | _ => simp [L2.RelV] at rv
  subst ev
  refine ⟨⟨_, pe_bm pa slot hty h1 (pe_glob hg hu rv hd) p2 hbase hfew hline hs hplain, fun F σ H s G Qd Ed Q rs st hq c cx => ⟨.inr (.inl ⟨rfl, ob, hk, hc, hdn⟩), ?_⟩⟩⟩
  exact q2 F σ H s G _ Ed _ rs st hq (fun F2 H2 G2 vs xs e2 rs2 rvs q3 => h2 F2 H2 G2 _ vs d xs Qd Q rs2 (rep F2) rvs q3 (c.mono e2)) cx
end
end Dl
set_option Elab.async false
set_option linter.all false
set_option maxRecDepth 100000
set_option maxHeartbeats 4000000
/-! raise C(e), where C's own __init__ is «self.f = e» -/
namespace Dl
open PySem PySem.Spec PyProof.Rows L2
set_option autoImplicit false
structure ExK (K : PySem.W.Frag) (C : Addr) (f : Str) : Prop where
  T : OexC K C
  no : PySem.W.findIn K (.ref C) f = some none
  ini : PySem.W.findIn K (.ref C) "__init__" = some (some (.ref (He.ma K C "__init__")))
  fn : PySem.W.typeIn K (.ref (He.ma K C "__init__")) = some (.type "function")
theorem exK_of {K : PySem.W.Frag} {C : Addr} {f : Str} (h : exIB K C f = true) : ExK K C f := by
  unfold exIB at h
  obtain ⟨h1, h⟩ := He.ba h
  obtain ⟨h2, h⟩ := He.ba h
  obtain ⟨h3, h⟩ := He.ba h
  obtain ⟨h4, h⟩ := He.ba h
  obtain ⟨h5, h⟩ := He.ba h
  obtain ⟨h6, h⟩ := He.ba h
  obtain ⟨h7, h8⟩ := He.ba h
  refine ⟨⟨?_, of_decide_eq_true h2, of_decide_eq_true h3, of_decide_eq_true h4, h5⟩, of_decide_eq_true h6, of_decide_eq_true h7, of_decide_eq_true h8⟩
  split at h1
  · rename_i t dd cd k0 k1 k2 k3 n k5 hl
    split at h1
    · rename_i C' bm hm
      obtain ⟨a, h1⟩ := He.ba h1
      obtain ⟨b, h1⟩ := He.ba h1
      obtain ⟨c, d⟩ := He.ba h1
      obtain ⟨e1, e2, e3⟩ := of_decide_eq_true a
      subst e1 e2 e3
      obtain ⟨nm, bs, mro, ns, qn, hd, sn, sub, ab, col, del⟩ := cd
      dsimp only at hm b c
      subst hm b
      cases del with
      | true => cases c
      | false => exact ⟨nm, qn, ns, bs, bm, sn, sub, ab, col, dd, k0, k1, k2, k3, k5, hl, d⟩
    · cases h1
  · cases h1
def spIni (C : Addr) (f : Str) : Sp := fun vs H Q _ => ∃ (a : Addr) (y : V), vs = [.ref a, y] ∧ H a = some (exo a C none) ∧ ∀ dx, H dx = none → dx ≠ a → Q .non (upd (upd H dx (exd dx [(f, y)])) a (exo a C (some dx)))
section
variable {P : Program} {w : World} {K : PySem.W.Frag} {mg : Str → Option Value} {base : Heap}
theorem ini_fn {qual n0 n1 f : Str} {params : Arguments} {scope : Scope} {dvs : List V} {kws : List (Str × V)} {fI C : Addr} {fd : FuncData} {p0 p1 p2 pos : Pos}
    (F : FunD K "__init__" qual params [.Assign [.Attribute (.Name n0 p0) f p1] (.Name n1 p2) pos] scope dvs kws fI fd) (S : FnScope [n0, n1] [n0, n1] scope) (X : ExK K C f) (l0 : Vis scope n0) (l1 : Vis scope n1)
    (d0 : (n0 == ("__debug__" : Str)) = false) (d1 : (n1 == ("__debug__" : Str)) = false) (c0 : (n0 == ("__classdict__" : Str)) = false) (c1 : (n1 == ("__classdict__" : Str)) = false) :
    FnOk P w K mg base (L2.CX P w) 1 fI fd [n0, n1] (spIni C f) := by
  refine F.ok (k := 0) S (fun vs H Q E h => ?_) (fun cdv A outer s H vs Q E hr h => ⟨_, pss_one (ps_ost (pe_var (i := 0) rfl l0 d0 c0) (pe_var (i := 1) rfl l1 d1 c1)), ?_⟩)
  · obtain ⟨a, y, rfl, _⟩ := h
    rfl
  · obtain ⟨a, y, rfl, ha, q⟩ := h
    exact ⟨y, rfl, .ref a, rfl, a, C, rfl, X.T, X.no, .inl ⟨ha, fun dx h1 h2 => q dx h1 h2⟩⟩
/-- what a raise wants -/
structure ExcI (P : Program) (w : World) (K : PySem.W.Frag) (mg : Str → Option Value) (base : Heap) (c f : Str) : Prop where
  k : ExK K (He.ga K c) f
  g : mg c = some (.ref (He.ga K c))
  ok : ∃ fd n0 n1, FnOk P w K mg base (L2.CX P w) 1 (He.ma K (He.ga K c) "__init__") fd [n0, n1] (spIni (He.ga K c) f) ∧ Binds K fd [n0, n1] []
end
abbrev dRaiseI (c f : Str) (dA : DTA) : DTS := fun D s G => dA s G (fun xs G1 => match xs with
  | [x] => D.ex ⟨c, some [(f, x)]⟩ s G1
  | _ => False) (fun x G1 => D.ex x s G1)
section
variable {X : Cx} {W : WX} {e : Expr} {c f : Str} {p pos pos' : Pos} {dA : DTA}
theorem ds_raiseI (tk : Takes X W) (I : ExcI X.prog X.w X.K X.mg X.base c f) (hr : Room 2 X.A) (ha : DA X W [e] dA) (hc : X.calm = true := by rfl) (hg : Gl X c := by rfl) (hdb : (c == ("__debug__" : Str)) = false := by decide)
    (h1 : starEach [e] X.env = (false, eval e X.env) :: starEach [] X.env := by rfl) (h2 : (backTo pos (starEach [] X.env)).any (·.1) = false := by rfl) :
    DS X W (.Raise (some (.Call (.Name c p) [e] [] pos)) none pos') (dRaiseI c f dA) := by
  obtain ⟨k, g, fd, n0, n1, F1, hb⟩ := I
  obtain ⟨t, pt, a⟩ := ha
  refine ⟨⟨_, ps_raise hc tk (pmk_oex (dvs := []) k.T k.ini k.fn F1 hr hb .nil (passes_call tk fun _ _ _ _ h => h.elim) hg g pt hdb h1 h2), fun F σ H s G Dd E rs st q re => ?_⟩⟩
  refine a F σ H s G _ _ _ rs st q (fun F1 H1 G1 vs xs e1 rs1 rv q1 => ?_) (re.ex.at_ st)
  split at q1
  · rename_i x
    cases rv with
    | @cons y _ ys _ ry rr =>
      cases rr
      refine ⟨by show 1 ≤ 1000; decide, fun b hb => ⟨b, y, rfl, upd_same, fun dx hdx ne => ⟨rfl, dx, [(f, y)], upd_same, ?_, ?_, ?_⟩⟩⟩
      · rw [upd_ne ne, upd_same]
      · rwa [upd_ne ne] at hdx
      · rw [upd_ne ne] at hdx
        have eH : upd (L2.del (upd (upd (upd H1 b (exo b (He.ga X.K c) none)) dx (exd dx [(f, y)])) b (exo b (He.ga X.K c) (some dx))) b) dx (.xd [(f, y)]) = upd H1 dx (.xd [(f, y)]) := by
          funext z
          by_cases z1 : z = dx
          · rw [z1, upd_same, upd_same]
          · rw [upd_ne z1, upd_ne z1]
            by_cases z2 : z = b
            · rw [z2, L2.del_same, hb]
            · rw [L2.del_ne z2, upd_ne z2, upd_ne z1, upd_ne z2]
        rw [eH]
        obtain ⟨r2, f2⟩ := rs1.newF hdx (.xd [(f, y)])
        exact re.ex _ _ G1 _ _ ⟨c, some [(f, x)]⟩ _ _ (e1.trans f2) r2 ⟨rfl, dx, [(f, y)], rfl, fupd_same, rfl, .cons (ry.mono f2) .nil⟩ (st.mono (e1.trans f2)) q1
  · exact q1.elim
end
end Dl
set_option Elab.async false
set_option linter.all false
set_option maxRecDepth 100000
set_option maxHeartbeats 4000000
/-! except C as e, where e may have a field: isinstance(e, ..), e.f -/
namespace Dl
open PySem PySem.Spec PyProof.Rows L2
set_option autoImplicit false
/-- the exception as a datum -/
def exD (e : Exn) (a dd : Addr) : D := match e.fs with
  | none => .ref a
  | some fs => .exn a dd (fs.map (·.1)) (fs.map (·.2))
def exA (e : Exn) (dd : Addr) : Option Addr := match e.fs with
  | none => none
  | some _ => some dd
structure HeldX (K : PySem.W.Frag) (e : Exn) (cls : Value) (d : Option Addr) (oe : Obj) : Prop where
  cl : cls = .ref (He.ga K e.cls)
  dd : ∃ x, d = exA e x
  z : Zc cls d oe
  f : ∃ vs, oe.data = .fields vs
def tsHeldX (K : PySem.W.Frag) (ds : Exn → Addr → Option Addr → DTS) (a : Addr) (cls : Value) (d : Option Addr) : TS := fun E σ H => ∃ e : Exn, cls = .ref (He.ga K e.cls) ∧ (∃ x, d = exA e x) ∧ tsOf K W0 (ds e a d) E σ H
abbrev dTryAsX (i : Nat) (m : Str → Option Bool) (db : DTS) (ds : Exn → Addr → Option Addr → DTS) : DTS := fun D s G => db { D with ex := fun e s' G' => match m e.cls with
  | some true => ∀ a dd, G' a = none → ds e a (exA e dd) { nx := fun s G => D.nx (s.set i none) G, rt := D.rt, ex := fun _ _ _ => False, bk := fun s G => D.bk (s.set i none) G, ct := fun s G => D.ct (s.set i none) G } (s'.set i (some (exD e a dd))) G'
  | some false => D.ex e s' G'
  | none => False } s G
section
variable {X : Cx} {W : WX} {x : Str} {c : Value} {body suite : List Stmt} {b₀ : Stmt} {np pos pos' : Pos} {m : Str → Option Bool} {db : DTS} {ds : Exn → Addr → Option Addr → DTS}
theorem pss_heldX (hsu : ∀ (a : Addr) (oe : Obj) (e : Exn) (cls : Value) (d : Option Addr) (pn : List (Addr × Obj)), HeldX X.K e cls d oe → DSs (X.suite a ((a, oe) :: pn)) W0 suite (ds e a d)) (a : Addr) (oe : Obj) (cls : Value) (d : Option Addr) (pn : List (Addr × Obj))
    (hz : Zc cls d oe) (hf : ∃ vs, oe.data = .fields vs) : PSs (X.suite a ((a, oe) :: pn)) suite (tsHeldX X.K ds a cls d) := ⟨fun pins s σ H D I ⟨e, e1, e2, q⟩ => (hsu a oe e cls d pn ⟨e1, e2, hz, hf⟩).pss.run pins s σ H D I q⟩
theorem ds_tryAsX (i : Nat) {n : Str} (hs : X.stack = X.env :: X.outer) (hf : X.env.frame = some X.env.locals) (hN : X.N.Nodup) (hi : X.N[i]? = some n) (hln : X.env.kindOf n = some .local) (hc : Names X x c) (tk : Takes X W) (hm : Catch X.K c m)
    (hb : ∀ (W' : WX) (pn : List (Addr × Obj)) (xe : Value → Shared → Prop), Takes (X.tr pn xe) W' → PassesOwn (model X.prog X.w) X.A X.env xe → DSs (X.tr pn xe) W' body db)
    (hsu : ∀ (a : Addr) (oe : Obj) (e : Exn) (cls : Value) (d : Option Addr) (pn : List (Addr × Obj)), HeldX X.K e cls d oe → DSs (X.suite a ((a, oe) :: pn)) W0 (b₀ :: suite) (ds e a d)) :
    DS X W (.Try body [.ExceptHandler (some (.Name x np)) (some n) (b₀ :: suite) pos'] [] [] pos) (dTryAsX i m db ds) := by
  refine ⟨⟨_, ps_try_as (i := i) (tb := fun W' => tsOf X.K W' db) (ts := tsHeldX X.K ds) (Wout := W) hs hf hN hi hln hc tk (fun W' pn xe t po => (hb W' pn xe t po).pss) (pss_heldX hsu), fun F σ H s G Dd E rs st q r => ?_⟩⟩
  refine ⟨F, s, G, _, rs, st, q, r.nx, r.rt, ?_, r.bk, r.ct⟩
  intro F1 H1 G1 cls dd e σ1 s1 h1 rs1 rx st1 q1
  dsimp only at q1
  cases em : m e.cls with
  | none =>
    rw [em] at q1
    exact q1.elim
  | some b =>
    rw [em] at q1
    have ex := hm.ok _ _ em
    rw [← rx.1] at ex
    refine ⟨b, ex, fun hb1 a ha => ?_, fun hb0 => ?_⟩
    · subst hb1
      have r1 := r.mono h1
      have free := (rs1.free ha).2
      -- the datum
      obtain ⟨y, ed, rp⟩ : ∃ y, dd = exA e y ∧ Rep X.K F1 (.ref a) (exD e a y) := by
        obtain ⟨c, fs⟩ := e
        obtain ⟨_, rx2⟩ := rx
        cases fs with
        | none => exact ⟨a, rx2, .ref a⟩
        | some fs =>
          obtain ⟨y, vs, e1, e2, e3, e4⟩ := rx2
          exact ⟨y, e1, .exn e2 e3 e4⟩
      have k := q1 a y free
      rw [← ed] at k
      exact ⟨e, rx.1, ⟨y, ed⟩, F1, _, G1, _, rs1, st1.set i rp, k, ⟨fun F2 H2 G2 σ2 s2 h2 rs2 st2 q2 => r1.nx F2 H2 G2 _ _ h2 rs2 (st2.clear i none) q2, r1.rt, fun _ _ _ _ _ _ _ _ _ _ _ _ z => z,
        fun F2 H2 G2 σ2 s2 h2 rs2 st2 q2 => r1.bk F2 H2 G2 _ _ h2 rs2 (st2.clear i none) q2, fun F2 H2 G2 σ2 s2 h2 rs2 st2 q2 => r1.ct F2 H2 G2 _ _ h2 rs2 (st2.clear i none) q2⟩⟩
    · subst hb0
      exact r.ex F1 H1 G1 cls dd e σ1 s1 h1 rs1 rx st1 q1
end
/-! isinstance(e, c) -/
theorem xd_there {P : Program} {w : World} {H : Hp} {h : Heap} {dd : Addr} {fs : List (Str × V)} (ok : HOk P w H h) (e : H dd = some (.xd fs)) : ∃ od, h.get? dd = some od := by
  have x : ObjOk P w H h dd (.xd fs) := ok dd _ e
  obtain ⟨mA, hns, _⟩ := x
  obtain ⟨o, _, _, e1, _⟩ := hns
  exact ⟨o, e1⟩
/-- the exception that a clause holds, with or without a dict, stands on the heap -/
theorem inst_held {X : Cx} {a C : Addr} {d : Option Addr} {oe : Obj} {pn pins : List (Addr × Obj)} {σ : St} {H : Hp} {s : Shared} (I : Inv (X.suite a ((a, oe) :: pn)) pins σ H s) (hz : Zc (.ref C) d oe) (hf : ∃ vs, oe.data = .fields vs) (hd : ∀ dd, d = some dd → ∃ fs, H dd = some (.xd fs)) :
    ∃ od, PySem.W.InstAt s.heap a oe C od := by
  have here := (I.pin (a, oe) (List.mem_append_left pins List.mem_cons_self)).1
  have nc : PySem.W.notCls oe = true := by
    cases hf with
    | intro vs hv =>
      unfold PySem.W.notCls
      rw [hv] <;> rfl
  have dat : ∃ od : Option Obj, match d, od with
      | none, none => True
      | some dd, some o => s.heap.get? dd = some o
      | _, _ => False := by
    cases d with
    | none => exact ⟨none, trivial⟩
    | some dd =>
      cases hd dd rfl with
      | intro fs ed =>
        cases xd_there I.hok ed with
        | intro o ho => exact ⟨some o, ho⟩
  cases dat with
  | intro od ho =>
    refine ⟨od, here, hz.1, nc, ?_⟩
    rw [hz.2]
    cases d <;> cases od <;> first | exact ho | exact ho.elim
def rIsX (K : PySem.W.Frag) (C a : Addr) (d : Option Addr) : List V → Hp → VK → Prop := fun xs H Q => ∃ (c : V) (cv : Value) (b : Bool), xs = [.ref a, c] ∧ (∀ u, RelV c u → u = cv) ∧ PySem.W.kitOne K (.ref C) cv = some b ∧ (∀ dd, d = some dd → ∃ fs, H dd = some (.xd fs)) ∧ Q (.bl b) H
theorem call_isX {X : Cx} {a C : Addr} {d : Option Addr} {oe : Obj} {pn : List (Addr × Obj)} (T : ExcC X.K C) (hz : Zc (.ref C) d oe) (hf : ∃ vs, oe.data = .fields vs) : CallR (X.suite a ((a, oe) :: pn)) (.builtin "isinstance") (rIsX X.K C a d) := by
  have there : (PySem.W.clsIn X.K C).isSome = true := by
    have z := PySem.W.any_some T.hd
    cases z with
    | intro cd z => rw [z.1] <;> rfl
  intro pins s σ H xs us Q I r ⟨c, cv, b, ex, one, ek, hd, q⟩
  subst ex
  have J := inst_held I hz hf hd
  match us, r with
  | [_, v], .cons rfl (.cons rc .nil) =>
    cases J with
    | intro od J =>
      cases one v rc
      have kit := PySem.W.kitx_exc (x := a) (ox := oe) (od := od) there T.hg T.hk T.hs T.ha T.hn T.ht T.hm
      exact PySem.W.kia_one kit I.kIn J ek (fun z => by cases z) fun tk => ⟨V.bl b, H, I.kept (t' := tk) (fun _ _ h => h), rfl, q⟩
def gIsX (m : Str → D → Option Bool) (e : Exn) (a : Addr) (d : Option Addr) : D → D → Gp → DK → Prop := fun x c G Q => (match x with
  | .ref b => b = a ∧ d = none
  | .exn b dd _ _ => b = a ∧ d = some dd
  | _ => False) ∧ match m e.cls c with
  | some b => Q (.bl b) G
  | none => False
theorem dc_isX {X : Cx} {m : Str → D → Option Bool} {e : Exn} {cls : Value} {d : Option Addr} {a : Addr} {oe : Obj} {pn : List (Addr × Obj)} (hm : KitE X.K m) (h : HeldX X.K e cls d oe) : DCall (X.suite a ((a, oe) :: pn)) (.builtin "isinstance") (g2 (gIsX m e a d)) := by
  obtain ⟨rfl, _, z, f⟩ := h
  by_cases hy : ∃ c b, m e.cls c = some b
  · obtain ⟨c0, b0, e0⟩ := hy
    refine dcall2 (call_isX (pn := pn) (hm.ok _ _ _ e0).1 z f) fun F H G v u x y Qd Q rs rv ru q c => ?_
    obtain ⟨qx, q⟩ := q
    obtain ⟨rfl, hd⟩ : v = .ref a ∧ ∀ dd, d = some dd → ∃ fs, H dd = some (.xd fs) := by
      cases rv with
      | ref b => exact ⟨by rw [qx.1], fun dd e1 => by rw [qx.2] at e1; cases e1⟩
      | exn h1 h2 h3 => exact ⟨by rw [qx.1], fun dd e1 => by rw [qx.2] at e1; cases e1; exact ⟨_, rs.same _ _ (by unfold toH; rw [h1] <;> rfl)⟩⟩
      | _ => exact qx.elim
    split at q
    · rename_i b eb
      obtain ⟨_, cv, h1, h2⟩ := hm.ok _ _ _ eb
      exact ⟨u, cv, b, rfl, h1 F u ru, h2, hd, c F H G _ _ (FSame.refl F) rs (.bl b) q⟩
    · exact q.elim
  · refine ⟨⟨fun _ _ _ => False, fun _ _ _ _ _ _ _ _ _ h => h.elim, fun F H G vs xs Qd Q rs rv q c => ?_⟩⟩
    unfold g2 at q
    split at q
    · obtain ⟨_, q⟩ := q
      split at q
      · rename_i b eb
        exact hy ⟨_, _, eb⟩
      · exact q
    · exact q
/-! e.f -/
def gXf (C f : Str) (e : Exn) (a : Addr) (d : Option Addr) : D → Gp → DK → Prop := fun x G Q => match x with
  | .exn b dd ns ds => b = a ∧ d = some dd ∧ e.cls = C ∧ match (ns.zip ds).lookup f with
    | some v => Q v G
    | none => False
  | _ => False
abbrev dXf (C f : Str) (e : Exn) (a : Addr) (d : Option Addr) (de : DTE) : DTE := fun s G Q E => de s G (fun x G1 => gXf C f e a d x G1 Q) E
theorem repl_look {K : PySem.W.Frag} {F : Fp} {f : Str} {v : D} : ∀ {vs : List (Str × V)} {ds : List D}, RepL K F (vs.map (·.2)) ds → ((vs.map (·.1)).zip ds).lookup f = some v → ∃ y, vs.lookup f = some y ∧ Rep K F y v
  | [], ds, _, h => by simp at h
  | (g, y) :: vs, _, .cons h1 r, h => by
    rw [List.map_cons, List.zip_cons_cons, List.lookup_cons] at h
    rw [List.lookup_cons]
    split at h
    · rename_i e
      cases h
      rw [e]
      exact ⟨y, rfl, h1⟩
    · rename_i e
      rw [e]
      exact repl_look r h
theorem xf_of {K : PySem.W.Frag} {m : Str → D → Option Bool} (h : KitE K m) {y : Str} {c : D} {b : Bool} (e : m y c = some b) : XfC K (He.ga K y) := ⟨(h.ok _ _ _ e).1.hg, (h.ok _ _ _ e).1.hk, (h.ok _ _ _ e).1.hs, (h.ok _ _ _ e).1.hd⟩
theorem de_xf {X : Cx} {W : WX} {C f : Str} {e : Exn} {cls : Value} {d : Option Addr} {a : Addr} {oe : Obj} {pn : List (Addr × Obj)} {ex : Expr} {pos : Pos} {de : DTE} (T : XfC X.K (He.ga X.K C)) (no : PySem.W.findIn X.K (.ref (He.ga X.K C)) f = some none) (h : HeldX X.K e cls d oe)
    (he : DE (X.suite a ((a, oe) :: pn)) W ex de) (hb : attributeBase ex f X.env (eval ex X.env) = eval ex X.env := by rfl) : DE (X.suite a ((a, oe) :: pn)) W (.Attribute ex f pos) (dXf C f e a d de) := by
  obtain ⟨rfl, _, z, hf⟩ := h
  obtain ⟨t, p, ha⟩ := he
  refine ⟨⟨_, pe_xf T no z hf p hb, fun F σ H s G Qd Ed Q rs st q k kx => ha F σ H s G _ Ed _ rs st q (fun F1 H1 G1 v x e1 rs1 rv q1 => ?_) kx⟩⟩
  unfold gXf at q1
  cases rv with
  | exn h1 h2 h3 =>
    obtain ⟨rfl, ed, ec, q2⟩ := q1
    subst ec h2
    split at q2
    · rename_i w ew
      obtain ⟨y, hy, ry⟩ := repl_look h3 ew
      exact ⟨rfl, rfl, _, _, y, ed, rs1.same _ _ (by unfold toH; rw [h1] <;> rfl), hy, k F1 H1 G1 _ _ e1 rs1 ry q2⟩
    · exact q2.elim
  | _ => exact q1.elim
end Dl
set_option Elab.async false
set_option linter.all false
set_option maxRecDepth 100000
set_option maxHeartbeats 4000000
/-! a call of a def within an except suite; the def neither raises nor calls nor loops -/
namespace Dl
open PySem PySem.Spec PyProof.Rows L2
set_option autoImplicit false
/-- room for k calls, whatever is handled -/
structure RoomW (k : Nat) (A : Around) : Prop where
  dp : A.depth + 3 * k + 5 < recursionLimit
  un : A.units + 16 * k + 200 < cLine
theorem RoomW.units {k : Nat} {A : Around} (r : RoomW k A) : A.units + 64 < cLine := Nat.lt_of_le_of_lt (by omega) r.un
/-- the same surroundings with nothing handled -/
def bareA (A : Around) : Around := { A with handled := none }
section
variable {P : Program} {w : World} {K : PySem.W.Frag} {mg : Str → Option Value} {base : Heap}
def cxW (P : Program) (w : World) (K : PySem.W.Frag) (mg : Str → Option Value) (base : Heap) (N : List Str) (qual : Str) (scope : Scope) (f : Addr) (cdv : Value) (A : Around) (outer : List Env) (s : Shared) (H : Hp) (E : XK) : Cx :=
  { cxOf (L2.CX P w) P w K mg base N qual scope f cdv A outer s H E with calm := false }
structure FnW (P : Program) (w : World) (K : PySem.W.Frag) (mg : Str → Option Value) (base : Heap) (k : Nat) (f : Addr) (fd : FuncData) (ps : List Str) (sp : Sp) : Prop where
  len : ∀ vs H Q E, sp vs H Q E → vs.length = ps.length
  go : ∀ (A : Around) (outer : List Env) (s : Shared) (H : Hp) (us : List Value) (vs : List V) (Q : VK) (E : XK), RoomW k A → Env0 P w K mg base A outer s H → BindsTo s fd ⟨us, []⟩ (ps.zip us) → Vals vs us → sp vs H Q E →
    codeAny (model P w) A (.call (.ref f) ⟨us, []⟩) (CR (L2.CX P w) outer P w H s Q E) s
theorem fnW_of {x qual : Str} {params : Arguments} {body : List Stmt} {scope : Scope} {dvs : List V} {kws : List (Str × V)} {f : Addr} {fd : FuncData} {N ps : List Str} {k : Nat} {sp : DSp} {d : DTS}
    (F : FunD K x qual params body scope dvs kws f fd) (S : FnScope N ps scope)
    (hb : ∀ (cdv : Value) (A : Around) (outer : List Env) (s : Shared) (H : Hp) (E : XK), RoomW k (A.deeper (envOfC qual scope s.heap.objs.size f cdv)) → Takes (cxW P w K mg base N qual scope f cdv A outer s H E) (WF E) →
      DSs (cxW P w K mg base N qual scope f cdv A outer s H E) (WF E) body d)
    (hp : ∀ ds G Q E, sp ds G Q E → ds.length = ps.length ∧ d (fEnds Q E) (dstart N.length ds) G) : FnW P w K mg base (k + 1) f fd ps (lift K sp) := by
  have len : ∀ vs H Q E, lift K sp vs H Q E → vs.length = ps.length := fun vs H Q E h => by
    obtain ⟨_, _, _, _, _, _, rl, q, _⟩ := h
    rw [rl.length]
    exact (hp _ _ _ _ q).1
  refine ⟨len, fun A outer s H us vs Q E hr e0 bt rel h => ?_⟩
  have vl := len _ _ _ _ h
  have kept := fun b o e => (e0.bs b o e).1
  have kin : K.In s.heap := e0.mod.kin.keeps kept
  cases F.ex with
  | intro oc F =>
  obtain ⟨od, dV, kV, doc, pm, an, cdv, ct, osl, rfl, lk, hcd, _, _⟩ := F
  have deep : A.depth < recursionLimit := Nat.lt_of_le_of_lt (by omega) hr.dp
  have kinds : ∀ y ∈ ps.zip us, scope.names.lookup y.1 = some .local ∨ (scope.names.lookup y.1 = some .cell ∧ ((cellsFrom (s.heap.objs.size + 1) scope.names []).lookup y.1).isSome = true) := by
    intro y hy
    have m : y.1 ∈ ps := by
      obtain ⟨n, v⟩ := y
      exact (List.of_mem_zip hy).1
    exact (S.par _ m).imp id fun q => ⟨q, PySem.W.cellsFrom_some _ _ _ (.inl q)⟩
  refine codeAny_call_function deep (kin _ _ lk) rfl S.co S.gen rfl (PySem.W.codeRec_of kin hcd) (bt _ _ _ _ (wpAny_newFunctionEnv_cells S.kind kinds fun env he s1 x => ?_))
  subst he
  refine ⟨(e0.mod.nolimit.keeps kept).keeps x.toInCall.keep, codeAny_func ?_⟩
  -- the entry, as if nothing were handled; then what is handled is put back
  have e1 : Env0 P w K mg base (bareA A) outer s H := ⟨e0.frames, e0.mod, e0.bs, e0.bsz, e0.funs, e0.frf, e0.hok, e0.bare⟩
  have J := inv_start (CX := L2.CX P w) (E := E) (f := f) (cd := cdv) S (show (bareA A).handled = none from rfl) e1 vl rel x
  have I : Inv (cxW P w K mg base N qual scope f cdv A outer s H E) [] (L2.start N vs) H s1 := { J with ok := { J.ok with hd := fun z => Bool.noConfusion (show false = true from z) } }
  obtain ⟨Fr, G, ds, Qd, Ed, rs, rl, q, c, cx⟩ := h
  obtain ⟨t, ht, ha⟩ := (hb cdv A outer s H E ⟨by have := hr.dp; show A.depth + 1 + 3 * k + 5 < _; omega, by have := hr.un; show A.units + 3 + 16 * k + 200 < _; omega⟩ (takes_of rfl rfl rfl rfl)).ex
  have run := ht.run [] s1 (L2.start N vs) H { nx := fun _ H' => Q .non H', rt := Q } I (ha Fr _ H (dstart N.length ds) G (fEnds Qd Ed) _ rs (by
    have z := RepSt.start rl (N.length - ds.length)
    unfold L2.start dstart
    rw [rl.length]
    exact z) (hp _ _ _ _ q).2 ⟨fun F' H' G' σ s e rs' _ ⟨G0, s0, q0⟩ => c F' H' G0 .non .non e (rs'.sub s0) .non q0, fun F' H' G' v x e rs' rv ⟨G0, s0, q0⟩ => c F' H' G0 v x e (rs'.sub s0) rv q0,
      fun F' H' G' cls dd x σ s e rs' rx _ ⟨G0, s0, q0⟩ => cx F' H' G0 cls dd x e (rs'.sub s0) rx q0, fun _ _ _ _ _ _ _ _ z => z.elim, fun _ _ _ _ _ _ _ _ z => z.elim⟩)
  refine wpAny_mono run (fun fl s' hs => ?_) fun _ _ hs => hs
  cases fl with
  | ret u =>
    obtain ⟨v, _, H', J, rv, q⟩ := hs
    exact ⟨v, H', J.os, J.bare, J.base, J.hok, rv, q⟩
  | next =>
    obtain ⟨_, H', J, q⟩ := hs
    exact ⟨.non, H', J.os, J.bare, J.base, J.hok, rfl, q⟩
  | brk => exact hs.elim fun _ z => z.elim fun _ z => z.2.elim
  | cont => exact hs.elim fun _ z => z.elim fun _ z => z.2.elim
structure CalleeW (P : Program) (w : World) (K : PySem.W.Frag) (mg : Str → Option Value) (base : Heap) (x : Str) (k : Nat) (ps : List Str) (sp : DSp) : Prop where
  ex : ∃ fd, FnW P w K mg base k (He.ga K x) fd ps (lift K sp) ∧ Binds K fd ps []
  g : mg x = some (.ref (He.ga K x))
  kp : PySem.W.keepIn K (.ref (He.ga K x)) = true
end
section
variable {X : Cx} {W : WX} {e : Expr} {es : List Expr} {dA : DTA} {pos : Pos}
theorem de_callW {x : Str} {k : Nat} {ps : List Str} {sp : DSp} {p : Pos} (c : CalleeW X.prog X.w X.K X.mg X.base x k ps sp) (hr : RoomW k X.A) (tk : Takes X W) (ha : DA X W (e :: es) dA)
    (hg : Gl X x := by rfl) (hdb : (x == ("__debug__" : Str)) = false := by decide) (he : starEach (e :: es) X.env = (false, eval e X.env) :: starEach es X.env := by rfl) (hpl : (backTo pos (starEach es X.env)).any (·.1) = false := by rfl) :
    DE X W (.Call (.Name x p) (e :: es) [] pos) (dCall sp dA) := by
  obtain ⟨⟨fd, F, hb⟩, g, kp⟩ := c
  obtain ⟨t, pt, q⟩ := ha
  refine ⟨⟨tCallSD (lift X.K sp) [] (WE W) t, ⟨fun pins s σ H Q I h => wpAny_Call_Name_kw (ld_glob I hg g (PySem.W.callWith_K (h₀ := X.base) I.ok.mod.kin kp (thn (pt.run pos pins s σ H _ I h) fun us s1 ⟨vs, H1, I1, r, q1⟩ => ⟨I1.kIn, ?_⟩) he hpl) hdb)⟩, ae_call q⟩⟩
  have q1 : lift X.K sp (vs ++ []) H1 Q (WE W σ) := q1
  rw [List.append_nil] at q1
  have l : us.length = ps.length := by rw [← r.length]; exact F.len _ _ _ _ q1
  have b := hb s1 us I1.kIn (by rw [List.append_nil]; exact l)
  rw [List.append_nil] at b
  refine wpAny_call (codeAny_mono (F.go X.A X.stack s1 H1 us vs Q (WE W σ) hr I1.env0 b r q1) fun r s' hq => ?_)
  match r, hq with
  | .error e, hq => exact passAt tk σ pins H1 s1 e s' I1 hq
  | .ok (.ret u), hq => exact I1.after hq
end
end Dl
set_option Elab.async false
set_option linter.all false
set_option maxRecDepth 100000
set_option maxHeartbeats 4000000
/-! a slice of the script -/
namespace Dl
open PySem PySem.Spec PyProof.Rows L2
set_option autoImplicit false
theorem repl_int_of {K : PySem.W.Frag} {F : Fp} : ∀ ns : List Int, RepL K F (ns.map V.int) (ns.map D.int)
  | [] => .nil
  | n :: r => .cons (.int n) (repl_int_of r)
def gSlS (x : D) (lo hi : Option Int) (G : Gp) (Q : DK) : Prop := match x with
  | .scr ns => Q (.lst (cutD (ns.map .int) lo hi)) G
  | _ => False
section
variable {X : Cx} {W : WX} {e : Expr} {de : DTE} {pos : Pos} {lo hi : Option Expr} {dl dh : DTO}
theorem de_sliceS {p2 : Pos} (h : DE X W e de) (hl : DO X W lo dl) (hh : DO X W hi dh) : DE X W (.Subscript e (.Slice lo hi none p2) pos) (dSl gSlS de dl dh) := by
  obtain ⟨t, p, q⟩ := h
  obtain ⟨tl, pl, ql⟩ := hl
  obtain ⟨th, ph, qh⟩ := hh
  refine ⟨⟨_, pe_slice sl_list p pl ph, ae_sl (fun F H G x dx lo hi Qd Q rs rx q c => ?_) q ql qh⟩⟩
  cases rx with
  | scr h1 => exact ⟨_, _, rfl, rs.same.seq h1, c.lst rs ((repl_int_of _).cut lo hi) q⟩
  | _ => exact False.elim q
end
end Dl
set_option Elab.async false
set_option linter.all false
set_option maxRecDepth 100000
set_option maxHeartbeats 4000000
/-! properties of own classes, read; a def under another name -/
namespace Dl
open PySem PySem.Spec PyProof.Rows L2
set_option autoImplicit false
abbrev dProp (c : Str) (sp : DSp) (de : DTE) : DTE := fun s G Q E => de s G (fun x G1 => gIns c x G1 fun _ _ => sp [x] G1 Q X0) E
theorem prop_of {K : PySem.W.Frag} {c f : Str} (h : (Fc.prop c f).ok K = true) : PropOf K (He.ga K c) f (He.ma K (He.ga K c) f) (prA K c f) := by
  have h0 : propB K c f = true := h
  unfold propB at h0
  obtain ⟨h1, h0⟩ := He.ba h0
  obtain ⟨h2, h0⟩ := He.ba h0
  obtain ⟨h3, h0⟩ := He.ba h0
  refine ⟨of_decide_eq_true h1, of_decide_eq_true h2, of_decide_eq_true h3, ?_⟩
  split at h0
  · rename_i g r e
    refine ⟨r, ?_⟩
    unfold prA
    rw [e]
  · cases h0
section
variable (P : Program) (w : World) (K : PySem.W.Frag) (mg : Str → Option Value) (base : Heap)
structure CalleeP (c f : Str) (k : Nat) (ps : List Str) (sp : DSp) : Prop where
  ex : ∃ fd, DFn P w K mg base k (prA K c f) fd ps sp ∧ Binds K fd ps []
  cl : Cls K (He.ga K c)
  pr : PropOf K (He.ga K c) f (He.ma K (He.ga K c) f) (prA K c f)
end
section
variable {X : Cx} {W : WX} {c f x y : Str} {k : Nat} {ps : List Str} {sp : DSp} {p pos : Pos} {e o : Expr} {es : List Expr} {do_ : DTE} {dA : DTA}
theorem de_prop (cc : CalleeP X.prog X.w X.K X.mg X.base c f k ps sp) (hr : Room (k + 1) X.A) (ho : DE X W o do_) (hb : attributeBase o f X.env (eval o X.env) = eval o X.env := by rfl) : DE X W (.Attribute o f pos) (dProp c sp do_) := by
  obtain ⟨⟨fd, F, bi⟩, cl, pr⟩ := cc
  obtain ⟨t, p, a⟩ := ho
  refine ⟨⟨_, pe_prop (E := fun _ _ _ => False) (dvs := []) p cl pr F hr bi .nil (fun _ _ _ _ _ _ _ z => ?_) hb, fun Fr σ H s G Qd Ed Q rs st q q0 kx => a Fr σ H s G _ Ed _ rs st q (fun F1 H1 G1 v z e1 rs1 rv q1 => ?_) kx⟩⟩
  · obtain ⟨_, _, _, _, _, _, _, _, _, _, _, _, z⟩ := z
    exact z.elim
  · obtain ⟨b, fs, dx, vs, rfl, rfl, eg, eh, rf, q2⟩ := gins_at rs1 rv q1
    exact ⟨b, dx, vs, rfl, eh, F1, G1, _, Qd, X0, rs1, .cons rv .nil, q2, q0.mono e1, fun _ _ _ _ _ _ _ _ _ z => z⟩
/-- f(..), where the name f stands for the def y -/
theorem de_callA (al : ∃ u, X.mg x = some u ∧ GloV X.K u (.glo y)) (cc : Callee X.prog X.w X.K X.mg X.base y k ps sp) (hr : Room k X.A) (tk : Takes X W) (ha : DA X W (e :: es) dA)
    (hg : Gl X x := by rfl) (hdb : (x == ("__debug__" : Str)) = false := by decide) (he : starEach (e :: es) X.env = (false, eval e X.env) :: starEach es X.env := by rfl) (hpl : (backTo pos (starEach es X.env)).any (·.1) = false := by rfl) :
    DE X W (.Call (.Name x p) (e :: es) [] pos) (dCall sp dA) := by
  obtain ⟨⟨fd, F, hb⟩, g, kp⟩ := cc
  obtain ⟨t, p, q⟩ := ha
  obtain ⟨u, h1, v, h2, h3⟩ := al
  have r := h3 fun _ => none
  cases r
  have eu : u = .ref (He.ga X.K y) := h2
  rw [eu] at h1
  exact ⟨⟨_, pe_callSD F hr hg h1 kp hb .nil (fun σ => passAt tk σ) p hdb he hpl, ae_call q⟩⟩
end
section
variable (P : Program) (w : World) (K : PySem.W.Frag) (mg : Str → Option Value) (base : Heap)
/-- the same for a suite of an except clause -/
structure CalleeQ (c f : Str) (k : Nat) (ps : List Str) (sp : DSp) : Prop where
  ex : ∃ fd, FnW P w K mg base k (prA K c f) fd ps (lift K sp) ∧ Binds K fd ps []
  cl : Cls K (He.ga K c)
  pr : PropOf K (He.ga K c) f (He.ma K (He.ga K c) f) (prA K c f)
end
section
variable {X : Cx} {W : WX} {c f : Str} {k : Nat} {ps : List Str} {sp : DSp} {pos : Pos} {o : Expr} {do_ : DTE}
theorem de_propW (cc : CalleeQ X.prog X.w X.K X.mg X.base c f k ps sp) (hr : RoomW (k + 1) X.A) (ho : DE X W o do_) (hb : attributeBase o f X.env (eval o X.env) = eval o X.env := by rfl) : DE X W (.Attribute o f pos) (dProp c sp do_) := by
  obtain ⟨⟨fd, F, bi⟩, cl, pr⟩ := cc
  obtain ⟨t, p, a⟩ := ho
  refine ⟨⟨tProp (He.ga X.K c) (lift X.K sp) [] (fun _ _ _ => False) t, ⟨fun pins s σ H Q I h => attr_of hb (thn (p.run pins s σ H _ I h) ?_)⟩, fun Fr σ H s G Qd Ed Q rs st q q0 kx => a Fr σ H s G _ Ed _ rs st q (fun F1 H1 G1 v z e1 rs1 rv q1 => ?_) kx⟩⟩
  · rintro u s1 ⟨y, H1, I1, ry, b, dx, fs, rfl, eb, q⟩
    cases ry
    have T := I1.tok (s1.toks + 1)
    have l := F.len _ _ _ _ q
    have bt := bi { s1 with toks := s1.toks + 1 } [.ref b] T.kIn (by simpa using l)
    rw [List.append_nil] at bt
    have rm : RoomW k X.A.in1 := ⟨by have := hr.dp; show X.A.depth + 3 * k + 5 < _; omega, by have := hr.un; show X.A.units + 1 + 16 * k + 200 < _; omega⟩
    have go := F.go X.A.in1 X.stack _ H1 [.ref b] [.ref b] Q _ rm T.env0.in1 bt (.cons rfl .nil) q
    obtain ⟨_, er⟩ := pr.rec_
    obtain ⟨_, O, _⟩ := ins_get I1.hok eb
    obtain ⟨_, J, _⟩ := O.look
    have known : (PySem.W.clsIn X.K (He.ga X.K c)).isSome = true := by
      have z := PySem.W.any_some cl.hd
      obtain ⟨cd, e, _⟩ := z
      rw [e]
      rfl
    have pg := PySem.W.plainGet_of (cl.get f)
    refine PySem.W.get_bind I1.kIn J pg.1 (PySem.W.findObj_data known pr.at_ pr.get pr.tak) pg.2 (wpAny_call (PySem.W.prop_get (s := { s1 with toks := s1.toks + 1 }) I1.kIn er (codeAny_mono go fun r s' hq => ?_)))
    match r, hq with
    | .error _, hq =>
      obtain ⟨_, _, _, _, _, _, _, _, _, _, _, _, z⟩ := hq
      exact z.elim
    | .ok (.ret u), hq =>
      have z := I1.after hq
      obtain ⟨v, H', I3, rv, q3⟩ := z
      show wpAny _ _ (handedOut u) _ _ _
      rw [PySem.W.handedOut_of (handed_of rv)]
      exact wpAny_pure ⟨v, H', I3, rv, q3⟩
  · obtain ⟨b, fs, dx, vs, rfl, rfl, eg, eh, rf, q2⟩ := gins_at rs1 rv q1
    exact ⟨b, dx, vs, rfl, eh, F1, G1, _, Qd, X0, rs1, .cons rv .nil, q2, q0.mono e1, fun _ _ _ _ _ _ _ _ _ z => z⟩
end
/-! ### what the top has left, with properties -/
structure DefP where
  c : Str
  f : Str
  qual : Str
  params : Arguments
  body : List Stmt
  scope : Scope
def fnAt (K : PySem.W.Frag) (a : Addr) : He.FnW := match K.lookup a with
  | some ⟨_, _, .func fd, _⟩ => some (fd.name, fd.qualname, fd.params, fd.body, fd.scope, fd.globals, fd.closure, fd.builtins)
  | _ => none
def DefP.val (d : DefP) : He.FnW := some (d.f, d.qual, d.params, .stmts d.body, d.scope, mainGlobals, [], builtinsNs)
def DefP.ok (K : PySem.W.Frag) (d : DefP) : Bool := PySem.W.keepIn K (.ref (prA K d.c d.f)) && match K.lookup (prA K d.c d.f) with
  | some ⟨_, _, .func fd, _⟩ => PySem.W.codeIn K fd.code d.qual && (He.dflB K fd.defaults [] && He.kwdB K fd.kwdefaults [])
  | _ => false
theorem DefP.funD {K : PySem.W.Frag} {d : DefP} (e : fnAt K (prA K d.c d.f) = d.val) (h : d.ok K = true) : ∃ fd, FunD K d.f d.qual d.params d.body d.scope [] [] (prA K d.c d.f) fd := by
  obtain ⟨kp, h⟩ := He.ba h
  unfold fnAt DefP.val at e
  split at e
  · rename_i oc od fd sl lk
    rw [lk] at h
    obtain ⟨h1, h⟩ := He.ba h
    obtain ⟨h2, h3⟩ := He.ba h
    cases fd
    simp only [Option.some.injEq, Prod.mk.injEq] at e
    obtain ⟨e1, e2, e3, e4, e5, e6, e7, e8⟩ := e
    subst e1 e2 e3 e4 e5 e6 e7 e8
    exact ⟨_, ⟨oc, od, _, _, _, _, _, _, _, sl, rfl, lk, h1, He.dflB_ok h2, He.kwdB_ok h3⟩, kp⟩
  · cases e
abbrev AlP : Type := AlM × Bool × List He.FnW
def obsP (fa : List Fc) (fn : List He.DefD) (pn : List DefP) (K : PySem.W.Frag) : AlP := (obsM fa fn K, pn.all fun d => d.ok K, pn.map fun d => fnAt K (prA K d.c d.f))
def valP (fn : List He.DefD) (pn : List DefP) : AlP := (valM fn, true, pn.map DefP.val)
def SaysP (fa : List Fc) (fn : List He.DefD) (pn : List DefP) (K : PySem.W.Frag) : Prop := obsP fa fn pn K = valP fn pn
def obsPG (n : Nat) (fa : List Fc) (fn : List He.DefD) (pn : List DefP) (g : Addr → Option Obj) : AlP := obsP fa fn pn (He.frG g (He.asD g n))
def hookP (n : Nat) (fa : List Fc) (fn : List He.DefD) (pn : List DefP) : PySem.W.Hook where
  α := AlP
  obs := fun s => obsPG n fa fn pn s.heap.get?
  val := fun _ => valP fn pn
  says := fun _ h => ∃ K : PySem.W.Frag, K.In h ∧ SaysP fa fn pn K
  of := fun _ _ e => ⟨_, He.frG_in, e⟩
  keeps := fun _ _ _ ⟨K, hK, c⟩ k => ⟨K, PySem.W.Frag.In.keeps hK k, c⟩
theorem obsPG_eq {n : Nat} {fa : List Fc} {fn : List He.DefD} {pn : List DefP} {g : Addr → Option Obj} {s : Shared} (h : ∀ a, g a = s.heap.get? a) : obsPG n fa fn pn g = (hookP n fa fn pn).obs s := by
  have e : g = s.heap.get? := funext h
  rw [e] <;> rfl
section
variable {fa : List Fc} {fn : List He.DefD} {pn : List DefP} {K : PySem.W.Frag}
theorem SaysP.m (c : SaysP fa fn pn K) : SaysM fa fn K := congrArg (fun z : AlP => z.1) c
theorem SaysP.prop (c : SaysP fa fn pn K) (i : Nat) {d : DefP} (h : pn[i]? = some d := by rfl) : ∃ fd, FunD K d.f d.qual d.params d.body d.scope [] [] (prA K d.c d.f) fd := by
  have all : (pn.all fun d => d.ok K) = true := congrArg (fun z : AlP => z.2.1) c
  have e : (pn.map fun d => fnAt K (prA K d.c d.f)) = pn.map DefP.val := congrArg (fun z : AlP => z.2.2) c
  have e2 : (pn.map fun d => fnAt K (prA K d.c d.f))[i]? = (pn.map DefP.val)[i]? := congrArg (fun z : List He.FnW => z[i]?) e
  rw [List.getElem?_map, List.getElem?_map, h] at e2
  exact DefP.funD (Option.some.inj e2) (List.all_eq_true.mp all d (List.mem_of_getElem? h))
end
theorem walk_dlP {l : PySem.W.OpenLaw} {k : Nat} {q : Program} {loose : List Str} {XP : (Str → Option Value) → Heap → Prop} {d : DefRec} {x : Str} {fa : List Fc} {fn : List He.DefD} {pn : List DefP} {nn : Nat}
    (hn : l.most = some 63) (hdf : d.params.defaults = []) (hr : Room k callerA)
    (F : ∀ (w : World) (mg : Str → Option Value) (h : Heap) (K : PySem.W.Frag) (a : Addr), K.In h → h.Ns mainGlobals mg → SaysP fa fn pn K → mg d.name = some (.ref a) →
      ∃ fd : FuncData, (∀ (s : Shared) (u : Value), BindsTo s fd ⟨[u], []⟩ [(x, u)]) ∧ ∀ base : Heap, K.In base → base.Ns mainGlobals mg → DFn l.prog w K mg base k a fd [x] spLaw) :
    PySem.W.WalkO q loose XP (hookP nn fa fn pn).says l.row.toRowW d [] (fun f vs => PySem.call f vs) := by
  refine LamX.walk_ofTsE (l := l) (n := 63) (k := k) (x := x) (CX := fun w => L2.CX l.prog w) hn (by decide) hdf hr (fun w mg a h Y G hmg => ?_) (fun w H s e s' z => ?_)
  · obtain ⟨K, KX, c⟩ := Y
    obtain ⟨fd, hb, hF⟩ := F w mg h K a KX G c hmg
    refine ⟨K, KX, fd, [], lift K spLaw, fun _ z => (nomatch z), fun _ z => (nomatch z), fun _ z => (nomatch z), hb, fun H a ns hl hbits _ hS => ?_, fun base h1 h2 _ => hF base h1 h2⟩
    have eH : toH (fun b => (H b).map FO.ob) = H := by
      funext b
      show (match (H b).map FO.ob with
        | some (FO.ob o) => some o
        | _ => none) = H b
      cases H b <;> rfl
    refine ⟨fun b => (H b).map FO.ob, fun _ => none, [.scr ns], fun d _ => d = .bl true, fun _ _ => False, ⟨fun b o e => ?_, fun b e => ?_, fun b g e => nomatch e⟩, .cons (.scr (by rw [eH]; exact hS)) .nil, ⟨ns, rfl, hl, hbits, fun _ => rfl⟩, fun F' H' G' v x _ _ rv e => ?_, fun _ _ _ _ _ _ _ _ _ z => z⟩
    · cases e1 : H b with
      | none =>
        rw [e1] at e
        cases e
      | some u =>
        rw [e1] at e
        cases e
        rfl
    · cases e1 : H b with
      | none =>
        rw [e1] at e
        cases e
      | some u =>
        rw [e1] at e
        cases e
    · subst e
      cases rv
      rfl
  · obtain ⟨_, _, _, _, _, _, _, _, _, _, _, _, z⟩ := z
    exact z
end Dl
set_option Elab.async false
set_option linter.all false
set_option maxRecDepth 100000
set_option maxHeartbeats 4000000
/-! len(o) by an own __len__ -/
namespace Dl
open PySem PySem.Spec PyProof.Rows L2
set_option autoImplicit false
def gLenO (c : Str) (sp : DSp) : D → Gp → DK → Prop := fun x G Q => gIns c x G fun _ _ => sp [x] G (fun y G2 => match y with
  | .int n => (0 ≤ n ∧ n < 9223372036854775808) ∧ Q (.int n) G2
  | _ => False) X0
section
variable {X : Cx} {c : Str} {k : Nat} {ps : List Str} {sp : DSp}
theorem dc_lenO (cc : CalleeM X.prog X.w X.K X.mg X.base c "__len__" k ps sp) (hr : Room (k + 1) X.A) : DCall X (.builtin "len") (g1 (gLenO c sp)) := by
  obtain ⟨⟨fd, F, hb⟩, cl, me⟩ := cc
  refine dcall1 (r := fun vs H Q => ∃ b dx fs, vs = [.ref b] ∧ H b = some (.ins (He.ga X.K c) dx fs) ∧ lift X.K sp [.ref b] H (fun v H2 => ∃ n, v = .int n ∧ (0 ≤ n ∧ n < 9223372036854775808) ∧ Q (.int n) H2) (fun _ _ _ => False)) ?_ ?_
  · intro pins s σ H xs us Q I r h
    obtain ⟨b, dx, fs, rfl, eb, q⟩ := h
    obtain ⟨u, rfl, ru⟩ := vals1 r
    cases ru
    refine Calls.call_function_entry kind_len plain_len entry_len (args_len1 _) ?_
    unfold Builtin.«len»
    refine wpAny_bind (m := oneArg "len" _) (wpAny_pure ?_)
    obtain ⟨_, O, _⟩ := ins_get I.hok eb
    obtain ⟨_, J, _⟩ := O.look
    refine wpAny_bind (m := callSpecial? (.ref b) (Str.ofString "__len__")) (PySem.W.special_fn (args := []) I.kIn J me.at_ (beq_iff_eq.mp me.fn) ?_)
    have l := F.len _ _ _ _ q
    have bt := hb s [.ref b] I.kIn (by simpa using l)
    rw [List.append_nil] at bt
    have rm : Room k X.A.in1 := ⟨hr.hd, by have := hr.dp; show X.A.depth + 3 * k + 5 < _; omega, by have := hr.un; show X.A.units + 1 + 16 * k + 200 < _; omega⟩
    refine wpAny_call (codeAny_mono (F.run X.A.in1 X.stack s H ⟨[.ref b], []⟩ [.ref b] [.ref b] _ _ rm I.env0.in1 bt (.cons rfl .nil) q) fun r s' hq => ?_)
    match r, hq with
    | .error _, hq =>
      obtain ⟨_, _, _, _, _, _, _, _, _, _, _, _, z⟩ := hq
      exact z.elim
    | .ok (.ret u), hq =>
      obtain ⟨v, H', I3, rv, n, rfl, hn, q3⟩ := I.after hq
      obtain ⟨t, rfl⟩ := rv
      refine wpAny_bind (wpAny_holding (wpAny_pure ?_))
      refine wpAny_bind (wpAny_letGo ?_)
      show wpAny _ _ (if n < 0 then _ else _) _ _ _
      rw [if_neg (by omega)]
      show wpAny _ _ (if n ≥ 2 ^ 63 then _ else _) _ _ _
      rw [if_neg (by omega)]
      exact wpAny_bind (wpAny_mkInt (wpAny_pure ⟨_, rfl, .int n, H', I3.tok _, ⟨_, rfl⟩, q3⟩))
  · intro F0 H G v x Qd Q rs rv q c0
    obtain ⟨b, fs, dx, vs, rfl, rfl, eg, eh, rf, q2⟩ := gins_at rs rv q
    refine ⟨b, dx, vs, rfl, eh, F0, G, _, _, X0, rs, .cons rv .nil, q2, fun F1 H1 G1 v1 y e1 rs1 rv1 q1 => ?_, fun _ _ _ _ _ _ _ _ _ z => z⟩
    dsimp only at q1
    split at q1
    · cases rv1
      exact ⟨_, rfl, q1.1, c0 F1 H1 G1 _ _ e1 rs1 (.int _) q1.2⟩
    · exact q1.elim
end
end Dl
set_option Elab.async false
set_option linter.all false
set_option maxRecDepth 100000
set_option maxHeartbeats 4000000
/-! texts: slices, a sign in a text, a text among texts, methods, int(text), str(int), text * int -/
namespace Dl
open PySem PySem.Spec PyProof.Rows L2
set_option autoImplicit false
theorem repl_str {K : PySem.W.Frag} {F : Fp} : ∀ {vs : List V} {zs : List Str}, RepL K F vs (zs.map D.str) → vs = zs.map V.str
  | _, [], r => by
    cases r
    rfl
  | _, z :: zs, r => by
    cases r with
    | cons h r =>
      cases h
      rw [repl_str r]
      rfl
theorem repl_str_of {K : PySem.W.Frag} {F : Fp} : ∀ zs : List Str, RepL K F (zs.map V.str) (zs.map D.str)
  | [] => .nil
  | z :: r => .cons (.str z) (repl_str_of r)
def gSlX (x : D) (lo hi : Option Int) (G : Gp) (Q : DK) : Prop := match x with
  | .str z => z.length ≤ sizeLine ∧ Q (.str (cutS z lo hi)) G
  | _ => False
section
variable {X : Cx} {W : WX} {e : Expr} {de : DTE} {pos : Pos} {lo hi : Option Expr} {dl dh : DTO}
theorem de_sliceX {p2 : Pos} (h : DE X W e de) (hl : DO X W lo dl) (hh : DO X W hi dh) : DE X W (.Subscript e (.Slice lo hi none p2) pos) (dSl gSlX de dl dh) := by
  obtain ⟨t, p, q⟩ := h
  obtain ⟨tl, pl, ql⟩ := hl
  obtain ⟨th, ph, qh⟩ := hh
  refine ⟨⟨_, pe_slice sl_str p pl ph, ae_sl (fun F H G x dx lo hi Qd Q rs rx q c => ?_) q ql qh⟩⟩
  cases rx with
  | str z => exact ⟨_, rfl, q.1, c F H G _ _ (FSame.refl F) rs (.str _) q.2⟩
  | _ => exact False.elim q
/-- one sign in a text -/
def gInS (neg : Bool) : G2 := fun x y G Q => match x, y with
  | .str i, .str z => ∃ c : Nat, i = ⟨#[c]⟩ ∧ Q (.bl (if neg = true then !decide (c ∈ z.cps.toList) else decide (c ∈ z.cps.toList))) G
  | _, _ => False
theorem do_inS : DOp X (compareOp .In) (gInS false) := ⟨⟨_, op_in_sign, fun F H G x y dx dy Qd Q rs rx ry q c => by
  unfold gInS at q
  split at q
  · obtain ⟨k, rfl, q⟩ := q
    cases rx
    cases ry
    exact ⟨k, _, rfl, rfl, c F H G _ _ (FSame.refl F) rs (.bl _) q⟩
  · exact q.elim⟩⟩
theorem do_notInS : DOp X (compareOp .NotIn) (gInS true) := ⟨⟨_, op_notIn_sign, fun F H G x y dx dy Qd Q rs rx ry q c => by
  unfold gInS at q
  split at q
  · obtain ⟨k, rfl, q⟩ := q
    cases rx
    cases ry
    exact ⟨k, _, rfl, rfl, c F H G _ _ (FSame.refl F) rs (.bl _) q⟩
  · exact q.elim⟩⟩
/-- a text among texts -/
def gInU (neg : Bool) : G2 := fun x y G Q => match x with
  | .str i => ∃ zs : List Str, (y = .tup (zs.map .str) ∨ lv y G = some (zs.map .str)) ∧ Q (.bl (if neg = true then !decide (i ∈ zs) else decide (i ∈ zs))) G
  | _ => False
theorem inV_str (i : Str) : ∀ zs : List Str, inV (.str i) (zs.map V.str) = decide (i ∈ zs)
  | [] => rfl
  | n :: ns => by
    have ih := inV_str i ns
    unfold inV at ih ⊢
    rw [List.map_cons, List.any_cons, ih]
    by_cases h : n = i
    · subst h
      rw [show eqV (.str n) (.str n) = true from by unfold eqV; simp, Bool.true_or]
      exact (decide_eq_true List.mem_cons_self).symm
    · rw [show eqV (.str n) (.str i) = false from by unfold eqV; simpa using h, Bool.false_or]
      exact decide_eq_decide.mpr ⟨fun m => List.mem_cons_of_mem _ m, fun m => (List.mem_cons.mp m).resolve_left (fun z => h z.symm)⟩
theorem flat_strs : ∀ zs : List Str, (zs.map V.str).all flatV = true
  | [] => rfl
  | n :: ns => by rw [List.map_cons, List.all_cons, flat_strs ns]; rfl
theorem in_txts {neg : Bool} {K : PySem.W.Frag} {F : Fp} {H : Hp} {G : Gp} {x y : V} {dx dy : D} {Qd : DK} {Q : VK} (rs : RS K F H G) (rx : Rep K F x dx) (ry : Rep K F y dy) (q : gInU neg dx dy G Qd) (c : Cont K F Qd Q) : rIn K neg x y H Q := by
  unfold gInU at q
  split at q
  · obtain ⟨zs, h, q⟩ := q
    cases rx
    have fin : ∀ {p : Addr} {us : List V}, y = .ref p → (SqL K H p us ∨ SqT K H p us) → RepL K F us (zs.map D.str) → rIn K neg (.str _) y H Q := fun {p us} ey hs r => by
      subst ey
      rw [repl_str r] at hs
      refine ⟨_, _, rfl, hs, rfl, flat_strs zs, ?_⟩
      rw [inV_str]
      exact c F H G _ _ (FSame.refl F) rs (.bl _) q
    rcases h with rfl | h
    · cases ry with
      | tup h r => exact fin rfl (.inr (same_t rs.same h)) r
    · obtain ⟨p, us, rfl, h1, r1⟩ := lv_at rs ry h
      exact fin rfl (.inl (.inl (.inl h1))) r1
  · exact q.elim
theorem do_inU : DOp X (compareOp .In) (gInU false) := ⟨⟨_, op_in_seq, fun F H G x y dx dy Qd Q rs rx ry q c => in_txts rs rx ry q c⟩⟩
theorem do_notInU : DOp X (compareOp .NotIn) (gInU true) := ⟨⟨_, op_notIn_seq, fun F H G x y dx dy Qd Q rs rx ry q c => in_txts rs rx ry q c⟩⟩
/-- int(text), str(int) -/
def gIntS : D → Gp → DK → Prop := fun x G Q => match x with
  | .str a => ∃ n, PySem.intText? a = some n ∧ a.length ≤ 640 ∧ Q (.int n) G
  | _ => False
theorem dc_intS : DCall X (.type "int") (g1 gIntS) := dcall1 call_int_str fun F H G v x Qd Q rs rv q c => by
  cases rv with
  | str a =>
    obtain ⟨n, h1, h2, q⟩ := q
    exact ⟨a, n, rfl, h1, h2, c F H G _ _ (FSame.refl F) rs (.int _) q⟩
  | _ => exact False.elim q
def gStrI : D → Gp → DK → Prop := fun x G Q => match x with
  | .int i => i.natAbs.log2 < 1920 ∧ Q (.str (toString i)) G
  | _ => False
theorem dc_strI : DCall X (.type "str") (g1 gStrI) := dcall1 call_str_int fun F H G v x Qd Q rs rv q c => by
  cases rv with
  | int i => exact ⟨i, rfl, q.1, c F H G _ _ (FSame.refl F) rs (.str _) q.2⟩
  | _ => exact False.elim q
/-- text * int -/
def gMulX : G2 := fun x y G Q => match x, y with
  | .str a, .int k => (0 ≤ k ∧ k ≤ 1000) ∧ a.length ≤ 1000 ∧ Q (.str (Txt.mul a k)) G
  | _, _ => False
theorem do_mulX : DOp X (binaryOp .Mult) gMulX := ⟨⟨fun x y H Q => ∃ (a : Str) (k : Int), x = .str a ∧ y = .int k ∧ MulOk a k ∧ Q (.str (Txt.mul a k)) H, fun pins s σ H x y v u Q I rx ry h => by
  obtain ⟨a, k, rfl, rfl, ok, q⟩ := h
  obtain ⟨t, rfl⟩ := rx
  obtain ⟨t', rfl⟩ := ry
  exact PySem.SB.mul ok fun _ _ => ⟨.str _, H, I.tok _, ⟨_, rfl⟩, q⟩, fun F H G x y dx dy Qd Q rs rx ry q c => by
  unfold gMulX at q
  split at q
  · cases rx
    cases ry
    exact ⟨_, _, rfl, rfl, mulOk_of 1000 1000 q.2.1 (by have := q.1.2; omega) (by have := q.1.1; omega) (by decide) (by decide), c F H G _ _ (FSame.refl F) rs (.str _) q.2.2⟩
  · exact q.elim⟩⟩
/-- methods of a text -/
def isS (x : D) : Prop := ∃ z, x = .str z
abbrev dSM (g : GM) (do_ de : DTE) : DTE := fun s G Q E => do_ s G (fun x G1 => isS x ∧ de s G1 (fun y G2 => g x [y] G2 Q) E) E
abbrev dSM0 (g : GM) (do_ : DTE) : DTE := fun s G Q E => do_ s G (fun x G1 => isS x ∧ g x [] G1 Q) E
variable {o : Expr} {do_ : DTE} {name : Str} {apos cpos : Pos} {id : String} {g : GM}
theorem isS_at {K : PySem.W.Frag} {F : Fp} {v : V} {x : D} (r : Rep K F v x) (h : isS x) : ∃ a, v = .str a := by
  obtain ⟨z, rfl⟩ := h
  cases r
  exact ⟨_, rfl⟩
theorem de_sm (slot : Slot "str" name id) (hty : typeOf (.builtin id) = pure (.type "method_descriptor")) (hm : DM X id g) (ho : DE X W o do_) (he : DE X W e de)
    (hs : starEach [e] X.env = [(false, eval e X.env)] := by rfl) (hbase : attributeBase o name X.env (eval o X.env) = eval o X.env := by rfl) (hline : (apos.endLine == cpos.line) = true := by rfl) :
    DE X W (.Call (.Attribute o name apos) [e] [] cpos) (dSM g do_ de) := by
  obtain ⟨r, h1, h2⟩ := hm
  obtain ⟨t, p, q⟩ := ho
  obtain ⟨u, p2, q2⟩ := he
  refine ⟨⟨_, pe_m1 slot hty h1 p p2 hs hbase hline, fun F σ H s G Qd Ed Q rs st hq c cx => q F σ H s G _ Ed _ rs st hq (fun F1 H1 G1 v x e1 rs1 rv q1 => ⟨isS_at rv q1.1, ?_⟩) cx⟩⟩
  exact q2 F1 σ H1 s G1 _ Ed _ rs1 (st.mono e1) q1.2 (fun F2 H2 G2 w y e2 rs2 rw q3 => h2 F2 H2 G2 v [w] x [y] Qd Q rs2 (rv.mono e2) (.cons rw .nil) q3 (c.mono (e1.trans e2))) (cx.mono e1)
theorem de_sm0 (slot : Slot "str" name id) (hty : typeOf (.builtin id) = pure (.type "method_descriptor")) (hm : DM X id g) (ho : DE X W o do_)
    (hbase : attributeBase o name X.env (eval o X.env) = eval o X.env := by rfl) (hline : (apos.endLine == cpos.line) = true := by rfl) : DE X W (.Call (.Attribute o name apos) [] [] cpos) (dSM0 g do_) := by
  obtain ⟨r, h1, h2⟩ := hm
  obtain ⟨t, p, q⟩ := ho
  exact ⟨⟨_, pe_m0 slot hty h1 p hbase hline, fun F σ H s G Qd Ed Q rs st hq c cx => q F σ H s G _ Ed _ rs st hq (fun F1 H1 G1 v x e1 rs1 rv q1 => ⟨isS_at rv q1.1, h2 F1 H1 G1 v [] x [] Qd Q rs1 rv .nil q1.2 (c.mono e1)⟩) cx⟩⟩
def smPartition : GM := fun x xs G Q => match x, xs with
  | .str a, [.str b] => (b.length == 0) = false ∧ a.length ≤ sizeLine ∧ Q (.tup [.str (Txt.partition a b).1, .str (Txt.partition a b).2.1, .str (Txt.partition a b).2.2]) G
  | _, _ => False
theorem sm_partition : DM X "str.partition" smPartition := ⟨⟨_, mt_partition, fun F H G v vs x xs Qd Q rs rv rvs q c => by
  unfold smPartition at q
  split at q
  · cases rv
    obtain ⟨u, rfl, ru⟩ := repl1 rvs
    cases ru
    exact ⟨_, _, rfl, rfl, q.1, q.2.1, c.tup rs (.cons (.str _) (.cons (.str _) (.cons (.str _) .nil))) q.2.2⟩
  · exact q.elim⟩⟩
def smSplit : GM := fun x xs G Q => match x, xs with
  | .str a, [.str b] => (b.length == 0) = false ∧ a.length + 2 ≤ sizeLine ∧ Q (.lst ((Txt.split a b).map .str)) G
  | _, _ => False
theorem sm_split : DM X "str.split" smSplit := ⟨⟨_, mt_split, fun F H G v vs x xs Qd Q rs rv rvs q c => by
  unfold smSplit at q
  split at q
  · cases rv
    obtain ⟨u, rfl, ru⟩ := repl1 rvs
    cases ru
    exact ⟨_, _, rfl, rfl, q.1, q.2.1, c.lst rs (repl_str_of _) q.2.2⟩
  · exact q.elim⟩⟩
def smJoin : GM := fun x xs G Q => match x, xs with
  | .str a, [y] => ∃ zs : List Str, (y = .tup (zs.map .str) ∨ lv y G = some (zs.map .str)) ∧ (zs.map (·.length)).sum + zs.length * a.length ≤ 16777216 ∧ Q (.str (Txt.join a zs)) G
  | _, _ => False
theorem sm_join : DM X "str.join" smJoin := ⟨⟨_, mt_join, fun F H G v vs x xs Qd Q rs rv rvs q c => by
  unfold smJoin at q
  split at q
  · cases rv
    obtain ⟨u, rfl, ru⟩ := repl1 rvs
    obtain ⟨zs, h, hz, q⟩ := q
    rcases h with rfl | h
    · cases ru with
      | tup h r =>
        rw [repl_str r] at h
        exact ⟨_, _, zs, rfl, rfl, .inr (same_t rs.same h), hz, c F H G _ _ (FSame.refl F) rs (.str _) q⟩
    · obtain ⟨p, us, rfl, h1, r1⟩ := lv_at rs ru h
      rw [repl_str r1] at h1
      exact ⟨_, p, zs, rfl, rfl, .inl (.inl (.inl h1)), hz, c F H G _ _ (FSame.refl F) rs (.str _) q⟩
  · exact q.elim⟩⟩
def smB (f : Str → Bool) : GM := fun x xs G Q => match x, xs with
  | .str a, [] => Q (.bl (f a)) G
  | _, _ => False
theorem sm_b {f : Str → Bool} (h : MtR X id (fun x xs H Q => ∃ a, x = .str a ∧ xs = [] ∧ True ∧ Q (.bl (f a)) H)) : DM X id (smB f) := ⟨⟨_, h, fun F H G v vs x xs Qd Q rs rv rvs q c => by
  unfold smB at q
  split at q
  · cases rv
    cases rvs
    exact ⟨_, rfl, rfl, trivial, c F H G _ _ (FSame.refl F) rs (.bl _) q⟩
  · exact q.elim⟩⟩
theorem sm_isdigit : DM X "str.isdigit" (smB Txt.isdigit) := sm_b mt_isdigit
theorem sm_isalpha : DM X "str.isalpha" (smB Txt.isalpha) := sm_b mt_isalpha
theorem sm_isalnum : DM X "str.isalnum" (smB Txt.isalnum) := sm_b mt_isalnum
end
end Dl
set_option Elab.async false
set_option linter.all false
set_option maxRecDepth 100000
set_option maxHeartbeats 4000000
/-! x in o by an own __contains__ -/
namespace Dl
open PySem PySem.Spec PyProof.Rows L2
set_option autoImplicit false
theorem contains_own {M : Model} {A : Around} {E : Value → Shared → Prop} {s : Shared} {K : PySem.W.Frag} {x C f : Addr} {ox : Obj} {od : Option Obj} {u : Value} {Q : Bool → Shared → Prop} (X : K.In s.heap) (I : PySem.W.InstAt s.heap x ox C od)
    (hs : PySem.W.findIn K (.ref C) "__contains__" = some (some (.ref f))) (hf : PySem.W.typeIn K (.ref f) = some (.type "function")) (h : wpAny M A (call (.ref f) [.ref x, u]) (fun v s' => wpAny M A (truthy v) Q E s') E s) : wpAny M A (contains (.ref x) u) Q E s := by
  have look : ∀ {α : Type} {K2 : Option Value → Sem α} {R : α → Shared → Prop}, wpAny M A (K2 (some (.ref f))) R E s → wpAny M A (specialOf (.ref x) "__contains__" >>= K2) R E s := fun h => wpAny_bind (wpAny_bind (I.type.here ((PySem.W.looks_findIn X hs).here h)))
  unfold contains
  refine wpAny_holding ?_
  refine look ?_
  show wpAny M A (callSpecialUnlessNone? (.ref x) "__contains__" [u] _ >>= _) Q E s
  refine wpAny_bind ?_
  unfold callSpecialUnlessNone?
  refine look (wpAny_holding (wpAny_bind ((PySem.W.bind_fn X _ hf).here ?_)))
  show wpAny M A (call (.ref f) [.ref x, u] >>= fun v => pure (some v)) _ E s
  exact wpAny_bind (wpAny_mono h (fun v s' z => wpAny_pure z) fun _ _ z => z)
def gInO (neg : Bool) (c : Str) (sp : DSp) : G2 := fun x y G Q => gIns c y G fun _ _ => sp [y, x] G (fun v G2 => match v with
  | .bl b => Q (.bl (if neg = true then !b else b)) G2
  | _ => False) X0
section
variable {X : Cx} {c : Str} {k : Nat} {ps : List Str} {sp : DSp}
theorem in_own {neg : Bool} {op : CmpOp} (cc : CalleeM X.prog X.w X.K X.mg X.base c "__contains__" k ps sp) (hr : Room (k + 1) X.A)
    (ho : ∀ a b, compareOp op a b = (contains b a >>= fun r => pure (Value.bool (if neg = true then !r else r)))) : DOp X (compareOp op) (gInO neg c sp) := by
  obtain ⟨⟨fd, F, hb⟩, cl, me⟩ := cc
  refine ⟨⟨fun x y H Q => ∃ b dx fs, y = .ref b ∧ H b = some (.ins (He.ga X.K c) dx fs) ∧ lift X.K sp [.ref b, x] H (fun v H2 => ∃ t, v = .bl t ∧ Q (.bl (if neg = true then !t else t)) H2) (fun _ _ _ => False), ?_, ?_⟩⟩
  · intro pins s σ H x y v u Q I rx ry h
    obtain ⟨b, dx, fs, rfl, eb, q⟩ := h
    cases ry
    rw [ho]
    refine wpAny_bind ?_
    obtain ⟨_, O, _⟩ := ins_get I.hok eb
    obtain ⟨_, J, _⟩ := O.look
    refine contains_own I.kIn J me.at_ (beq_iff_eq.mp me.fn) ?_
    have l := F.len _ _ _ _ q
    have bt := hb s [.ref b, v] I.kIn (by simpa using l)
    rw [List.append_nil] at bt
    have rm : Room k X.A := hr.mono (Nat.le_succ k)
    refine wpAny_call (codeAny_mono (F.run X.A X.stack s H ⟨[.ref b, v], []⟩ [.ref b, v] [.ref b, x] _ _ rm I.env0 bt (.cons rfl (.cons rx .nil)) q) fun r s' hq => ?_)
    match r, hq with
    | .error _, hq =>
      obtain ⟨_, _, _, _, _, _, _, _, _, _, _, _, z⟩ := hq
      exact z.elim
    | .ok (.ret w), hq =>
      obtain ⟨y, H', I3, rv, t, rfl, q3⟩ := I.after hq
      cases rv
      show wpAny _ _ (truthy (.bool t)) _ _ _
      exact wpAny_pure (wpAny_pure ⟨.bl _, H', I3, rfl, q3⟩)
  · intro F0 H G x y dx dy Qd Q rs rx ry q c0
    obtain ⟨b, fs, dz, vs, rfl, rfl, eg, eh, rf, q2⟩ := gins_at rs ry q
    refine ⟨b, dz, vs, rfl, eh, F0, G, _, _, X0, rs, .cons ry (.cons rx .nil), q2, fun F1 H1 G1 v1 y e1 rs1 rv1 q1 => ?_, fun _ _ _ _ _ _ _ _ _ z => z⟩
    dsimp only at q1
    split at q1
    · cases rv1
      exact ⟨_, rfl, c0 F1 H1 G1 _ _ e1 rs1 (.bl _) q1⟩
    · exact q1.elim
theorem do_inO (cc : CalleeM X.prog X.w X.K X.mg X.base c "__contains__" k ps sp) (hr : Room (k + 1) X.A) : DOp X (compareOp .In) (gInO false c sp) := in_own cc hr fun _ _ => rfl
theorem do_notInO (cc : CalleeM X.prog X.w X.K X.mg X.base c "__contains__" k ps sp) (hr : Room (k + 1) X.A) : DOp X (compareOp .NotIn) (gInO true c sp) := in_own cc hr fun _ _ => rfl
end
end Dl
set_option Elab.async false
set_option linter.all false
set_option maxRecDepth 100000
set_option maxHeartbeats 4000000
/-! any, all of a list of truth values -/
namespace Dl
open PySem PySem.Spec PyProof.Rows L2
set_option autoImplicit false
theorem repl_bl {K : PySem.W.Frag} {F : Fp} : ∀ {vs : List V} {bs : List Bool}, RepL K F vs (bs.map D.bl) → vs = bs.map V.bl
  | _, [], r => by
    cases r
    rfl
  | _, b :: bs, r => by
    cases r with
    | cons h r =>
      cases h
      rw [repl_bl r]
      rfl
def gAny (all : Bool) : D → Gp → DK → Prop := fun x G Q => ∃ bs : List Bool, lv x G = some (bs.map .bl) ∧ Q (.bl (if all = true then bs.all id else bs.any id)) G
section
variable {X : Cx}
theorem dc_any (hc : X.calm = true) : DCall X (.builtin "any") (g1 (gAny false)) := dcall1 (cr_any hc) fun F H G v x Qd Q rs rv q c => by
  obtain ⟨bs, h, q⟩ := q
  obtain ⟨a, us, rfl, h1, r1⟩ := lv_at rs rv h
  rw [repl_bl r1] at h1
  exact ⟨a, bs, rfl, .inl (.inl h1), c F H G _ _ (FSame.refl F) rs (.bl _) q⟩
theorem dc_all (hc : X.calm = true) : DCall X (.builtin "all") (g1 (gAny true)) := dcall1 (cr_all hc) fun F H G v x Qd Q rs rv q c => by
  obtain ⟨bs, h, q⟩ := q
  obtain ⟨a, us, rfl, h1, r1⟩ := lv_at rs rv h
  rw [repl_bl r1] at h1
  exact ⟨a, bs, rfl, .inl (.inl h1), c F H G _ _ (FSame.refl F) rs (.bl _) q⟩
end
end Dl
set_option Elab.async false
set_option linter.all false
set_option maxRecDepth 100000
set_option maxHeartbeats 4000000
/-! what is walked is an instance whose own __iter__ is «return iter(self.f)», f a tuple -/
namespace Dl
open PySem PySem.Spec PyProof.Rows L2
set_option autoImplicit false
/-- a tuple's iterator -/
def TitO (t it : Addr) (i : Nat) : HO := .ext fun h => h.IsTupleIter it t i
theorem titO_ok {P : Program} {w : World} {H : Hp} {h : Heap} {t it : Addr} {i : Nat} (e : h.IsTupleIter it t i) : ObjOk P w H h it (TitO t it i) :=
  ⟨e, let ⟨o, ho, _⟩ := e; ⟨o, ho⟩, fun _ _ q k => Heap.IsTupleIter.at q fun o => k o⟩
def rIterT (K : PySem.W.Frag) (n : Nat) : List V → Hp → VK → Prop := fun xs H Q => ∃ (l : Addr) (zs : List V), xs = [.ref l] ∧ SqT K H l zs ∧ ∀ it, H it = none → n ≤ it → Q (.ref it) (upd H it (TitO l it 0))
section
variable {X : Cx}
theorem call_iterT : CallR X (.builtin "iter") (rIterT X.K X.s_0.heap.objs.size) := by
  intro pins s σ H xs us Q I r h
  obtain ⟨l, zs, rfl, hq, q⟩ := h
  obtain ⟨u, rfl, ru⟩ := vals1 r
  cases ru
  obtain ⟨its, rv, pl, hz⟩ := I.tuple hq
  refine Calls.call_function_entry (by decide +kernel) (by decide +kernel) PySem.W.kdk_entry_iter (PySem.W.kdk_args_iter _) ?_
  unfold Builtin.«iter»
  refine wpAny_bind (m := someArgs "iter" 1 2 _) (wpAny_of_eq (a := [Value.ref l]) (by first | rfl | kernel_rfl!) ?_)
  show wpAny _ _ (pyIter (.ref l) >>= _) _ _ _
  refine wpAny_bind (wpAny_pyIter_tuple (show s.heap.IsTuple l its.toArray from pl) (wpAny_pure ⟨_, rfl, ?_⟩))
  exact ⟨.ref s.heap.objs.size, _, I.laid (t' := s.toks) (fun b u e => Heap.get?_push_of_some _ e) (Nat.le_refl _) (titO_ok ⟨_, Heap.get?_push_size _ rfl, rfl, rfl⟩), rfl, q _ (I.hok.fresh (Nat.le_refl _)) I.sz⟩
end
section
variable {P : Program} {w : World} {K : PySem.W.Frag} {mg : Str → Option Value} {base : Heap}
/-- a def whose promise speaks of the heap's size at its entry -/
structure FnN (P : Program) (w : World) (K : PySem.W.Frag) (mg : Str → Option Value) (base : Heap) (k : Nat) (f : Addr) (fd : FuncData) (ps : List Str) (sp : Nat → Sp) : Prop where
  go : ∀ (A : Around) (outer : List Env) (s : Shared) (H : Hp) (us : List Value) (vs : List V) (Q : VK) (E : XK), Room k A → Env0 P w K mg base A outer s H → BindsTo s fd ⟨us, []⟩ (ps.zip us) → Vals vs us → sp s.heap.objs.size vs H Q E →
    codeAny (model P w) A (.call (.ref f) ⟨us, []⟩) (CR (L2.CX P w) outer P w H s Q E) s
theorem fnN_of {x qual : Str} {params : Arguments} {body : List Stmt} {scope : Scope} {dvs : List V} {kws : List (Str × V)} {f : Addr} {fd : FuncData} {N ps : List Str} {k : Nat} {sp : Nat → Sp}
    (F : FunD K x qual params body scope dvs kws f fd) (S : FnScope N ps scope) (len : ∀ n vs H Q E, sp n vs H Q E → vs.length = ps.length)
    (hb : ∀ (cdv : Value) (A : Around) (outer : List Env) (s : Shared) (H : Hp) (vs : List V) (Q : VK) (E : XK), Room k (A.deeper (envOfC qual scope s.heap.objs.size f cdv)) → sp s.heap.objs.size vs H Q E →
      ∃ t, PSs (cxOf (L2.CX P w) P w K mg base N qual scope f cdv A outer s H E) body t ∧ t { nx := fun _ H' => Q .non H', rt := Q } (L2.start N vs) H) : FnN P w K mg base (k + 1) f fd ps sp := by
  refine ⟨fun A outer s H us vs Q E hr e0 bt rel h => ?_⟩
  have vl := len _ _ _ _ _ h
  have kept := fun b o e => (e0.bs b o e).1
  have kin : K.In s.heap := e0.mod.kin.keeps kept
  cases F.ex with
  | intro oc F =>
  obtain ⟨od, dV, kV, doc, pm, an, cdv, ct, osl, rfl, lk, hcd, _, _⟩ := F
  have kinds : ∀ y ∈ ps.zip us, scope.names.lookup y.1 = some .local ∨ (scope.names.lookup y.1 = some .cell ∧ ((cellsFrom (s.heap.objs.size + 1) scope.names []).lookup y.1).isSome = true) := by
    intro y hy
    have m : y.1 ∈ ps := by
      obtain ⟨n, v⟩ := y
      exact (List.of_mem_zip hy).1
    exact (S.par _ m).imp id fun q => ⟨q, PySem.W.cellsFrom_some _ _ _ (.inl q)⟩
  refine codeAny_call_function (Nat.lt_of_le_of_lt (by omega) hr.dp) (kin _ _ lk) rfl S.co S.gen rfl (PySem.W.codeRec_of kin hcd) (bt _ _ _ _ (wpAny_newFunctionEnv_cells S.kind kinds fun env he s1 x => ?_))
  subst he
  refine ⟨(e0.mod.nolimit.keeps kept).keeps x.toInCall.keep, codeAny_func ?_⟩
  have I := inv_start (CX := L2.CX P w) (E := E) (f := f) (cd := cdv) S hr.hd e0 vl rel x
  obtain ⟨t, ht, q⟩ := hb cdv A outer s H vs Q E ⟨hr.hd, by have := hr.dp; show A.depth + 1 + 3 * k + 5 < _; omega, by have := hr.un; show A.units + 3 + 16 * k + 200 < _; omega⟩ h
  refine wpAny_mono (ht.run [] s1 (L2.start N vs) H { nx := fun _ H' => Q .non H', rt := Q } I q) (fun fl s' hs => ?_) fun _ _ hs => hs
  cases fl with
  | ret u =>
    obtain ⟨v, _, H', J, rv, q⟩ := hs
    exact ⟨v, H', J.os, J.bare, J.base, J.hok, rv, q⟩
  | next =>
    obtain ⟨_, H', J, q⟩ := hs
    exact ⟨.non, H', J.os, J.bare, J.base, J.hok, rfl, q⟩
  | brk => exact hs.elim fun _ z => z.elim fun _ z => z.2.elim
  | cont => exact hs.elim fun _ z => z.elim fun _ z => z.2.elim
/-- what such an __iter__ hands out -/
def spIt (K : PySem.W.Frag) (c f : Str) : Nat → Sp := fun n vs H Q _ => ∃ (b dx : Addr) (fs : List (Str × V)) (t : Addr) (xs : List V), vs = [.ref b] ∧ H b = some (.ins (He.ga K c) dx fs) ∧ fs.lookup f = some (.ref t) ∧ SqT K H t xs ∧
  ∀ it, H it = none → n ≤ it → Q (.ref it) (upd H it (TitO t it 0))
structure CalleeIt (P : Program) (w : World) (K : PySem.W.Frag) (mg : Str → Option Value) (base : Heap) (c f : Str) (k : Nat) : Prop where
  ex : ∃ fd ps, FnN P w K mg base k (He.ma K (He.ga K c) "__iter__") fd ps (spIt K c f) ∧ Binds K fd ps [] ∧ ps.length = 1
  cl : Cls K (He.ga K c)
  me : Meth K (He.ga K c) "__iter__" (He.ma K (He.ga K c) "__iter__")
/-- return iter(self.f) -/
theorem ds_iter {X : Cx} {c f : Str} {pr pc pi pa ps : Pos} (cl : Cls X.K (He.ga X.K c)) (na : NoAttr X.K (He.ga X.K c) f) (hm : X.mg "iter" = none) (hN : X.N = [("self" : Str)])
    (hv : Vis X.env.scope "self") (hg : Gl X "iter") : PSs X [.Return (some (.Call (.Name "iter" pi) [.Attribute (.Name "self" ps) f pa] [] pc)) pr] (tRet (tCB (rIterT X.K X.s_0.heap.objs.size) (tCons (tFld X.K (tVar 0) f) tNil))) :=
  pss_one (ps_ret (pe_callB call_iterT hg hm (by decide +kernel) (pa_cons (pe_fld (pe_var (i := 0) (by rw [hN]; rfl) hv (by decide) (by decide)) rfl) pa_nil)))
end
theorem it_run {X : Cx} {c f : Str} {D : Ends} {n : Nat} {vs : List V} {H : Hp} {Q : VK} {E : XK} (cl : Cls X.K (He.ga X.K c)) (na : NoAttr X.K (He.ga X.K c) f) (h : spIt X.K c f n vs H Q E) (en : n = X.s_0.heap.objs.size) :
    (tRet (tCB (rIterT X.K X.s_0.heap.objs.size) (tCons (tFld X.K (tVar 0) f) tNil))) { nx := fun _ H' => Q .non H', rt := Q } (L2.start [("self" : Str)] vs) H := by
  obtain ⟨b, dx, fs, t, xs, rfl, eb, el, hq, q⟩ := h
  subst en
  exact ⟨.ref b, rfl, b, _, dx, fs, .ref t, rfl, eb, cl, na, el, t, xs, rfl, hq, q⟩
section
variable {X : Cx} {W : WX} {tg e : Expr} {te : TE} {de : DTE} {c f : Str} {k : Nat}
def iOwn (K : PySem.W.Frag) (c f : Str) (te : TE) : TI := fun σ H R => te σ H fun x H1 => ∃ (b dx : Addr) (fs : List (Str × V)) (t : Addr) (xs : List V), x = .ref b ∧ H1 b = some (.ins (He.ga K c) dx fs) ∧ fs.lookup f = some (.ref t) ∧ SqT K H1 t xs ∧ R (Itt K t) H1
theorem pi_own (cc : CalleeIt X.prog X.w X.K X.mg X.base c f k) (hr : Room (k + 1) X.A) (he : PE X e te) : PI X tg e (iOwn X.K c f te) := by
  obtain ⟨⟨fd, ps, F, hb, hl⟩, cl, me⟩ := cc
  constructor
  intro pins s σ H R I h
  apply thn (he.run pins s σ H _ I h)
  rintro v s1 ⟨x, H1, I1, r1, b, dx, fs, t, xs, ex, eb, el, hq, q⟩
  subst ex
  cases r1
  obtain ⟨m, fr⟩ := I1.fr
  obtain ⟨_, O, _⟩ := ins_get I1.hok eb
  obtain ⟨_, J, _⟩ := O.look
  refine PySem.W.owit_iter fr I1.mod.kin J me.at_ me.fn ?_
  have bt := hb s1 [.ref b] I1.kIn (by simp [hl])
  rw [List.append_nil] at bt
  have rm : Room k X.A := ⟨hr.hd, by have := hr.dp; omega, by have := hr.un; omega⟩
  refine wpAny_call (codeAny_mono (F.go X.A X.stack s1 H1 [.ref b] [.ref b] (fun v H' => ∃ it, v = .ref it ∧ H1 it = none ∧ s1.heap.objs.size ≤ it ∧ H' = upd H1 it (TitO t it 0)) (fun _ _ _ => False) rm I1.env0 bt (.cons rfl .nil)
    ⟨b, dx, fs, t, xs, rfl, eb, el, hq, fun it a b => ⟨it, rfl, a, b, rfl⟩⟩) fun r s' hq' => ?_)
  match r, hq' with
  | .error _, hq' =>
    obtain ⟨_, _, _, _, _, _, _, _, _, _, _, _, z⟩ := hq'
    exact z.elim
  | .ok (.ret u), hq' =>
    obtain ⟨v, H', I3, rv, it, rfl, hn, hs, rfl⟩ := I1.after hq'
    cases rv
    have eo : s'.heap.IsTupleIter it t 0 := (I3.hok it _ upd_same).1
    have I4 := ItX.inv_drop I3 (φ := fun h => h.IsTupleIter it t 0) upd_same
    rw [ItX.dropH_upd hn] at I4
    have fp := ItX.inv_fp I3 (u := TitO t it 0) upd_same (Nat.le_trans I1.sz hs)
    rw [ItX.dropH_upd hn] at fp
    unfold PySem.W.OwitIt
    refine wpAny_specialOf eo.typeIs PySem.F.slot_tuple_iterator_next.lookup ?_
    exact ⟨it, [it], _, Itt X.K t, H1, rfl, I4, turn_tuple t it, eo, fun b hb => by
      have z : b = it := by simpa using hb
      rw [z]
      exact fp, q⟩
abbrev dItOwn (c f : Str) (de : DTE) : DTI := fun s G Q E => de s G (fun x G1 => gIns c x G1 fun _ fs => match fs.lookup f with
  | some (.tup ds) => Q (itList ds) G1
  | _ => False) E
theorem di_own (cc : CalleeIt X.prog X.w X.K X.mg X.base c f k) (hr : Room (k + 1) X.A) (h : DE X W e de) : DI X W tg e (dItOwn c f de) := by
  obtain ⟨t, p, q⟩ := h
  refine ⟨⟨_, pi_own cc hr p, fun F σ H s G Qd Ed Q rs st hq cn cx => q F σ H s G _ Ed _ rs st hq (fun F1 H1 G1 v x e1 rs1 rv q1 => ?_) cx⟩⟩
  obtain ⟨a, fs, dx, vs, rfl, rfl, eg, eh, rf, q2⟩ := gins_at rs1 rv q1
  split at q2
  · rename_i ds el
    obtain ⟨v, ev, r⟩ := (rf.look (f := f)).1 _ el
    cases r with
    | @tup t xs _ h1 r1 => exact ⟨a, dx, vs, t, xs, rfl, eh, ev, same_t rs1.same h1, cn F1 H1 G1 _ _ e1 rs1 (itr_tup h1 r1) q2⟩
  · exact q2.elim
end
end Dl
set_option Elab.async false
set_option linter.all false
set_option maxRecDepth 100000
set_option maxHeartbeats 4000000
open PySem PySem.Spec PyProof.Rows L2 Dl
namespace Lk65
set_option autoImplicit false
def m_OutOfRange : Str → Option Bool := catT [("EndlessPair", false), ("OutOfRange", true), ("TooLong", false)]
theorem m_OutOfRange_EndlessPair : m_OutOfRange "EndlessPair" = some false := by decide +kernel
theorem m_OutOfRange_OutOfRange : m_OutOfRange "OutOfRange" = some true := by decide +kernel
theorem m_OutOfRange_TooLong : m_OutOfRange "TooLong" = some false := by decide +kernel
def m_TooLong : Str → Option Bool := catT [("EndlessPair", false), ("OutOfRange", false), ("TooLong", true)]
theorem m_TooLong_EndlessPair : m_TooLong "EndlessPair" = some false := by decide +kernel
theorem m_TooLong_OutOfRange : m_TooLong "OutOfRange" = some false := by decide +kernel
theorem m_TooLong_TooLong : m_TooLong "TooLong" = some true := by decide +kernel
def kitm : Str → D → Option Bool := kitT [(("EndlessPair", .inl "FontError"), true), (("OutOfRange", .inl "FontError"), true), (("TooLong", .inl "FontError"), true)]
theorem kit_EndlessPair_FontError : kitm "EndlessPair" (.glo "FontError") = some true := by decide +kernel
theorem kit_OutOfRange_FontError : kitm "OutOfRange" (.glo "FontError") = some true := by decide +kernel
theorem kit_TooLong_FontError : kitm "TooLong" (.glo "FontError") = some true := by decide +kernel
theorem at_Font___contains___characters : (("__contains__" : Str) == ("characters" : Str)) = false := by decide +kernel
theorem at_Font___contains___labels : (("__contains__" : Str) == ("labels" : Str)) = false := by decide +kernel
theorem at_Font___contains___steps : (("__contains__" : Str) == ("steps" : Str)) = false := by decide +kernel
theorem at_Font___len___characters : (("__len__" : Str) == ("characters" : Str)) = false := by decide +kernel
theorem at_Font___len___labels : (("__len__" : Str) == ("labels" : Str)) = false := by decide +kernel
theorem at_Font___len___steps : (("__len__" : Str) == ("steps" : Str)) = false := by decide +kernel
theorem at_Font_character_characters : (("character" : Str) == ("characters" : Str)) = false := by decide +kernel
theorem at_Font_character_labels : (("character" : Str) == ("labels" : Str)) = false := by decide +kernel
theorem at_Font_character_steps : (("character" : Str) == ("steps" : Str)) = false := by decide +kernel
theorem at_Font_glyph_width_characters : (("glyph_width" : Str) == ("characters" : Str)) = false := by decide +kernel
theorem at_Font_glyph_width_labels : (("glyph_width" : Str) == ("labels" : Str)) = false := by decide +kernel
theorem at_Font_glyph_width_steps : (("glyph_width" : Str) == ("steps" : Str)) = false := by decide +kernel
theorem at_Font_line_characters : (("line" : Str) == ("characters" : Str)) = false := by decide +kernel
theorem at_Font_line_labels : (("line" : Str) == ("labels" : Str)) = false := by decide +kernel
theorem at_Font_line_steps : (("line" : Str) == ("steps" : Str)) = false := by decide +kernel
theorem at_Font_metric_values_characters : (("metric_values" : Str) == ("characters" : Str)) = false := by decide +kernel
theorem at_Font_metric_values_labels : (("metric_values" : Str) == ("labels" : Str)) = false := by decide +kernel
theorem at_Font_metric_values_steps : (("metric_values" : Str) == ("steps" : Str)) = false := by decide +kernel
theorem at_Font_pixel_characters : (("pixel" : Str) == ("characters" : Str)) = false := by decide +kernel
theorem at_Font_pixel_labels : (("pixel" : Str) == ("labels" : Str)) = false := by decide +kernel
theorem at_Font_pixel_steps : (("pixel" : Str) == ("steps" : Str)) = false := by decide +kernel
theorem at_Font_positions_characters : (("positions" : Str) == ("characters" : Str)) = false := by decide +kernel
theorem at_Font_positions_labels : (("positions" : Str) == ("labels" : Str)) = false := by decide +kernel
theorem at_Font_positions_steps : (("positions" : Str) == ("steps" : Str)) = false := by decide +kernel
theorem at_Font_table_characters : (("table" : Str) == ("characters" : Str)) = false := by decide +kernel
theorem at_Font_table_labels : (("table" : Str) == ("labels" : Str)) = false := by decide +kernel
theorem at_Font_table_steps : (("table" : Str) == ("steps" : Str)) = false := by decide +kernel
theorem at_Font_table_value_characters : (("table_value" : Str) == ("characters" : Str)) = false := by decide +kernel
theorem at_Font_table_value_labels : (("table_value" : Str) == ("labels" : Str)) = false := by decide +kernel
theorem at_Font_table_value_steps : (("table_value" : Str) == ("steps" : Str)) = false := by decide +kernel
theorem at_Font_width_characters : (("width" : Str) == ("characters" : Str)) = false := by decide +kernel
theorem at_Font_width_labels : (("width" : Str) == ("labels" : Str)) = false := by decide +kernel
theorem at_Font_width_steps : (("width" : Str) == ("steps" : Str)) = false := by decide +kernel
theorem at_Font_characters_labels : (("characters" : Str) == ("labels" : Str)) = false := by decide +kernel
theorem as_Font_characters_labels : (("characters" : Str) = ("labels" : Str)) = False := eq_false (by decide +kernel)
theorem at_Font_characters_steps : (("characters" : Str) == ("steps" : Str)) = false := by decide +kernel
theorem as_Font_characters_steps : (("characters" : Str) = ("steps" : Str)) = False := eq_false (by decide +kernel)
theorem at_Font_labels_characters : (("labels" : Str) == ("characters" : Str)) = false := by decide +kernel
theorem as_Font_labels_characters : (("labels" : Str) = ("characters" : Str)) = False := eq_false (by decide +kernel)
theorem at_Font_labels_steps : (("labels" : Str) == ("steps" : Str)) = false := by decide +kernel
theorem as_Font_labels_steps : (("labels" : Str) = ("steps" : Str)) = False := eq_false (by decide +kernel)
theorem at_Font_steps_characters : (("steps" : Str) == ("characters" : Str)) = false := by decide +kernel
theorem as_Font_steps_characters : (("steps" : Str) = ("characters" : Str)) = False := eq_false (by decide +kernel)
theorem at_Font_steps_labels : (("steps" : Str) == ("labels" : Str)) = false := by decide +kernel
theorem as_Font_steps_labels : (("steps" : Str) = ("labels" : Str)) = False := eq_false (by decide +kernel)
theorem at_Row_glyphs_and_kerns_codes : (("glyphs_and_kerns" : Str) == ("codes" : Str)) = false := by decide +kernel
theorem at_Row_glyphs_and_kerns_gaps : (("glyphs_and_kerns" : Str) == ("gaps" : Str)) = false := by decide +kernel
theorem at_Row_glyphs_and_kerns_place : (("glyphs_and_kerns" : Str) == ("place" : Str)) = false := by decide +kernel
theorem at_Row_is_done_codes : (("is_done" : Str) == ("codes" : Str)) = false := by decide +kernel
theorem at_Row_is_done_gaps : (("is_done" : Str) == ("gaps" : Str)) = false := by decide +kernel
theorem at_Row_is_done_place : (("is_done" : Str) == ("place" : Str)) = false := by decide +kernel
theorem at_Row_kern_codes : (("kern" : Str) == ("codes" : Str)) = false := by decide +kernel
theorem at_Row_kern_gaps : (("kern" : Str) == ("gaps" : Str)) = false := by decide +kernel
theorem at_Row_kern_place : (("kern" : Str) == ("place" : Str)) = false := by decide +kernel
theorem at_Row_ligature_codes : (("ligature" : Str) == ("codes" : Str)) = false := by decide +kernel
theorem at_Row_ligature_gaps : (("ligature" : Str) == ("gaps" : Str)) = false := by decide +kernel
theorem at_Row_ligature_place : (("ligature" : Str) == ("place" : Str)) = false := by decide +kernel
theorem at_Row_codes_gaps : (("codes" : Str) == ("gaps" : Str)) = false := by decide +kernel
theorem as_Row_codes_gaps : (("codes" : Str) = ("gaps" : Str)) = False := eq_false (by decide +kernel)
theorem at_Row_codes_place : (("codes" : Str) == ("place" : Str)) = false := by decide +kernel
theorem as_Row_codes_place : (("codes" : Str) = ("place" : Str)) = False := eq_false (by decide +kernel)
theorem at_Row_gaps_codes : (("gaps" : Str) == ("codes" : Str)) = false := by decide +kernel
theorem as_Row_gaps_codes : (("gaps" : Str) = ("codes" : Str)) = False := eq_false (by decide +kernel)
theorem at_Row_gaps_place : (("gaps" : Str) == ("place" : Str)) = false := by decide +kernel
theorem as_Row_gaps_place : (("gaps" : Str) = ("place" : Str)) = False := eq_false (by decide +kernel)
theorem at_Row_place_codes : (("place" : Str) == ("codes" : Str)) = false := by decide +kernel
theorem as_Row_place_codes : (("place" : Str) = ("codes" : Str)) = False := eq_false (by decide +kernel)
theorem at_Row_place_gaps : (("place" : Str) == ("gaps" : Str)) = false := by decide +kernel
theorem as_Row_place_gaps : (("place" : Str) = ("gaps" : Str)) = False := eq_false (by decide +kernel)
local macro_rules | `(tactic| walk_at "dl") => `(tactic| simp only [m_OutOfRange_EndlessPair, m_OutOfRange_OutOfRange, m_OutOfRange_TooLong, m_TooLong_EndlessPair, m_TooLong_OutOfRange, m_TooLong_TooLong, kit_EndlessPair_FontError, kit_OutOfRange_FontError, kit_TooLong_FontError, at_Font___contains___characters, at_Font___contains___labels, at_Font___contains___steps, at_Font___len___characters, at_Font___len___labels, at_Font___len___steps, at_Font_character_characters, at_Font_character_labels, at_Font_character_steps, at_Font_glyph_width_characters, at_Font_glyph_width_labels, at_Font_glyph_width_steps, at_Font_line_characters, at_Font_line_labels, at_Font_line_steps, at_Font_metric_values_characters, at_Font_metric_values_labels, at_Font_metric_values_steps, at_Font_pixel_characters, at_Font_pixel_labels, at_Font_pixel_steps, at_Font_positions_characters, at_Font_positions_labels, at_Font_positions_steps, at_Font_table_characters, at_Font_table_labels, at_Font_table_steps, at_Font_table_value_characters, at_Font_table_value_labels, at_Font_table_value_steps, at_Font_width_characters, at_Font_width_labels, at_Font_width_steps, at_Font_characters_labels, as_Font_characters_labels, at_Font_characters_steps, as_Font_characters_steps, at_Font_labels_characters, as_Font_labels_characters, at_Font_labels_steps, as_Font_labels_steps, at_Font_steps_characters, as_Font_steps_characters, at_Font_steps_labels, as_Font_steps_labels, at_Row_glyphs_and_kerns_codes, at_Row_glyphs_and_kerns_gaps, at_Row_glyphs_and_kerns_place, at_Row_is_done_codes, at_Row_is_done_gaps, at_Row_is_done_place, at_Row_kern_codes, at_Row_kern_gaps, at_Row_kern_place, at_Row_ligature_codes, at_Row_ligature_gaps, at_Row_ligature_place, at_Row_codes_gaps, as_Row_codes_gaps, at_Row_codes_place, as_Row_codes_place, at_Row_gaps_codes, as_Row_gaps_codes, at_Row_gaps_place, as_Row_gaps_place, at_Row_place_codes, as_Row_place_codes, at_Row_place_gaps, as_Row_place_gaps, dProp, dSeq, dNext, dBreak, dCont, dDrop, dRet, dRetN, dIfS, dNever, dAsg, dSet, dPar, dAug, dRaise, dRaiseI, dVar, dC, dOp, dTest, dChain, dIsN, dNeg, dTru, dAnd, dOr, dNot, dAndV, dOrV, dNotV, dIf, dNil, dCons, dTup, dLst, dLstM, dStrm, dSl, dLc, dLcM, dYes, wipeD, dNoPart, dPart, dCall, dCallK, dCallD, dListRg1, dListRg1M, dListRg2, dCB, g1, g2, dgName, dgNil, dgCons, dgTup, dgSub, dgFld, dFrz, frzD, dFrzV, dFrz2, dFld, gFld, gIns_ref, dFldSet, gMeth, dMeth, dMethD, dMethK, dMake, dBinM, dNegM, gIsiI, putD, List.lookup_cons, List.lookup_nil, beq_self_eq_true, gdel_gupd_same, tyG, dRevT, dTry, dTryAs, dTryM, sEnds, pick, dTryN, asEnds, pickN, gIsE, dTryAsX, exA, exD, gIsX, dXf, gXf, List.zip_cons_cons, List.zip_nil_left, g2, dFor, dForG, dListG0, dAugS, dSortSc, dSortScI, gIsB, dFldAug, dTab, dNewK, dNewT, gDk, gInD, dgDk, gPutD, lookD, keyD, leavesD, leafD, intsD, dGet2, gGetD, gLenD, gKeysOf, gKeysM, isDct, gLtP, gGtP, dRng1, dRng2, dRng3, dLc2, dLc2M, dItSeq, dBM, dBML, dBMC, dBM0, dRev, gI, gI0, gAdd, gMulA, geq_ii, geq_tup, geq_lst, geq_ref, geq_non, geq_bl, geq_str, geq_it, geq_il, geq_in, gIx, gLen, gInt, gAbs, gIsi, gListOf, gTupOf, gSl, gSlS, gCatL, gRepL, gSetL, isL, dmAppend, dmExtend, dmPop, dmPopAt, dmIndex, dmInsert, dmReverse, lv, cv, truth, tyOf, Dl.isNon, dstart, fEnds, Sm, List.map, List.replicate, List.length, List.append, List.cons_append, List.nil_append, List.set, List.getElem?_cons_zero, List.getElem?_cons_succ, List.getElem?_nil, Nat.reduceSub, Nat.reduceAdd, Bool.false_eq_true, if_false, if_true, decide_eq_true_eq, true_and, and_true, reduceCtorEq, Nat.succ_eq_add_one, Nat.zero_add, ite_true, ite_false, Option.map, eq_self, Int.reduceNeg, Int.reduceLE, Int.reduceLT, Int.reducePow, Int.reduceToNat, Int.reduceAdd, Int.reduceSub, Int.reduceMul, size_0, size_1, size_2, size_3, size_4, size_5, size_6, size_7, size_8, kit_ii, kit_ib, kit_bi, kit_bb, kit_tt, kit_tl, kit_lt, kit_ll, kit_it, kit_nt, kit_ti, kit_st, kit_si, kit_ss, atI_0, atI_1, atI_2, atI_3, atI_4, atI_5, gupd_same, gupd_gupd, Bool.not_true, Bool.not_false, Bool.not_eq_true', decide_eq_false_iff_not, Bool.not_eq_eq_eq_not, ne_eq, not_false_eq_true, Int.cast_ofNat_Int, Int.reduceEq, decide_true, decide_false])
local macro_rules | `(tactic| walk_at "dx") => `(tactic| simp only [m_OutOfRange_EndlessPair, m_OutOfRange_OutOfRange, m_OutOfRange_TooLong, m_TooLong_EndlessPair, m_TooLong_OutOfRange, m_TooLong_TooLong, kit_EndlessPair_FontError, kit_OutOfRange_FontError, kit_TooLong_FontError, at_Font___contains___characters, at_Font___contains___labels, at_Font___contains___steps, at_Font___len___characters, at_Font___len___labels, at_Font___len___steps, at_Font_character_characters, at_Font_character_labels, at_Font_character_steps, at_Font_glyph_width_characters, at_Font_glyph_width_labels, at_Font_glyph_width_steps, at_Font_line_characters, at_Font_line_labels, at_Font_line_steps, at_Font_metric_values_characters, at_Font_metric_values_labels, at_Font_metric_values_steps, at_Font_pixel_characters, at_Font_pixel_labels, at_Font_pixel_steps, at_Font_positions_characters, at_Font_positions_labels, at_Font_positions_steps, at_Font_table_characters, at_Font_table_labels, at_Font_table_steps, at_Font_table_value_characters, at_Font_table_value_labels, at_Font_table_value_steps, at_Font_width_characters, at_Font_width_labels, at_Font_width_steps, at_Font_characters_labels, as_Font_characters_labels, at_Font_characters_steps, as_Font_characters_steps, at_Font_labels_characters, as_Font_labels_characters, at_Font_labels_steps, as_Font_labels_steps, at_Font_steps_characters, as_Font_steps_characters, at_Font_steps_labels, as_Font_steps_labels, at_Row_glyphs_and_kerns_codes, at_Row_glyphs_and_kerns_gaps, at_Row_glyphs_and_kerns_place, at_Row_is_done_codes, at_Row_is_done_gaps, at_Row_is_done_place, at_Row_kern_codes, at_Row_kern_gaps, at_Row_kern_place, at_Row_ligature_codes, at_Row_ligature_gaps, at_Row_ligature_place, at_Row_codes_gaps, as_Row_codes_gaps, at_Row_codes_place, as_Row_codes_place, at_Row_gaps_codes, as_Row_gaps_codes, at_Row_gaps_place, as_Row_gaps_place, at_Row_place_codes, as_Row_place_codes, at_Row_place_gaps, as_Row_place_gaps, dProp, dSeq, dNext, dBreak, dCont, dDrop, dRet, dRetN, dIfS, dNever, dAsg, dSet, dPar, dAug, dRaise, dRaiseI, dVar, dC, dOp, dTest, dChain, dIsN, dNeg, dTru, dAnd, dOr, dNot, dAndV, dOrV, dNotV, dIf, dNil, dCons, dTup, dLst, dLstM, dStrm, dSl, dLc, dLcM, dYes, wipeD, dNoPart, dPart, dCall, dCallK, dCallD, dListRg1, dListRg1M, dListRg2, dCB, g1, g2, dgName, dgNil, dgCons, dgTup, dgSub, dgFld, dFrz, frzD, dFrzV, dFrz2, dFld, gFld, gIns_ref, dFldSet, gMeth, dMeth, dMethD, dMethK, dMake, dBinM, dNegM, gIsiI, putD, List.lookup_cons, List.lookup_nil, beq_self_eq_true, gdel_gupd_same, tyG, dRevT, dTry, dTryAs, dTryM, sEnds, pick, dTryN, asEnds, pickN, gIsE, dTryAsX, exA, exD, gIsX, dXf, gXf, List.zip_cons_cons, List.zip_nil_left, g2, dFor, dForG, dListG0, dAugS, dSortSc, dSortScI, gIsB, dFldAug, dTab, dNewK, dNewT, gDk, gInD, dgDk, gPutD, lookD, keyD, leavesD, leafD, intsD, dGet2, gGetD, gLenD, gKeysOf, gKeysM, isDct, gLtP, gGtP, dRng1, dRng2, dRng3, dLc2, dLc2M, dItSeq, dBM, dBML, dBMC, dBM0, dRev, gI, gI0, gAdd, gMulA, geq_ii, geq_tup, geq_lst, geq_ref, geq_non, geq_bl, geq_str, geq_it, geq_il, geq_in, gIx_tup, gIx_lst, gIx_ref, gIx_scr, gIx_strm, gIx_str, gLen, gInt, gAbs, gIsi, gListOf, gTupOf, gSl, gSlS, gCatL, gRepL, gSetL_ref, gSetL_strm, isL, dmAppend, dmExtend, dmPop, dmPopAt, dmIndex, dmInsert, dmReverse, lv, cv, truth, tyOf, Dl.isNon, dstart, fEnds, Sm, List.map, List.replicate, List.length, List.append, List.cons_append, List.nil_append, List.set, List.getElem?_cons_zero, List.getElem?_cons_succ, List.getElem?_nil, Nat.reduceSub, Nat.reduceAdd, Bool.false_eq_true, if_false, if_true, decide_eq_true_eq, true_and, and_true, reduceCtorEq, Nat.succ_eq_add_one, Nat.zero_add, ite_true, ite_false, Option.map, eq_self, Int.reduceNeg, Int.reduceLE, Int.reduceLT, Int.reducePow, Int.reduceToNat, Int.reduceAdd, Int.reduceSub, Int.reduceMul, size_0, size_1, size_2, size_3, size_4, size_5, size_6, size_7, size_8, kit_ii, kit_ib, kit_bi, kit_bb, kit_tt, kit_tl, kit_lt, kit_ll, kit_it, kit_nt, kit_ti, kit_st, kit_si, kit_ss, atI_0, atI_1, atI_2, atI_3, atI_4, atI_5, gupd_same, gupd_gupd, Bool.not_true, Bool.not_false, Bool.not_eq_true', decide_eq_false_iff_not, Bool.not_eq_eq_eq_not, ne_eq, not_false_eq_true, Int.cast_ofNat_Int, Int.reduceEq, decide_true, decide_false])
local macro_rules | `(tactic| walk_at "dv") => `(tactic| simp only [m_OutOfRange_EndlessPair, m_OutOfRange_OutOfRange, m_OutOfRange_TooLong, m_TooLong_EndlessPair, m_TooLong_OutOfRange, m_TooLong_TooLong, kit_EndlessPair_FontError, kit_OutOfRange_FontError, kit_TooLong_FontError, at_Font___contains___characters, at_Font___contains___labels, at_Font___contains___steps, at_Font___len___characters, at_Font___len___labels, at_Font___len___steps, at_Font_character_characters, at_Font_character_labels, at_Font_character_steps, at_Font_glyph_width_characters, at_Font_glyph_width_labels, at_Font_glyph_width_steps, at_Font_line_characters, at_Font_line_labels, at_Font_line_steps, at_Font_metric_values_characters, at_Font_metric_values_labels, at_Font_metric_values_steps, at_Font_pixel_characters, at_Font_pixel_labels, at_Font_pixel_steps, at_Font_positions_characters, at_Font_positions_labels, at_Font_positions_steps, at_Font_table_characters, at_Font_table_labels, at_Font_table_steps, at_Font_table_value_characters, at_Font_table_value_labels, at_Font_table_value_steps, at_Font_width_characters, at_Font_width_labels, at_Font_width_steps, at_Font_characters_labels, as_Font_characters_labels, at_Font_characters_steps, as_Font_characters_steps, at_Font_labels_characters, as_Font_labels_characters, at_Font_labels_steps, as_Font_labels_steps, at_Font_steps_characters, as_Font_steps_characters, at_Font_steps_labels, as_Font_steps_labels, at_Row_glyphs_and_kerns_codes, at_Row_glyphs_and_kerns_gaps, at_Row_glyphs_and_kerns_place, at_Row_is_done_codes, at_Row_is_done_gaps, at_Row_is_done_place, at_Row_kern_codes, at_Row_kern_gaps, at_Row_kern_place, at_Row_ligature_codes, at_Row_ligature_gaps, at_Row_ligature_place, at_Row_codes_gaps, as_Row_codes_gaps, at_Row_codes_place, as_Row_codes_place, at_Row_gaps_codes, as_Row_gaps_codes, at_Row_gaps_place, as_Row_gaps_place, at_Row_place_codes, as_Row_place_codes, at_Row_place_gaps, as_Row_place_gaps, dProp, dSeq, dNext, dBreak, dCont, dDrop, dRet, dRetN, dIfS, dNever, dAsg, dSet, dPar, dAug, dRaise, dRaiseI, dVar, dC, dOp, dTest, dChain, dIsN, dNeg, dTru, dAnd, dOr, dNot, dAndV, dOrV, dNotV, dIf, dNil, dCons, dTup, dLst, dLstM, dStrm, dSl, dLc, dLcM, dYes, wipeD, dNoPart, dPart, dCall, dCallK, dCallD, dListRg1, dListRg1M, dListRg2, dCB, g1, g2, dgName, dgNil, dgCons, dgTup, dgSub, dgFld, dFrz, frzD, dFrzV, dFrz2, dFld, gFld, gIns_ref, dFldSet, gMeth, dMeth, dMethD, dMethK, dMake, dBinM, dNegM, gIsiI, putD, List.lookup_cons, List.lookup_nil, beq_self_eq_true, gdel_gupd_same, tyG, dRevT, dTry, dTryAs, dTryM, sEnds, pick, dTryN, asEnds, pickN, gIsE, dTryAsX, exA, exD, gIsX, dXf, gXf, List.zip_cons_cons, List.zip_nil_left, g2, dFor, dForG, dListG0, dAugS, dSortSc, dSortScI, gIsB, dFldAug, dTab, dNewK, dNewT, gDk, gInD, dgDk, gPutD, lookD, keyD, leavesD, leafD, intsD, dGet2, gGetD, gLenD, gKeysOf, gKeysM, isDct, gLtP, gGtP, dRng1, dRng2, dRng3, dLc2, dLc2M, dItSeq, dBM, dBML, dBMC, dBM0, dRev, gI, gI0, gAdd, gMulA, geq_ii, geq_tup, geq_lst, geq_ref, geq_non, geq_bl, geq_str, geq_it, geq_il, geq_in, gIx_tup, gIx_lst, gIx_ref, gIx_scr, gIx_strm, gIx_str, gInt, gAbs, gListOf, gTupOf, gSlS, gCatL, gRepL, gSetL_ref, gSetL_strm, isL, dmAppend, dmExtend, dmPop, dmPopAt, dmIndex, dmInsert, dmReverse, lv, cv, truth, tyOf, Dl.isNon, dstart, fEnds, Sm, List.map, List.replicate, List.length, List.append, List.cons_append, List.nil_append, List.set, List.getElem?_cons_zero, List.getElem?_cons_succ, List.getElem?_nil, Nat.reduceSub, Nat.reduceAdd, Bool.false_eq_true, if_false, if_true, decide_eq_true_eq, true_and, and_true, reduceCtorEq, Nat.succ_eq_add_one, Nat.zero_add, ite_true, ite_false, Option.map, eq_self, Int.reduceNeg, Int.reduceLE, Int.reduceLT, Int.reducePow, Int.reduceToNat, Int.reduceAdd, Int.reduceSub, Int.reduceMul, size_0, size_1, size_2, size_3, size_4, size_5, size_6, size_7, size_8, kit_ii, kit_ib, kit_bi, kit_bb, kit_tt, kit_tl, kit_lt, kit_ll, kit_it, kit_nt, kit_ti, kit_st, kit_si, kit_ss, atI_0, atI_1, atI_2, atI_3, atI_4, atI_5, gupd_same, gupd_gupd, Bool.not_true, Bool.not_false, Bool.not_eq_true', decide_eq_false_iff_not, Bool.not_eq_eq_eq_not, ne_eq, not_false_eq_true, Int.cast_ofNat_Int, Int.reduceEq, decide_true, decide_false])
/-- far from the line of a product's size -/
def Bnd (x : Int) : Prop := -1000000000000000000000000000000000000000000000000000000000000 ≤ x ∧ x ≤ 1000000000000000000000000000000000000000000000000000000000000
theorem cmul_b {i j : Int} (hi : Bnd i) (hj : Bnd j) : CMulD i j := by
  have e : (2 : Nat) ^ 200 = 1606938044258990275541962092341162602522202993782792835301376 := by decide
  obtain ⟨h1, h2⟩ := hi
  obtain ⟨h3, h4⟩ := hj
  exact cmul_w 200 200 (by rw [e]; omega) (by rw [e]; omega)
theorem gdel_free {G : Gp} {a : Addr} (h : G a = none) : gdel G a = G := by
  funext b
  unfold gdel
  by_cases z : b = a
  · rw [if_pos z, z, h]
  · rw [if_neg z]
/-- a grid point -/
abbrev Pt := Int × Int
def pt (p : Pt) : D := .tup [.int p.1, .int p.2]
def PtB (p : Pt) : Prop := (-100000000000000000000 ≤ p.1 ∧ p.1 ≤ 100000000000000000000) ∧ (-100000000000000000000 ≤ p.2 ∧ p.2 ≤ 100000000000000000000)
def PtC (p : Pt) : Prop := (-1000000000000 ≤ p.1 ∧ p.1 ≤ 1000000000000) ∧ (-1000000000000 ≤ p.2 ∧ p.2 ≤ 1000000000000)
theorem PtC.b {p : Pt} (h : PtC p) : PtB p := by
  obtain ⟨⟨a, b⟩, c, d⟩ := h
  exact ⟨⟨by omega, by omega⟩, by omega, by omega⟩
theorem map_get {α β : Type} {f : α → β} {xs : List α} {i : Nat} {y : β} (h : (xs.map f)[i]? = some y) : ∃ x, xs[i]? = some x ∧ y = f x := by
  rw [List.getElem?_map] at h
  obtain ⟨x, h1, h2⟩ := Option.map_eq_some_iff.mp h
  exact ⟨x, h1, h2.symm⟩
theorem drop_at {α : Type} {xs : List α} {i : Nat} {x : α} (h : xs[i]? = some x) : xs.drop i = x :: xs.drop (i + 1) := by
  obtain ⟨l, rfl⟩ := List.getElem?_eq_some_iff.mp h
  exact List.drop_eq_getElem_cons l
theorem take_succ' {α : Type} {xs : List α} {i : Nat} {x : α} (h : xs[i]? = some x) : xs.take (i + 1) = xs.take i ++ [x] := by
  rw [List.take_add_one, h]
  rfl
/-- a comprehension's list, drawn turn by turn over a range -/
def LcV (G1 : Gp) (p : Addr) (P : Nat → List D → Prop) : Nat → List D → Gp → Prop := fun i acc G' => G' = gupd G1 p (.lst acc) ∧ acc.length ≤ i ∧ P i acc
theorem lc_rng {lo : Int} {n : Nat} {g : DTG} {tt : DTT} {te : DTE} {s : DSt} {G1 : Gp} {p : Addr} {fin : List D → Gp → Prop} (P : Nat → List D → Prop) (h0 : P 0 [])
    (turn : ∀ i acc, i < n → acc.length ≤ i → P i acc → g (.int (lo + i)) s (gupd G1 p (.lst acc)) fun s2 G2 => tt s2 G2 (fun b G3 => if b = true then te s2 G3 (fun y G4 => G4 p = some (.lst acc) ∧ acc.length < sizeLine ∧ LcV G1 p P (i + 1) (acc ++ [y]) (gupd G4 p (.lst (acc ++ [y])))) X0 else LcV G1 p P (i + 1) acc G3) X0)
    (done : ∀ acc, acc.length ≤ n → P n acc → fin acc (gupd G1 p (.lst acc))) : lcTurns (itInts lo n) g tt te s G1 p fin := by
  refine ⟨LcV G1 p P, ⟨rfl, Nat.le_refl _, h0⟩, ?_, ?_, ?_⟩
  · rintro i acc G' hi ⟨rfl, _, _⟩
    exact ⟨gupd_same .., trivial⟩
  · rintro i x acc G' hi rfl ⟨rfl, hl, hP⟩
    exact turn i acc hi hl hP
  · rintro acc G' ⟨rfl, hl, hP⟩
    exact done acc hl hP
theorem lc_push {G1 : Gp} {p : Addr} {P : Nat → List D → Prop} {i : Nat} {acc : List D} {y : D} (hl : acc.length ≤ i) (hi : i < 16777215) (h : P (i + 1) (acc ++ [y])) :
    (gupd G1 p (.lst acc)) p = some (.lst acc) ∧ acc.length < sizeLine ∧ LcV G1 p P (i + 1) (acc ++ [y]) (gupd (gupd G1 p (.lst acc)) p (.lst (acc ++ [y]))) := by
  refine ⟨gupd_same .., size_lt (by omega), gupd_gupd .., ?_, h⟩
  rw [List.length_append]
  show acc.length + 1 ≤ i + 1
  omega
theorem lc_lst {ds : List D} {g : DTG} {tt : DTT} {te : DTE} {s : DSt} {G1 : Gp} {p : Addr} {fin : List D → Gp → Prop} (P : Nat → List D → Prop) (h0 : P 0 [])
    (turn : ∀ i x acc, ds[i]? = some x → acc.length ≤ i → P i acc → g x s (gupd G1 p (.lst acc)) fun s2 G2 => tt s2 G2 (fun b G3 => if b = true then te s2 G3 (fun y G4 => G4 p = some (.lst acc) ∧ acc.length < sizeLine ∧ LcV G1 p P (i + 1) (acc ++ [y]) (gupd G4 p (.lst (acc ++ [y])))) X0 else LcV G1 p P (i + 1) acc G3) X0)
    (done : ∀ acc, acc.length ≤ ds.length → P ds.length acc → fin acc (gupd G1 p (.lst acc))) : lcTurns (itList ds) g tt te s G1 p fin := by
  refine ⟨LcV G1 p P, ⟨rfl, Nat.le_refl _, h0⟩, ?_, ?_, ?_⟩
  · rintro i acc G' hi ⟨rfl, _, _⟩
    exact ⟨gupd_same .., trivial⟩
  · rintro i x acc G' hi hx ⟨rfl, hl, hP⟩
    exact turn i x acc hx hl hP
  · rintro acc G' ⟨rfl, hl, hP⟩
    exact done acc hl hP
/-- the same, where the walk has read the heap -/
theorem lc_push' {G1 : Gp} {p : Addr} {P : Nat → List D → Prop} {i : Nat} {acc : List D} {y : D} (hl : acc.length ≤ i) (hi : i < 16777215) (h : P (i + 1) (acc ++ [y])) :
    acc.length < sizeLine ∧ LcV G1 p P (i + 1) (acc ++ [y]) (gupd G1 p (.lst (acc ++ [y]))) := by
  have z := lc_push (G1 := G1) (p := p) (P := P) hl hi h
  rw [gupd_gupd] at z
  exact z.2
/-- data that == may look at -/
def EqN (n : Nat) (d : D) : Prop := pure? d = true ∧ (toP d).canLay0 = true ∧ (toP d).depth ≤ n
theorem EqN.ok {n : Nat} {d : D} (h : EqN n d) (hn : n ≤ 64 := by decide) : EqOk d := by
  obtain ⟨a, b, c⟩ := h
  refine ⟨a, ?_⟩
  unfold SeqAt.shaped
  rw [b, Bool.true_and, decide_eq_true_eq]
  omega
theorem eqn_all {n : Nat} : ∀ {ds : List D}, (∀ d ∈ ds, EqN n d) → pure?.pures ds = true ∧ PyData.canLayAll0 (toP.toPs ds) = true ∧ PyData.depthAll (toP.toPs ds) ≤ n
  | [], _ => by
    unfold pure?.pures toP.toPs PyData.canLayAll0 PyData.depthAll
    exact ⟨rfl, rfl, Nat.zero_le _⟩
  | d :: ds, h => by
    obtain ⟨a, b, c⟩ := h d (List.mem_cons_self ..)
    obtain ⟨a', b', c'⟩ := eqn_all fun x hx => h x (List.mem_cons_of_mem _ hx)
    unfold pure?.pures toP.toPs PyData.canLayAll0 PyData.depthAll
    rw [a, a', b, b']
    exact ⟨rfl, rfl, by omega⟩
theorem eqn_lst {n : Nat} {ds : List D} (h : ∀ d ∈ ds, EqN n d) : EqN (n + 1) (.lst ds) := by
  obtain ⟨a, b, c⟩ := eqn_all h
  unfold EqN pure? toP PyData.canLay0 PyData.depth
  exact ⟨a, b, by omega⟩
theorem eqn_tup {n : Nat} {ds : List D} (h : ∀ d ∈ ds, EqN n d) : EqN (n + 1) (.tup ds) := by
  obtain ⟨a, b, c⟩ := eqn_all h
  unfold EqN pure? toP PyData.canLay0 PyData.depth
  exact ⟨a, b, by omega⟩
theorem eqn_int (i : Int) : EqN 0 (.int i) := ⟨rfl, rfl, Nat.le_refl 0⟩
theorem eqn_pt (p : Pt) : EqN 1 (pt p) := eqn_tup fun d h => by
  simp only [List.mem_cons, List.not_mem_nil, or_false] at h
  rcases h with rfl | rfl <;> exact eqn_int _
mutual
theorem eqv_refl : ∀ {d : D}, pure? d = true → PyData.eqv (toP d) (toP d) = true
  | .non, _ => by unfold toP PyData.eqv; rfl
  | .bl b, _ => by unfold toP PyData.eqv; exact beq_self_eq_true b
  | .int i, _ => by unfold toP PyData.eqv; exact beq_self_eq_true i
  | .str x, _ => by unfold toP PyData.eqv; exact beq_self_eq_true x
  | .tup ds, h => by
    unfold toP PyData.eqv
    unfold pure? at h
    exact eqv_refls h
  | .lst ds, h => by
    unfold toP PyData.eqv
    unfold pure? at h
    exact eqv_refls h
  | .ty _, h => by simp [pure?] at h
  | .ref _, h => by simp [pure?] at h
  | .glo _, h => by simp [pure?] at h
  | .strm, h => by simp [pure?] at h
  | .scr _, h => by simp [pure?] at h
  | .exn _ _ _ _, h => by simp [pure?] at h
theorem eqv_refls : ∀ {ds : List D}, pure?.pures ds = true → PyData.eqvAll (toP.toPs ds) (toP.toPs ds) = true
  | [], _ => by unfold toP.toPs PyData.eqvAll; rfl
  | d :: ds, h => by
    unfold pure?.pures at h
    have h' := Bool.and_eq_true_iff.mp h
    unfold toP.toPs PyData.eqvAll
    rw [eqv_refl h'.1, eqv_refls h'.2]
    rfl
end
theorem deq_refl {n : Nat} {d : D} (h : EqN n d) : deq d d = true := eqv_refl h.1
theorem EqN.mono {n m : Nat} {d : D} (h : EqN n d) (l : n ≤ m) : EqN m d := ⟨h.1, h.2.1, Nat.le_trans h.2.2 l⟩
theorem geq_pt {p : Pt} {G : Gp} {Q : DK} (h : Q (.bl true) G) : gEq false (pt p) (pt p) G Q := ⟨(eqn_pt p).ok, (eqn_pt p).ok, by
  show Q (.bl (if false = true then _ else deq (pt p) (pt p))) G
  rw [deq_refl (eqn_pt p)]
  exact h⟩
theorem at_end {α : Type} {xs : List α} {x : α} (h0 : 0 < xs.length) (h : xs[xs.length - 1]? = some x) : atI xs (-1) = some x := by
  unfold atI ixN
  rw [if_neg (by decide), if_pos (by omega)]
  show xs[_]? = some x
  rw [← h]
  congr 1
  omega
theorem geq_selfT {n : Nat} {xs : List D} {G : Gp} {Q : DK} (e : EqN n (.tup xs)) (hn : n ≤ 64) (h : Q (.bl true) G) : gEq false (.tup xs) (.tup xs) G Q := ⟨e.ok hn, e.ok hn, by
  show Q (.bl (if false = true then _ else deq (.tup xs) (.tup xs))) G
  rw [deq_refl e]
  exact h⟩
theorem geq_selfL {n : Nat} {xs : List D} {G : Gp} {Q : DK} (e : EqN n (.lst xs)) (hn : n ≤ 64) (h : Q (.bl true) G) : gEq false (.lst xs) (.lst xs) G Q := ⟨e.ok hn, e.ok hn, by
  show Q (.bl (if false = true then _ else deq (.lst xs) (.lst xs))) G
  rw [deq_refl e]
  exact h⟩
theorem eqn_bl (b : Bool) : EqN 0 (.bl b) := ⟨rfl, rfl, Nat.le_refl 0⟩
theorem eqn_b3 (a b c : Bool) : EqN 1 (.lst [.bl a, .bl b, .bl c]) := eqn_lst fun d h => by
  simp only [List.mem_cons, List.not_mem_nil, or_false] at h
  rcases h with rfl | rfl | rfl <;> exact eqn_bl _
theorem eqn_str (x : Str) (h : PyData.strOk x = true := by decide +kernel) : EqN 0 (.str x) := ⟨rfl, by unfold toP PyData.canLay0; exact h, Nat.le_refl 0⟩
theorem geq_selfS {x : Str} {G : Gp} {Q : DK} (hx : PyData.strOk x = true) (h : Q (.bl true) G) : gEq false (.str x) (.str x) G Q := ⟨(eqn_str x hx).ok, (eqn_str x hx).ok, by
  show Q (.bl (if false = true then _ else deq (.str x) (.str x))) G
  rw [deq_refl (eqn_str x hx)]
  exact h⟩
theorem self_ne {n : Nat} {d : D} {A B : Prop} (e : EqN n d) (hn : n ≤ 64) (h : B) : EqOk d ∧ EqOk d ∧ if deq d d = false then A else B := ⟨e.ok hn, e.ok hn, by
  rw [deq_refl e, if_neg (by decide)]
  exact h⟩
theorem self_eq {n : Nat} {d : D} {A B : Prop} (e : EqN n d) (hn : n ≤ 64) (h : A) : EqOk d ∧ EqOk d ∧ if deq d d = true then A else B := ⟨e.ok hn, e.ok hn, by
  rw [deq_refl e, if_pos rfl]
  exact h⟩
theorem self_q {n : Nat} {d : D} {G : Gp} {Q : DK} (e : EqN n d) (hn : n ≤ 64) (h : Q (.bl true) G) : EqOk d ∧ EqOk d ∧ Q (.bl (deq d d)) G := ⟨e.ok hn, e.ok hn, by
  rw [deq_refl e]
  exact h⟩
theorem geq_neT {n : Nat} {xs : List D} {G : Gp} {Q : DK} (e : EqN n (.tup xs)) (hn : n ≤ 64) (h : Q (.bl false) G) : gEq true (.tup xs) (.tup xs) G Q := ⟨e.ok hn, e.ok hn, by
  show Q (.bl (if true = true then !deq (.tup xs) (.tup xs) else _)) G
  rw [deq_refl e]
  exact h⟩
theorem self_ne2 {n : Nat} {x y d : D} {A B : Prop} (ex : x = d) (ey : y = d) (e : EqN n d) (hn : n ≤ 64) (h : B) : EqOk x ∧ EqOk y ∧ if deq x y = false then A else B := by
  subst ex
  subst ey
  exact self_ne e hn h
theorem self_eq2 {n : Nat} {x y d : D} {A B : Prop} (ex : x = d) (ey : y = d) (e : EqN n d) (hn : n ≤ 64) (h : A) : EqOk x ∧ EqOk y ∧ if deq x y = true then A else B := by
  subst ex
  subst ey
  exact self_eq e hn h
theorem self_q2 {n : Nat} {x y d : D} {G : Gp} {Q : DK} (ex : x = d) (ey : y = d) (e : EqN n d) (hn : n ≤ 64) (h : Q (.bl true) G) : EqOk x ∧ EqOk y ∧ Q (.bl (deq x y)) G := by
  subst ex
  subst ey
  exact self_q e hn h
/-- a comprehension over a list that may change -/
theorem lc_ref {a : Addr} {ds : List D} {g : DTG} {tt : DTT} {te : DTE} {s : DSt} {G1 : Gp} {p : Addr} {fin : List D → Gp → Prop} (P : Nat → List D → Prop) (ha : G1 a = some (.lst ds)) (hp : G1 p = none) (h0 : P 0 [])
    (turn : ∀ i x acc, ds[i]? = some x → acc.length ≤ i → P i acc → g x s (gupd G1 p (.lst acc)) fun s2 G2 => tt s2 G2 (fun b G3 => if b = true then te s2 G3 (fun y G4 => G4 p = some (.lst acc) ∧ acc.length < sizeLine ∧ LcV G1 p P (i + 1) (acc ++ [y]) (gupd G4 p (.lst (acc ++ [y])))) X0 else LcV G1 p P (i + 1) acc G3) X0)
    (done : ∀ acc, acc.length ≤ ds.length → P ds.length acc → fin acc (gupd G1 p (.lst acc))) : lcTurns (itRef a ds) g tt te s G1 p fin := by
  refine ⟨LcV G1 p P, ⟨rfl, Nat.le_refl _, h0⟩, fun i acc G' _ h => ?_, fun i x acc G' hi hx h => ?_, fun acc G' h => ?_⟩
  · refine ⟨by rw [h.1]; exact gupd_same, ?_⟩
    show G' a = _
    rw [h.1, gupd_ne (gne ha hp), ha]
  · obtain ⟨rfl, h1, h2⟩ := h
    exact turn i x acc hx h1 h2
  · obtain ⟨rfl, h1, h2⟩ := h
    exact done acc h1 h2

theorem cut_hi (xs : List D) {k : Int} (h : 0 ≤ k) : Dl.cutD xs none (some k) = xs.take k.toNat := by
  obtain ⟨n, rfl⟩ := Int.eq_ofNat_of_zero_le h
  unfold Dl.cutD
  rw [HT.sIx_none, HT.sIx_nat, List.drop_zero, Nat.sub_zero, Int.toNat_natCast]
  by_cases l : n ≤ xs.length
  · rw [Nat.min_eq_left l]
  · rw [Nat.min_eq_right (by omega), List.take_length, List.take_of_length_le (by omega)]
theorem cut_lo (xs : List D) {k : Int} (h : 0 ≤ k) : Dl.cutD xs (some k) none = xs.drop k.toNat := by
  obtain ⟨n, rfl⟩ := Int.eq_ofNat_of_zero_le h
  unfold Dl.cutD
  rw [HT.sIx_none, HT.sIx_nat, Int.toNat_natCast]
  by_cases l : n ≤ xs.length
  · rw [Nat.min_eq_left l, List.take_of_length_le (by rw [List.length_drop]; omega)]
  · rw [Nat.min_eq_right (by omega), Nat.sub_self, List.take_zero, List.drop_of_length_le (by omega)]
theorem cut_both (xs : List D) {j k : Int} (hj : 0 ≤ j) (hk : 0 ≤ k) : Dl.cutD xs (some j) (some k) = (xs.drop j.toNat).take (k.toNat - j.toNat) := by
  obtain ⟨n, rfl⟩ := Int.eq_ofNat_of_zero_le hj
  obtain ⟨m, rfl⟩ := Int.eq_ofNat_of_zero_le hk
  unfold Dl.cutD
  rw [HT.sIx_nat, HT.sIx_nat, Int.toNat_natCast, Int.toNat_natCast]
  by_cases l : n ≤ xs.length
  · rw [Nat.min_eq_left l]
    by_cases l2 : m ≤ xs.length
    · rw [Nat.min_eq_left l2]
    · rw [Nat.min_eq_right (by omega), List.take_of_length_le (by rw [List.length_drop]; omega), List.take_of_length_le (by rw [List.length_drop]; omega)]
  · rw [List.drop_of_length_le (l := xs) (i := n) (by omega), List.drop_of_length_le (by omega), List.take_nil, List.take_nil]
theorem cut_drop (xs : List D) : Dl.cutD xs none (some (-1)) = xs.dropLast := by
  unfold Dl.cutD
  rw [HT.sIx_none, List.drop_zero, Nat.sub_zero, List.dropLast_eq_take]
  congr 1
  show (if (-1 : Int) < 0 then ((-1 : Int) + (xs.length : Int)).toNat else min (-1 : Int).toNat xs.length) = xs.length - 1
  rw [if_pos (by decide)]
  omega

theorem gix_lv {x : D} {ds : List D} {d : D} {i : Int} {G : Gp} {Q : DK} (h : lv x G = some ds) (e : atI ds i = some d) (q : Q d G) : gIx x (.int i) G Q := by
  cases x with
  | lst es =>
    have h' : es = ds := Option.some.inj h
    subst h'
    rw [gIx_lst, e]
    exact q
  | ref a =>
    rw [gIx_ref, h]
    dsimp only
    rw [e]
    exact q
  | _ => cases h
theorem glen_lv {x : D} {ds : List D} {G : Gp} {Q : DK} (h : lv x G = some ds) (q : Q (.int ds.length) G) : gLen x G Q := by
  cases x with
  | lst es =>
    have h' : es = ds := Option.some.inj h
    subst h'
    exact q
  | ref a =>
    show (match lv (.ref a) G with
      | some ds => Q (.int ds.length) G
      | none => False)
    rw [h]
    exact q
  | _ => cases h
theorem gisi_lv {x : D} {ds : List D} {G : Gp} {Q : DK} (h : lv x G = some ds) (q : Q (.bl true) G) : gIsi x (.ty "list") G Q := by
  have k : kitB "list" "list" = some true := kit_ll
  cases x with
  | lst es =>
    show (match kitB "list" "list" with
      | some b => Q (.bl b) G
      | none => False)
    rw [k]
    exact q
  | ref a =>
    have h' : (match G a with
      | some (.lst ds) => some ds
      | _ => none) = some ds := h
    show (match (match G a with
        | some (.lst _) => some "list"
        | _ => none) with
      | some m => match kitB m "list" with
        | some b => Q (.bl b) G
        | none => False
      | none => False)
    split at h'
    · dsimp only
      rw [k]
      exact q
    · cases h'
  | _ => cases h
theorem gsl_lv {x : D} {ds : List D} {lo hi : Option Int} {G : Gp} {Q : DK} (h : lv x G = some ds) (q : Q (.lst (cutD ds lo hi)) G) : gSl x lo hi G Q := by
  cases x with
  | lst es =>
    have h' : es = ds := Option.some.inj h
    subst h'
    exact q
  | ref a =>
    show (match lv (.ref a) G with
      | some ds => Q (.lst (cutD ds lo hi)) G
      | none => False)
    rw [h]
    exact q
  | _ => cases h

/-- one value more: the groups, the newest first -/
def gst (e : Int) : List (Int × Int) → Int → List (Int × Int)
  | (a, b) :: r, v => if v ≤ a + e then (a, v) :: r else (v, v) :: (a, b) :: r
  | [], v => [(v, v)]
def grd (e : Int) (vs : List Int) : List (Int × Int) := vs.foldl (gst e) []
theorem grd_push (e : Int) (vs : List Int) (v : Int) : grd e (vs ++ [v]) = gst e (grd e vs) v := by
  unfold grd
  rw [List.foldl_append]
  rfl
structure GInv (e : Int) (vs : List Int) (acc : List (Int × Int)) : Prop where
  mem : ∀ p ∈ acc, p.1 ∈ vs ∧ p.2 ∈ vs ∧ p.1 ≤ p.2 ∧ p.2 - p.1 ≤ e
  gap : acc.Pairwise fun p q => e < p.1 - q.1
  cov : ∀ v ∈ vs, ∃ p ∈ acc, p.1 ≤ v ∧ v ≤ p.2
  len : acc.length ≤ vs.length
theorem gst_inv {e : Int} (he : 0 ≤ e) {vs : List Int} {acc : List (Int × Int)} {v : Int} (h : GInv e vs acc) (hv : ∀ w ∈ vs, w < v) : GInv e (vs ++ [v]) (gst e acc v) := by
  have old : ∀ w, w ∈ vs → w ∈ vs ++ [v] := fun w hw => List.mem_append_left _ hw
  have new : v ∈ vs ++ [v] := List.mem_append_right _ (List.mem_singleton.mpr rfl)
  cases acc with
  | nil =>
    refine ⟨fun p hp => ?_, List.pairwise_singleton _ _, fun w hw => ?_, by rw [List.length_append]; show 1 ≤ _ + 1; omega⟩
    · rw [List.mem_singleton.mp hp]
      exact ⟨new, new, Int.le_refl _, by show v - v ≤ e; omega⟩
    · rcases List.mem_append.mp hw with z | z
      · obtain ⟨p, hp, _⟩ := h.cov w z
        cases hp
      · rw [List.mem_singleton.mp z]
        exact ⟨(v, v), List.mem_singleton.mpr rfl, Int.le_refl _, Int.le_refl _⟩
  | cons p r =>
    obtain ⟨a, b⟩ := p
    obtain ⟨m1, m2, m3, m4⟩ := h.mem (a, b) List.mem_cons_self
    dsimp only at m1 m2 m3 m4
    have hb := hv b m2
    show GInv e (vs ++ [v]) (if v ≤ a + e then (a, v) :: r else (v, v) :: (a, b) :: r)
    have l := h.len
    by_cases c : v ≤ a + e
    · rw [if_pos c]
      refine ⟨fun p hp => ?_, ?_, fun w hw => ?_, by rw [List.length_append]; simp only [List.length_cons] at l ⊢; show _ ≤ _ + 1; omega⟩
      · rcases List.mem_cons.mp hp with z | z
        · rw [z]
          exact ⟨old a m1, new, by show a ≤ v; omega, by show v - a ≤ e; omega⟩
        · obtain ⟨k1, k2, k3⟩ := h.mem p (List.mem_cons_of_mem _ z)
          exact ⟨old _ k1, old _ k2, k3⟩
      · obtain ⟨g1, g2⟩ := List.pairwise_cons.mp h.gap
        exact List.pairwise_cons.mpr ⟨g1, g2⟩
      · rcases List.mem_append.mp hw with z | z
        · obtain ⟨p, hp, k1, k2⟩ := h.cov w z
          rcases List.mem_cons.mp hp with y | y
          · rw [y] at k1 k2
            exact ⟨(a, v), List.mem_cons_self, k1, by have : w ≤ b := k2; show w ≤ v; omega⟩
          · exact ⟨p, List.mem_cons_of_mem _ y, k1, k2⟩
        · rw [List.mem_singleton.mp z]
          exact ⟨(a, v), List.mem_cons_self, by show a ≤ v; omega, Int.le_refl _⟩
    · rw [if_neg c]
      refine ⟨fun p hp => ?_, ?_, fun w hw => ?_, by rw [List.length_append]; simp only [List.length_cons] at l ⊢; show _ ≤ _ + 1; omega⟩
      · rcases List.mem_cons.mp hp with z | z
        · rw [z]
          exact ⟨new, new, Int.le_refl _, by show v - v ≤ e; omega⟩
        · obtain ⟨k1, k2, k3⟩ := h.mem p z
          exact ⟨old _ k1, old _ k2, k3⟩
      · refine List.pairwise_cons.mpr ⟨fun q hq => ?_, h.gap⟩
        show e < v - q.1
        rcases List.mem_cons.mp hq with z | z
        · rw [z]
          show e < v - a
          omega
        · have := (List.pairwise_cons.mp h.gap).1 q z
          have : e < a - q.1 := this
          omega
      · rcases List.mem_append.mp hw with z | z
        · obtain ⟨p, hp, k⟩ := h.cov w z
          exact ⟨p, List.mem_cons_of_mem _ hp, k⟩
        · rw [List.mem_singleton.mp z]
          exact ⟨(v, v), List.mem_cons_self, Int.le_refl _, Int.le_refl _⟩
theorem grd_go {e : Int} (he : 0 ≤ e) : ∀ (rest done : List Int) (acc : List (Int × Int)), GInv e done acc → (done ++ rest).Pairwise (· < ·) → GInv e (done ++ rest) (rest.foldl (gst e) acc)
  | [], done, acc, h, _ => by
    rw [List.append_nil]
    exact h
  | v :: rest, done, acc, h, hs => by
    have z := grd_go he rest (done ++ [v]) (gst e acc v) (gst_inv he h fun w hw => (List.pairwise_append.mp hs).2.2 w hw v List.mem_cons_self) (by rw [List.append_assoc]; exact hs)
    rw [List.append_assoc] at z
    exact z
theorem grd_inv {e : Int} (he : 0 ≤ e) {vs : List Int} (hs : vs.Pairwise (· < ·)) : GInv e vs (grd e vs) :=
  grd_go he vs [] [] ⟨fun _ h => (nomatch h), List.Pairwise.nil, fun _ h => (nomatch h), Nat.le_refl _⟩ hs
theorem nodup_lenN : ∀ (l D : List Nat), l.Nodup → (∀ x ∈ l, x ∈ D) → l.length ≤ D.length
  | [], _, _, _ => Nat.zero_le _
  | x :: l, D, nd, h => by
    have hx := h x List.mem_cons_self
    obtain ⟨n1, n2⟩ := List.nodup_cons.mp nd
    have z := nodup_lenN l (D.erase x) n2 fun y hy => (List.mem_erase_of_ne (fun (e : y = x) => n1 (by rw [← e]; exact hy))).mpr (h y (List.mem_cons_of_mem _ hy))
    rw [List.length_erase_of_mem hx] at z
    have := List.length_pos_of_mem hx
    rw [List.length_cons]
    omega
/-- no division has fewer pieces -/
theorem grd_opt {e : Int} (he : 0 ≤ e) {vs : List Int} (hs : vs.Pairwise (· < ·)) {n : Nat} (pc : Int → Nat) (hp : ∀ v ∈ vs, pc v < n) (near : ∀ v ∈ vs, ∀ w ∈ vs, v < w → pc v = pc w → w - v ≤ e) : (grd e vs).length ≤ n := by
  have I := grd_inv he hs
  have nd : ((grd e vs).map fun p => pc p.1).Nodup := by
    refine List.pairwise_map.mpr (List.Pairwise.imp_of_mem (fun {p q} hp hq h => ?_) I.gap)
    intro e1
    have k1 := (I.mem p hp).1
    have k2 := (I.mem q hq).1
    have := near q.1 k2 p.1 k1 (by omega) e1.symm
    omega
  have z := nodup_lenN _ (List.range n) nd fun x hx => by
    obtain ⟨p, hp', rfl⟩ := List.mem_map.mp hx
    exact List.mem_range.mpr (hp _ (I.mem p hp').1)
  rwa [List.length_map, List.length_range] at z
/-- a greater tolerance, no more groups -/
theorem grd_mono {e e' : Int} (he : 0 ≤ e) (h : e ≤ e') {vs : List Int} (hs : vs.Pairwise (· < ·)) : (grd e' vs).length ≤ (grd e vs).length := by
  have I := grd_inv he hs
  refine grd_opt (by omega) hs (fun v => (grd e vs).findIdx fun p => decide (p.1 ≤ v ∧ v ≤ p.2)) (fun v hv => ?_) fun v hv w hw hvw eq => ?_
  · obtain ⟨p, hp, k⟩ := I.cov v hv
    exact List.findIdx_lt_length_of_exists ⟨p, hp, decide_eq_true k⟩
  · obtain ⟨p, hp, k⟩ := I.cov v hv
    have l1 := List.findIdx_lt_length_of_exists (xs := grd e vs) (p := fun p => decide (p.1 ≤ v ∧ v ≤ p.2)) ⟨p, hp, decide_eq_true k⟩
    obtain ⟨p', hp', k'⟩ := I.cov w hw
    have l2 := List.findIdx_lt_length_of_exists (xs := grd e vs) (p := fun p => decide (p.1 ≤ w ∧ w ≤ p.2)) ⟨p', hp', decide_eq_true k'⟩
    have g1 := of_decide_eq_true (List.findIdx_getElem (w := l1))
    have g2 := of_decide_eq_true (List.findIdx_getElem (w := l2))
    have eq' : (grd e vs)[(grd e vs).findIdx fun p => decide (p.1 ≤ v ∧ v ≤ p.2)] = (grd e vs)[(grd e vs).findIdx fun p => decide (p.1 ≤ w ∧ w ≤ p.2)] := by
      congr 1
    rw [← eq'] at g2
    have := (I.mem _ (List.getElem_mem l1)).2.2.2
    omega
/-- tolerances that no difference tells apart -/
theorem grd_same {e d : Int} {vs : List Int} (h : ∀ v ∈ vs, ∀ w ∈ vs, (w - v ≤ e ↔ w - v ≤ d)) : grd e vs = grd d vs := by
  have go : ∀ (rest : List Int) (acc : List (Int × Int)), (∀ v ∈ rest, v ∈ vs) → (∀ p ∈ acc, p.1 ∈ vs) → rest.foldl (gst e) acc = rest.foldl (gst d) acc := by
    intro rest
    induction rest with
    | nil => intro _ _ _; rfl
    | cons v r ih =>
      intro acc h1 h2
      have hv := h1 v List.mem_cons_self
      have es : gst e acc v = gst d acc v := by
        cases acc with
        | nil => rfl
        | cons p q =>
          obtain ⟨a, b⟩ := p
          have := h a (h2 (a, b) List.mem_cons_self) v hv
          show (if v ≤ a + e then _ else _) = if v ≤ a + d then _ else _
          by_cases c : v ≤ a + e
          · rw [if_pos c, if_pos (by omega)]
          · rw [if_neg c, if_neg (by omega)]
      show r.foldl (gst e) (gst e acc v) = r.foldl (gst d) (gst d acc v)
      rw [es]
      refine ih _ (fun w hw => h1 w (List.mem_cons_of_mem _ hw)) fun p hp => ?_
      cases acc with
      | nil => rw [List.mem_singleton.mp hp]; exact hv
      | cons q r' =>
        obtain ⟨a, b⟩ := q
        have ha := h2 (a, b) List.mem_cons_self
        have hp' : p ∈ (if v ≤ a + d then (a, v) :: r' else (v, v) :: (a, b) :: r') := hp
        split at hp'
        · rcases List.mem_cons.mp hp' with z | z
          · rw [z]; exact ha
          · exact h2 p (List.mem_cons_of_mem _ z)
        · rcases List.mem_cons.mp hp' with z | z
          · rw [z]; exact hv
          · exact h2 p z
  exact go vs [] (fun _ h => h) (fun _ h => (nomatch h))
/-- rising lists of the same members -/
theorem asc_uniq : ∀ {as bs : List Int}, as.Pairwise (· < ·) → bs.Pairwise (· < ·) → (∀ k, k ∈ as ↔ k ∈ bs) → as = bs
  | [], [], _, _, _ => rfl
  | [], b :: bs, _, _, e => by have := (e b).mpr List.mem_cons_self; cases this
  | a :: as, [], _, _, e => by have := (e a).mp List.mem_cons_self; cases this
  | a :: as, b :: bs, h, k, e => by
    obtain ⟨h1, h2⟩ := List.pairwise_cons.mp h
    obtain ⟨k1, k2⟩ := List.pairwise_cons.mp k
    have eab : a = b := by
      rcases List.mem_cons.mp ((e a).mp List.mem_cons_self) with z | z
      · exact z
      · rcases List.mem_cons.mp ((e b).mpr List.mem_cons_self) with y | y
        · exact y.symm
        · have := h1 b y
          have := k1 a z
          omega
    subst eab
    rw [asc_uniq h2 k2 fun x => ?_]
    constructor
    · intro hx
      rcases List.mem_cons.mp ((e x).mp (List.mem_cons_of_mem _ hx)) with z | z
      · have := h1 x hx
        omega
      · exact z
    · intro hx
      rcases List.mem_cons.mp ((e x).mpr (List.mem_cons_of_mem _ hx)) with z | z
      · have := k1 x hx
        omega
      · exact z
/-- one group, if the tolerance is the whole width -/
theorem grd_one {e : Int} (he : 0 ≤ e) {vs : List Int} (hs : vs.Pairwise (· < ·)) (h : ∀ v ∈ vs, ∀ w ∈ vs, w - v ≤ e) : (grd e vs).length ≤ 1 :=
  grd_opt he hs (fun _ => 0) (fun _ _ => Nat.lt_succ_self 0) fun v hv w hw _ _ => h v hv w hw
/-- a rising list of the members that are not 0 -/
def AscOf (vs rest : List Int) : Prop := rest.Pairwise (· < ·) ∧ ∀ k, k ∈ rest ↔ k ∈ vs ∧ k ≠ 0
theorem deq_int (a b : Int) : deq (.int a) (.int b) = decide (a = b) := by
  unfold deq
  simp only [toP, PyData.eqv]
  by_cases h : a = b
  · rw [h, decide_eq_true rfl, beq_self_eq_true]
  · rw [decide_eq_false h]
    exact beq_false_of_ne h
theorem eqn_ints (vs : List Int) : EqN 1 (.lst (vs.map .int)) := eqn_lst fun d hd => by
  obtain ⟨p, _, rfl⟩ := List.mem_map.mp hd
  exact eqn_int _
theorem gin_int {neg : Bool} {k : Int} {vs : List Int} {y : D} {G : Gp} {Q : DK} (hy : cv y G = .lst (vs.map .int)) (q : Q (.bl (if neg then !decide (k ∈ vs) else decide (k ∈ vs))) G) : gIn neg (.int k) y G Q := by
  have e : ((vs.map D.int).any fun z => deq z (.int k)) = decide (k ∈ vs) := by
    rw [List.any_map]
    by_cases h : k ∈ vs
    · rw [decide_eq_true h, List.any_eq_true]
      refine ⟨k, h, ?_⟩
      show deq (.int k) (.int k) = true
      rw [deq_int]
      exact decide_eq_true rfl
    · rw [decide_eq_false h, List.any_eq_false]
      intro z hz
      show ¬ deq (.int z) (.int k) = true
      rw [deq_int, decide_eq_true_eq]
      exact fun e => h (e ▸ hz)
  unfold gIn
  rw [hy]
  refine ⟨(eqn_int k).ok (by decide), (eqn_ints vs).ok (by decide), ?_⟩
  rw [e]
  exact q
theorem eq_prs (ps : List Pt) : EqN 2 (.lst (ps.map pt)) := eqn_lst fun d hd => by
  obtain ⟨p, _, rfl⟩ := List.mem_map.mp hd
  exact ⟨rfl, rfl, Nat.le_of_ble_eq_true rfl⟩
/-- the last of the groups is put in place -/
theorem set_last {acc : List Pt} {a b : Int} {r : List Pt} (h : acc = (a, b) :: r) (d : Pt) : ∃ j, ixN (acc.reverse.map pt).length (-1) = some j ∧ (acc.reverse.map pt).set j (pt d) = (d :: r).reverse.map pt := by
  subst h
  refine ⟨r.length, ?_, ?_⟩
  · unfold ixN
    rw [if_neg (by decide), if_pos (by rw [List.length_map, List.length_reverse, List.length_cons]; omega)]
    congr 1
    rw [List.length_map, List.length_reverse, List.length_cons]
    omega
  · rw [List.reverse_cons, List.map_append, List.set_append_right _ _ (by rw [List.length_map, List.length_reverse]; omega), List.reverse_cons, List.map_append]
    rw [List.length_map, List.length_reverse, Nat.sub_self]
    rfl
theorem at_last {acc : List Pt} {p : Pt} {r : List Pt} (h : acc = p :: r) : atI (acc.reverse.map pt) (-1) = some (pt p) := by
  subst h
  refine at_end (by rw [List.length_map, List.length_reverse, List.length_cons]; omega) ?_
  rw [← List.getLast?_eq_getElem?, List.getLast?_map, List.getLast?_reverse]
  rfl
/-- the least tolerance: found by halves -/
def LeastT (rest : List Int) (lim t : Int) : Prop := 0 ≤ t ∧ t ≤ 1000000000000 ∧ ((grd t rest).length : Int) ≤ lim ∧ (t = 0 ∨ lim < ((grd (t - 1) rest).length : Int))
def mids (acc : List Pt) : List Int := acc.map fun p => (p.1 + p.2) / 2
def tval (acc : List Pt) (v : Int) : Int := match acc.find? fun p => decide (p.1 ≤ v ∧ v ≤ p.2) with
  | some p => (p.1 + p.2) / 2
  | none => 0
/-- what is known of the groups of the values -/
structure Grps (vs : List Int) (t : Int) (acc : List Pt) : Prop where
  t0 : 0 ≤ t
  len : acc.length ≤ 62
  mem : ∀ p ∈ acc, 1 ≤ p.1 ∧ p.1 ≤ p.2 ∧ p.2 - p.1 ≤ t ∧ p.2 ≤ 1000000000000
  gap : acc.Pairwise fun q p => t < p.1 - q.1
  cov : ∀ v ∈ vs, 0 < v → ∃ p ∈ acc, p.1 ≤ v ∧ v ≤ p.2
theorem grps_of {vs rest : List Int} {t : Int} (ht : 0 ≤ t) (hr : AscOf vs rest) (hl : vs.length ≤ 62) (hB : ∀ v ∈ vs, 0 ≤ v ∧ v ≤ 1000000000000) : Grps vs t (grd t rest).reverse := by
  have I := grd_inv ht hr.1
  have lr : rest.length ≤ 62 := by
    have := Dl.nodup_len rest vs (hr.1.imp fun h => by omega) fun k hk => ((hr.2 k).mp hk).1
    omega
  refine ⟨ht, by have := I.len; rw [List.length_reverse]; omega, fun p hp => ?_, List.pairwise_reverse.mpr I.gap, fun v hv h => ?_⟩
  · obtain ⟨h1, h2, h3, h4⟩ := I.mem p (List.mem_reverse.mp hp)
    obtain ⟨k1, k2⟩ := (hr.2 _).mp h1
    obtain ⟨k3, k4⟩ := (hr.2 _).mp h2
    have := hB _ k1
    have := hB _ k3
    exact ⟨by omega, h3, h4, by omega⟩
  · obtain ⟨p, hp, h⟩ := I.cov v ((hr.2 v).mpr ⟨hv, by omega⟩)
    exact ⟨p, List.mem_reverse.mpr hp, h⟩
theorem Grps.one {vs : List Int} {t : Int} {acc : List Pt} (g : Grps vs t acc) {p q : Pt} {v : Int} (hp : p ∈ acc) (hq : q ∈ acc) (h1 : p.1 ≤ v ∧ v ≤ p.2) (h2 : q.1 ≤ v ∧ v ≤ q.2) : p = q := by
  obtain ⟨i, hi, ei⟩ := List.mem_iff_getElem.mp hp
  obtain ⟨j, hj, ej⟩ := List.mem_iff_getElem.mp hq
  have m1 := g.mem p hp
  have m2 := g.mem q hq
  rcases Nat.lt_trichotomy i j with z | z | z
  · have := List.pairwise_iff_getElem.mp g.gap i j hi hj z
    rw [ei, ej] at this
    omega
  · subst z
    rw [← ei, ← ej]
  · have := List.pairwise_iff_getElem.mp g.gap j i hj hi z
    rw [ei, ej] at this
    omega
theorem Grps.val {vs : List Int} {t : Int} {acc : List Pt} (g : Grps vs t acc) {p : Pt} {v : Int} (hp : p ∈ acc) (h : p.1 ≤ v ∧ v ≤ p.2) : tval acc v = (p.1 + p.2) / 2 := by
  unfold tval
  cases e : acc.find? fun p => decide (p.1 ≤ v ∧ v ≤ p.2) with
  | none =>
    have := List.find?_eq_none.mp e p hp
    rw [decide_eq_true h] at this
    exact absurd rfl this
  | some q =>
    have k : q.1 ≤ v ∧ v ≤ q.2 := by simpa using List.find?_some e
    rw [g.one (List.mem_of_find?_eq_some e) hp k h]
theorem Grps.zero {vs : List Int} {t : Int} {acc : List Pt} (g : Grps vs t acc) : tval acc 0 = 0 := by
  unfold tval
  cases e : acc.find? fun p => decide (p.1 ≤ 0 ∧ 0 ≤ p.2) with
  | none => rfl
  | some q =>
    have k : q.1 ≤ 0 ∧ 0 ≤ q.2 := by simpa using List.find?_some e
    have := g.mem q (List.mem_of_find?_eq_some e)
    omega
theorem least_uniq {rest : List Int} {lim t u : Int} (hs : rest.Pairwise (· < ·)) (h : LeastT rest lim t) (k : LeastT rest lim u) : t = u := by
  have one : ∀ {t u : Int}, LeastT rest lim t → LeastT rest lim u → ¬ t < u := fun {t u} ⟨h0, _, h1, _⟩ ⟨k0, _, k1, k2⟩ z => by
    rcases k2 with e | e
    · omega
    · have := grd_mono (e := t) (e' := u - 1) h0 (by omega) hs
      omega
  have a := one h k
  have b := one k h
  omega
/-- ligature programs -/
inductive Act where
  | kern (n : Int)
  | lig (c : Int) (l r : Bool) (v : Int)
def actD : Act → D
  | .kern n => .tup [.str "kern", .int n]
  | .lig c l r v => .tup [.str "ligature", .int c, .bl l, .bl r, .int v]
def oactD : Option Act → D
  | none => .non
  | some a => actD a
structure Stp where
  right : Int
  act : Act
  last : Bool
def stpD (s : Stp) : D := .tup [.int s.right, actD s.act, .bl s.last]
abbrev Labs := List (Int × Nat)
def labD (l : Int × Nat) : D := .tup [.int l.1, .int (l.2 : Nat)]
/-- what a table's steps say of a right code (none: they come to their end) -/
def scan : List Stp → Int → Option (Option Act)
  | [], _ => none
  | s :: ss, r => if s.right = r then some (some s.act) else if s.last = true then some none else scan ss r
def ruleF (steps : List Stp) : List (Int × Nat) → Int → Int → Option Act
  | [], _, _ => none
  | (c, i) :: ls, left, right => if c = left then (match scan (steps.drop i) right with
    | some r => r
    | none => ruleF steps ls left right) else ruleF steps ls left right
/-- what an action alone tells of the pair's end -/
def plainF (a : Option Act) (right : Int) : Option Int := match a with
  | none => some right
  | some (.kern _) => some right
  | some (.lig c l r v) => if r = false ∧ (l = false ∨ v = 1) then some c else if v = 2 ∨ (r = true ∧ l = false ∧ v = 1) then some right else none
def oint : Option Int → D
  | none => .non
  | some i => .int i
theorem kern_kern {A B : Prop} (h : A) : EqOk (D.str (Str.ofString "kern")) ∧ EqOk (D.str (Str.ofString "kern")) ∧ if deq (D.str (Str.ofString "kern")) (D.str (Str.ofString "kern")) = true then A else B := self_eq (eqn_str _) (by decide) h
theorem lig_kern {A B : Prop} (h : B) : EqOk (D.str (Str.ofString "ligature")) ∧ EqOk (D.str (Str.ofString "kern")) ∧ if deq (D.str (Str.ofString "ligature")) (D.str (Str.ofString "kern")) = true then A else B :=
  ⟨(eqn_str _).ok, (eqn_str _).ok, by
    rw [if_neg (by decide +kernel)]
    exact h⟩
def ligIt (c : Int) (l r : Bool) (a b : Int) : List Int := (if l = true then [a] else []) ++ [c] ++ (if r = true then [b] else [])
def ligRow (row : List Int) (k : Nat) (c : Int) (l r : Bool) (a b : Int) : List Int := row.take k ++ ligIt c l r a b ++ row.drop (k + 2)
def ligGap (gaps : List Int) (k : Nat) (l r : Bool) : List Int := gaps.take k ++ List.replicate ((if l = true then 1 else 0) + (if r = true then 1 else 0)) 0 ++ gaps.drop (k + 1)
theorem ligRow_len {row : List Int} {k : Nat} {c a b : Int} {l r : Bool} (hb : row[k + 1]? = some b) : (ligRow row k c l r a b).length + 1 = row.length + ((if l = true then 1 else 0) + (if r = true then 1 else 0)) := by
  have := (List.getElem?_eq_some_iff.mp hb).1
  unfold ligRow ligIt
  rw [List.length_append, List.length_append, List.length_take, List.length_drop]
  cases l <;> cases r <;> simp <;> omega
theorem ligGap_len {gaps : List Int} {k : Nat} {l r : Bool} (h : k < gaps.length) : (ligGap gaps k l r).length + 1 = gaps.length + ((if l = true then 1 else 0) + (if r = true then 1 else 0)) := by
  unfold ligGap
  rw [List.length_append, List.length_append, List.length_take, List.length_drop, List.length_replicate]
  omega
theorem gupd_comm' {G : Gp} {a b : Addr} {o u : GO} (h : a ≠ b) : gupd (gupd G a o) b u = gupd (gupd G b u) a o := by
  funext c
  unfold gupd
  by_cases h1 : c = b
  · rw [if_pos h1, if_neg (fun z => h (z.symm.trans h1)), if_pos h1]
  · rw [if_neg h1, if_neg h1]
theorem gupd_aba {G : Gp} {a b : Addr} {o u o' u' : GO} (h : a ≠ b) : gupd (gupd (gupd (gupd G a o) b u) a o') b u' = gupd (gupd G a o') b u' := by
  rw [gupd_comm' (G := gupd G a o) h.symm, gupd_gupd, gupd_gupd]
abbrev Ends := List ((Int × Int) × Int)
def encE (e : (Int × Int) × Int) : List Int × D := ([e.1.1, e.1.2], .int e.2)
def lookE (E : Ends) (k : Int × Int) : Option Int := (E.find? fun e => decide (e.1 = k)).map (·.2)
def putE (E : Ends) (k : Int × Int) (v : Int) : Ends := if (lookE E k).isSome = true then E.map fun e => if e.1 = k then (e.1, v) else e else E ++ [(k, v)]
theorem enc_key {e : (Int × Int) × Int} {a b : Int} : (encE e).1.map PySem.Leaf.num = [PySem.Leaf.num a, PySem.Leaf.num b] ↔ e.1 = (a, b) := by
  unfold encE
  simp only [List.map_cons, List.map_nil, List.cons.injEq, PySem.Leaf.num.injEq, and_true]
  exact ⟨fun h => Prod.ext h.1 h.2, fun h => by rw [h]; exact ⟨rfl, rfl⟩⟩
theorem look_enc (a b : Int) : ∀ E : Ends, lookT (E.map encE) [.num a, .num b] = (lookE E (a, b)).map D.int
  | [] => rfl
  | e :: E => by
    have ih := look_enc a b E
    unfold lookT lookE at ih ⊢
    rw [List.map_cons, List.find?_cons, List.find?_cons]
    by_cases h : e.1 = (a, b)
    · rw [decide_eq_true (enc_key.mpr h), decide_eq_true h]
      rfl
    · rw [decide_eq_false (fun z => h (enc_key.mp z)), decide_eq_false h]
      exact ih
theorem put_enc (a b v : Int) (E : Ends) : putT (E.map encE) [a, b] (.int v) = (putE E (a, b) v).map encE := by
  unfold putT putE
  rw [show ([a, b] : List Int).map PySem.Leaf.num = [.num a, .num b] from rfl, look_enc, Option.isSome_map]
  by_cases h : (lookE E (a, b)).isSome = true
  · rw [if_pos h, if_pos h, List.map_map, List.map_map]
    refine List.map_congr_left fun e _ => ?_
    show (if (encE e).1.map PySem.Leaf.num = [PySem.Leaf.num a, PySem.Leaf.num b] then ((encE e).1, D.int v) else encE e) = encE (if e.1 = (a, b) then (e.1, v) else e)
    by_cases k : e.1 = (a, b)
    · rw [if_pos (enc_key.mpr k), if_pos k]
      rfl
    · rw [if_neg (fun z => k (enc_key.mp z)), if_neg k]
  · rw [if_neg h, if_neg h, List.map_append]
    rfl
def finF (E : Ends) (n : Int × Int) : Option Int × Option (Int × Int) := match lookE E n with
  | some x => (some x, none)
  | none => (none, some n)
def settleF (a : Option Act) (E : Ends) (left right : Int) : Option Int × Option (Int × Int) := match plainF a right with
  | some e => (some e, none)
  | none => match a with
    | some (.lig c l r v) => if r = false then finF E (left, c) else if l = false ∨ v = 1 then finF E (c, right) else (match lookE E (left, c) with
      | none => (none, some (left, c))
      | some x => finF E (x, right))
    | _ => (none, none)
def prI (k : Int × Int) : D := .tup [.int k.1, .int k.2]
def opr : Option (Int × Int) → D
  | none => .non
  | some k => prI k
def signsL : List (Bool × Bool × Int) := [(false, false, 0), (true, false, 0), (true, false, 1), (false, true, 0), (false, true, 1), (true, true, 0), (true, true, 1), (true, true, 2)]
/-- the end of a pair -/
inductive Ev (f : Int → Int → Option Act) : Int → Int → Int → Prop
  | plain {l r e : Int} (h : plainF (f l r) r = some e) : Ev f l r e
  | left {l r c v e : Int} {ls : Bool} (h : f l r = some (.lig c ls false v)) (hp : plainF (f l r) r = none) (k : Ev f l c e) : Ev f l r e
  | right {l r c v e : Int} {ls : Bool} (h : f l r = some (.lig c ls true v)) (hp : plainF (f l r) r = none) (h1 : ls = false ∨ v = 1) (k : Ev f c r e) : Ev f l r e
  | both {l r c v x e : Int} {ls : Bool} (h : f l r = some (.lig c ls true v)) (hp : plainF (f l r) r = none) (h1 : ¬ (ls = false ∨ v = 1)) (k : Ev f l c x) (k2 : Ev f x r e) : Ev f l r e
theorem Ev.same {f : Int → Int → Option Act} {l r e : Int} (a : Ev f l r e) : ∀ {e' : Int}, Ev f l r e' → e = e' := by
  induction a with
  | plain h =>
    intro e' b
    cases b with
    | plain h' => exact Option.some.inj (h.symm.trans h')
    | left h' hp _ => cases h.symm.trans hp
    | right h' hp _ _ => cases h.symm.trans hp
    | both h' hp _ _ _ => cases h.symm.trans hp
  | left h hp k ih =>
    intro e' b
    cases b with
    | plain h' => cases hp.symm.trans h'
    | left h' hp' k' =>
      cases h.symm.trans h'
      exact ih k'
    | right h' hp' _ k' => cases h.symm.trans h'
    | both h' hp' _ k' _ => cases h.symm.trans h'
  | right h hp h1 k ih =>
    intro e' b
    cases b with
    | plain h' => cases hp.symm.trans h'
    | left h' hp' k' => cases h.symm.trans h'
    | right h' hp' _ k' =>
      cases h.symm.trans h'
      exact ih k'
    | both h' hp' h2 k' _ =>
      cases h.symm.trans h'
      exact absurd h1 h2
  | both h hp h1 k k2 ih1 ih2 =>
    intro e' b
    cases b with
    | plain h' => cases hp.symm.trans h'
    | left h' hp' k' => cases h.symm.trans h'
    | right h' hp' h2 k' =>
      cases h.symm.trans h'
      exact absurd h2 h1
    | both h' hp' h2 k' k2' =>
      cases h.symm.trans h'
      cases ih1 k'
      exact ih2 k2'
def Sound (f : Int → Int → Option Act) (E : Ends) : Prop := ∀ k x, lookE E k = some x → Ev f k.1 k.2 x
theorem fin_some {E : Ends} {k : Int × Int} {e : Int} {n : Option (Int × Int)} (h : finF E k = (some e, n)) : lookE E k = some e := by
  unfold finF at h
  split at h
  · rename_i x hx
    cases h
    exact hx
  · cases h
theorem fin_none {E : Ends} {k : Int × Int} {n : Option (Int × Int)} (h : finF E k = (none, n)) : n = some k ∧ lookE E k = none := by
  unfold finF at h
  split at h
  · cases h
  · rename_i hx
    cases h
    exact ⟨rfl, hx⟩
/-- what is settled is right -/
theorem settle_sound {f : Int → Int → Option Act} {E : Ends} (hE : Sound f E) {l r e : Int} {n : Option (Int × Int)} (h : settleF (f l r) E l r = (some e, n)) : Ev f l r e := by
  unfold settleF at h
  cases hp : plainF (f l r) r with
  | some x =>
    rw [hp] at h
    cases h
    exact .plain hp
  | none =>
    rw [hp] at h
    dsimp only at h
    split at h
    · rename_i c ls rs v ha
      cases rs with
      | false =>
        rw [if_pos rfl] at h
        exact .left ha hp (hE _ _ (fin_some h))
      | true =>
        rw [if_neg (by decide)] at h
        by_cases h1 : ls = false ∨ v = 1
        · rw [if_pos h1] at h
          exact .right ha hp h1 (hE _ _ (fin_some h))
        · rw [if_neg h1] at h
          cases hx : lookE E (l, c) with
          | none =>
            rw [hx] at h
            cases h
          | some x =>
            rw [hx] at h
            exact .both ha hp h1 (hE _ _ hx) (hE _ _ (fin_some h))
    · cases h
/-- pairs that all need one another have no end -/
theorem stuck {f : Int → Int → Option Act} {E : Ends} (hE : Sound f E) {U : Int × Int → Prop} (hU : ∀ l r, U (l, r) → ∃ k, settleF (f l r) E l r = (none, some k) ∧ U k) {l r e : Int} (h : Ev f l r e) : ¬ U (l, r) := by
  induction h with
  | plain h =>
    intro u
    obtain ⟨k, h1, _⟩ := hU _ _ u
    unfold settleF at h1
    rw [h] at h1
    cases h1
  | left h hp k ih =>
    intro u
    obtain ⟨n, h1, h2⟩ := hU _ _ u
    unfold settleF at h1
    rw [hp, h] at h1
    dsimp only at h1
    rw [if_pos rfl] at h1
    cases (fin_none h1).1
    exact ih h2
  | right h hp h3 k ih =>
    intro u
    obtain ⟨n, h1, h2⟩ := hU _ _ u
    unfold settleF at h1
    rw [hp, h] at h1
    dsimp only at h1
    rw [if_neg (by decide), if_pos h3] at h1
    cases (fin_none h1).1
    exact ih h2
  | @both l r c v x e ls h hp h3 k k2 ih1 ih2 =>
    intro u
    obtain ⟨n, h1, h2⟩ := hU _ _ u
    unfold settleF at h1
    rw [hp, h] at h1
    dsimp only at h1
    rw [if_neg (by decide), if_neg h3] at h1
    cases hx : lookE E (l, c) with
    | none =>
      rw [hx] at h1
      cases h1
      exact ih1 h2
    | some y =>
      rw [hx] at h1
      cases (hE _ _ hx).same k
      cases (fin_none h1).1
      exact ih2 h2
theorem look_map (k : Int × Int) (v : Int) (k' : Int × Int) : ∀ E : Ends, lookE (E.map fun e => if e.1 = k then (e.1, v) else e) k' = if k' = k then (lookE E k').map (fun _ => v) else lookE E k'
  | [] => by
    show none = if k' = k then none else none
    split <;> rfl
  | e :: E => by
    have ih := look_map k v k' E
    unfold lookE at ih ⊢
    rw [List.map_cons, List.find?_cons, List.find?_cons]
    have e1 : (if e.1 = k then (e.1, v) else e).1 = e.1 := by split <;> rfl
    rw [e1]
    by_cases h : e.1 = k'
    · rw [decide_eq_true h]
      dsimp only
      by_cases h2 : k' = k
      · rw [if_pos h2, if_pos (h.trans h2)]
        rfl
      · rw [if_neg h2, if_neg (fun z => h2 (h.symm.trans z))]
    · rw [decide_eq_false h]
      exact ih
theorem look_app (k : Int × Int) (v : Int) (k' : Int × Int) : ∀ E : Ends, lookE E k = none → lookE (E ++ [(k, v)]) k' = if k' = k then some v else lookE E k'
  | [], _ => by
    unfold lookE
    rw [List.nil_append, List.find?_cons]
    by_cases h : k' = k
    · rw [decide_eq_true h.symm, if_pos h]
      rfl
    · rw [decide_eq_false (fun z => h z.symm), if_neg h]
  | e :: E, h0 => by
    unfold lookE at h0
    rw [List.find?_cons] at h0
    by_cases h1 : e.1 = k
    · rw [decide_eq_true h1] at h0
      cases h0
    · rw [decide_eq_false h1] at h0
      have ih := look_app k v k' E h0
      unfold lookE at ih ⊢
      rw [List.cons_append, List.find?_cons, List.find?_cons]
      by_cases h : e.1 = k'
      · rw [decide_eq_true h]
        rw [if_neg (fun z => h1 (h.trans z))]
      · rw [decide_eq_false h]
        exact ih
theorem look_put (E : Ends) (k : Int × Int) (v : Int) (k' : Int × Int) : lookE (putE E k v) k' = if k' = k then some v else lookE E k' := by
  unfold putE
  by_cases h : (lookE E k).isSome = true
  · rw [if_pos h, look_map]
    by_cases h2 : k' = k
    · rw [if_pos h2, if_pos h2, h2]
      obtain ⟨x, hx⟩ := Option.isSome_iff_exists.mp h
      rw [hx]
      rfl
    · rw [if_neg h2, if_neg h2]
  · rw [if_neg h]
    exact look_app k v k' E (by simpa using h)
theorem Sound.put {f : Int → Int → Option Act} {E : Ends} (h : Sound f E) {k : Int × Int} {v : Int} (hv : Ev f k.1 k.2 v) : Sound f (putE E k v) := fun k' x hx => by
  rw [look_put] at hx
  by_cases e : k' = k
  · rw [if_pos e] at hx
    cases hx
    rw [e]
    exact hv
  · rw [if_neg e] at hx
    exact h k' x hx
theorem sound_nil (f : Int → Int → Option Act) : Sound f [] := fun _ _ h => nomatch h
/-- the pairs that are known, a dict -/
def encK (k : Int × Int) : List Int × D := ([k.1, k.2], .bl true)
theorem look_known (a b : Int) : ∀ K : List (Int × Int), lookT (K.map encK) [.num a, .num b] = if (a, b) ∈ K then some (.bl true) else none
  | [] => rfl
  | k :: K => by
    have ih := look_known a b K
    unfold lookT at ih ⊢
    rw [List.map_cons, List.find?_cons]
    have e : (encK k).1.map PySem.Leaf.num = [PySem.Leaf.num a, PySem.Leaf.num b] ↔ k = (a, b) := by
      unfold encK
      simp only [List.map_cons, List.map_nil, List.cons.injEq, PySem.Leaf.num.injEq, and_true]
      exact ⟨fun h => Prod.ext h.1 h.2, fun h => by rw [h]; exact ⟨rfl, rfl⟩⟩
    by_cases h : k = (a, b)
    · rw [decide_eq_true (e.mpr h), if_pos (h ▸ List.mem_cons_self)]
      rfl
    · rw [decide_eq_false (fun z => h (e.mp z))]
      refine Eq.trans ih ?_
      by_cases m : (a, b) ∈ K
      · rw [if_pos m, if_pos (List.mem_cons_of_mem _ m)]
      · rw [if_neg m, if_neg (fun z => m ((List.mem_cons.mp z).resolve_left (fun y => h y.symm)))]
theorem put_known {a b : Int} {K : List (Int × Int)} (h : (a, b) ∉ K) : putT (K.map encK) [a, b] (.bl true) = (K ++ [(a, b)]).map encK := by
  unfold putT
  rw [show ([a, b] : List Int).map PySem.Leaf.num = [.num a, .num b] from rfl, look_known, if_neg h, if_neg (by decide), List.map_append]
  rfl
theorem settle_need {a : Option Act} {E : Ends} {l r : Int} {n : Option (Int × Int)} (h : settleF a E l r = (none, n)) : ∃ k, n = some k := by
  unfold settleF at h
  split at h
  · cases h
  · rename_i hp
    split at h
    · split at h
      · exact ⟨_, (fin_none h).1⟩
      · split at h
        · exact ⟨_, (fin_none h).1⟩
        · split at h
          · cases h
            exact ⟨_, rfl⟩
          · exact ⟨_, (fin_none h).1⟩
    · rename_i hn
      cases a with
      | none => cases hp
      | some a =>
        cases a with
        | kern n => cases hp
        | lig c ls rs v => exact absurd rfl (hn c ls rs v)
theorem putE_len (E : Ends) (k : Int × Int) (v : Int) : (putE E k v).length ≤ E.length + 1 := by
  unfold putE
  split
  · rw [List.length_map]
    omega
  · rw [List.length_append]
    exact Nat.le_refl _
theorem scan_mem {r : Int} {a : Act} : ∀ {ss : List Stp}, scan ss r = some (some a) → ∃ s ∈ ss, s.act = a
  | [], h => nomatch h
  | s :: ss, h => by
    unfold scan at h
    split at h
    · cases h
      exact ⟨s, List.mem_cons_self, rfl⟩
    · split at h
      · cases h
      · obtain ⟨t, h1, h2⟩ := scan_mem h
        exact ⟨t, List.mem_cons_of_mem _ h1, h2⟩
theorem rule_mem {steps : List Stp} {l r : Int} {a : Act} : ∀ {labels : Labs}, ruleF steps labels l r = some a → ∃ s ∈ steps, s.act = a
  | [], h => nomatch h
  | (c, i) :: ls, h => by
    unfold ruleF at h
    split at h
    · split at h
      · rename_i z e
        subst h
        obtain ⟨s, h1, h2⟩ := scan_mem e
        exact ⟨s, List.mem_of_mem_drop h1, h2⟩
      · exact rule_mem h
    · exact rule_mem h
theorem look_none {k : Int × Int} : ∀ {E : Ends}, lookE E k = none ↔ k ∉ E.map (·.1)
  | [] => ⟨fun _ h => (nomatch h), fun _ => rfl⟩
  | e :: E => by
    have ih := look_none (k := k) (E := E)
    unfold lookE at ih ⊢
    rw [List.find?_cons, List.map_cons, List.mem_cons]
    by_cases h : e.1 = k
    · rw [decide_eq_true h]
      exact ⟨fun z => (nomatch z), fun z => (z (.inl h.symm)).elim⟩
    · rw [decide_eq_false h]
      exact ih.trans ⟨fun z y => y.elim (fun y => h y.symm) z, fun z y => z (.inr y)⟩
def addP (acc : List (Int × Int)) (k : Int × Int) : List (Int × Int) := if k ∈ acc then acc else acc ++ [k]
def walkT : List Stp → Int → List (Int × Int) → List (Int × Int)
  | [], _, acc => acc
  | s :: ss, c, acc => if s.last = true then addP acc (c, s.right) else walkT ss c (addP acc (c, s.right))
def ruledL (steps : List Stp) : Labs → List (Int × Int) → List (Int × Int)
  | [], acc => acc
  | (c, i) :: ls, acc => ruledL steps ls (walkT (steps.drop i) c acc)
theorem addP_len (acc : List (Int × Int)) (k : Int × Int) : (addP acc k).length ≤ acc.length + 1 := by
  unfold addP
  split
  · omega
  · rw [List.length_append]
    exact Nat.le_refl _
theorem deq_pr (a b : Int × Int) : deq (prI a) (prI b) = decide (a = b) := by
  have e : deq (prI a) (prI b) = (decide (a.1 = b.1) && (decide (a.2 = b.2) && true)) := rfl
  rw [e, Bool.and_true]
  by_cases h : a = b
  · subst h
    simp
  · rw [decide_eq_false h, Bool.and_eq_false_iff, decide_eq_false_iff_not, decide_eq_false_iff_not]
    by_cases h1 : a.1 = b.1
    · exact .inr fun h2 => h (Prod.ext h1 h2)
    · exact .inl h1
theorem eqn_pair (a : Int × Int) : EqN 1 (prI a) := eqn_tup fun d h => by
  simp only [List.mem_cons, List.not_mem_nil, or_false] at h
  rcases h with rfl | rfl <;> exact eqn_int _
theorem any_pr (k : Int × Int) : ∀ acc : List (Int × Int), ((acc.map prI).any fun z => deq z (prI k)) = decide (k ∈ acc)
  | [] => rfl
  | a :: acc => by
    rw [List.map_cons, List.any_cons, any_pr k acc, deq_pr]
    by_cases h : a = k
    · subst h
      rw [decide_eq_true rfl, Bool.true_or]
      exact (decide_eq_true List.mem_cons_self).symm
    · rw [decide_eq_false h, Bool.false_or]
      exact decide_eq_decide.mpr ⟨fun m => List.mem_cons_of_mem _ m, fun m => (List.mem_cons.mp m).resolve_left (fun z => h z.symm)⟩
theorem gin_pairs {G : Gp} {p : Addr} {acc : List (Int × Int)} {k : Int × Int} {Q : DK} (hp : G p = some (.lst (acc.map prI))) (h : Q (.bl (!decide (k ∈ acc))) G) : gIn true (prI k) (.ref p) G Q := by
  unfold gIn cv
  dsimp only
  rw [hp]
  dsimp only
  refine ⟨(eqn_pair k).ok, EqN.ok (eqn_lst (n := 1) fun d hd => ?_), ?_⟩
  · obtain ⟨a, _, rfl⟩ := List.mem_map.mp hd
    exact eqn_pair a
  · rw [any_pr, if_pos rfl]
    exact h
theorem addP_mem {acc : List (Int × Int)} {k x : Int × Int} : x ∈ addP acc k ↔ x ∈ acc ∨ x = k := by
  unfold addP
  split
  · rename_i h
    exact ⟨.inl, fun z => z.elim id fun e => e ▸ h⟩
  · rw [List.mem_append, List.mem_singleton]
theorem addP_nd {acc : List (Int × Int)} {k : Int × Int} (h : acc.Nodup) : (addP acc k).Nodup := by
  unfold addP
  split
  · exact h
  · rename_i hn
    refine List.nodup_append.mpr ⟨h, List.pairwise_singleton .., fun a ha b hb e => ?_⟩
    rw [List.mem_singleton] at hb
    exact hn (hb ▸ e ▸ ha)
theorem walkT_mem {c : Int} {x : Int × Int} : ∀ {ss : List Stp} {acc : List (Int × Int)}, x ∈ walkT ss c acc → x ∈ acc ∨ (x.1 = c ∧ ∃ s ∈ ss, x.2 = s.right)
  | [], acc, h => .inl h
  | s :: ss, acc, h => by
    have one : x ∈ addP acc (c, s.right) → x ∈ acc ∨ (x.1 = c ∧ ∃ s' ∈ s :: ss, x.2 = s'.right) := fun h => by
      rcases addP_mem.mp h with h | h
      · exact .inl h
      · rw [h]
        exact .inr ⟨rfl, s, List.mem_cons_self, rfl⟩
    unfold walkT at h
    split at h
    · exact one h
    · rcases walkT_mem h with h | ⟨h1, t, h2, h3⟩
      · exact one h
      · exact .inr ⟨h1, t, List.mem_cons_of_mem _ h2, h3⟩
theorem walkT_nd {c : Int} : ∀ {ss : List Stp} {acc : List (Int × Int)}, acc.Nodup → (walkT ss c acc).Nodup
  | [], _, h => h
  | s :: ss, acc, h => by
    unfold walkT
    split
    · exact addP_nd h
    · exact walkT_nd (addP_nd h)
theorem ruledL_mem {steps : List Stp} {x : Int × Int} : ∀ {labels : Labs} {acc : List (Int × Int)}, x ∈ ruledL steps labels acc → x ∈ acc ∨ ((∃ l ∈ labels, x.1 = l.1) ∧ ∃ s ∈ steps, x.2 = s.right)
  | [], acc, h => .inl h
  | (c, i) :: ls, acc, h => by
    unfold ruledL at h
    rcases ruledL_mem h with h | ⟨⟨l, h1, h2⟩, h3⟩
    · rcases walkT_mem h with h | ⟨h1, s, h2, h3⟩
      · exact .inl h
      · exact .inr ⟨⟨_, List.mem_cons_self, h1⟩, s, List.mem_of_mem_drop h2, h3⟩
    · exact .inr ⟨⟨l, List.mem_cons_of_mem _ h1, h2⟩, h3⟩
theorem ruledL_nd {steps : List Stp} : ∀ {labels : Labs} {acc : List (Int × Int)}, acc.Nodup → (ruledL steps labels acc).Nodup
  | [], _, h => h
  | (c, i) :: ls, acc, h => by
    unfold ruledL
    exact ruledL_nd (walkT_nd h)
/-- a character of a font for metrics: its code, its four metrics -/
structure Mch where
  code : Int
  mets : List Int
def mchD (c : Mch) : D := .tup [.int c.code, .int 0, .int 0, .tup [], .tup (c.mets.map .int)]
def fntF (x y z : D) : List (Str × D) := [("characters", x), ("steps", y), ("labels", z)]
def fntG (cs : List Mch) (ss ls : D) : GO := .ins "Font" (fntF (.tup (cs.map mchD)) ss ls)
theorem fn_c (x y z : D) : (fntF x y z).lookup (Str.ofString "characters") = some x := rfl
theorem fn_s (x y z : D) : (fntF x y z).lookup (Str.ofString "steps") = some y := rfl
theorem fn_l (x y z : D) : (fntF x y z).lookup (Str.ofString "labels") = some z := rfl
/-- what the metrics' methods want -/
structure MchOk (cs : List Mch) : Prop where
  n : cs.length ≤ 62
  m : ∀ c ∈ cs, c.mets.length = 4 ∧ ∀ v ∈ c.mets, 0 ≤ v ∧ v ≤ 1000000000000
def mvF (cs : List Mch) (k : Nat) : List Int := cs.map fun c => c.mets.getD k 0
def limM (k : Nat) : Int := [8, 4, 3, 2].getD k 0
theorem met_at {c : Mch} {k : Nat} (h : c.mets.length = 4) (hk : k < 4) : atI (c.mets.map D.int) (k : Int) = some (.int (c.mets.getD k 0)) := atI_nat (by
  rw [List.getElem?_map, List.getD_eq_getElem?_getD, List.getElem?_eq_getElem (by omega)]
  rfl)
theorem mv_ok {cs : List Mch} {k : Nat} (h : MchOk cs) (hk : k < 4) : (mvF cs k).length ≤ 62 ∧ ∀ v ∈ mvF cs k, 0 ≤ v ∧ v ≤ 1000000000000 := by
  unfold mvF
  refine ⟨by rw [List.length_map]; exact h.n, fun v hv => ?_⟩
  obtain ⟨c, hc, rfl⟩ := List.mem_map.mp hv
  obtain ⟨l, m⟩ := h.m c hc
  refine m _ ?_
  rw [List.getD_eq_getElem?_getD, List.getElem?_eq_getElem (by omega)]
  exact List.getElem_mem _
theorem lim_at {k : Nat} (hk : k < 4) : atI [D.int 8, D.int 4, D.int 3, D.int 2] (k : Int) = some (.int (limM k)) ∧ 1 ≤ limM k := by
  rcases (by omega : k = 0 ∨ k = 1 ∨ k = 2 ∨ k = 3) with rfl | rfl | rfl | rfl <;> exact ⟨rfl, by decide⟩
def sp_ascending : DSp := fun ds G Q _ => ∃ vs : List Int, ds = [.lst (vs.map .int)] ∧ vs.length ≤ 62 ∧ ∀ rest, AscOf vs rest → Q (.lst (rest.map .int)) G
def r_ascending : DTS := dRet (dSortScI (dItSeq (dVar 0)) (dgName 1) (dTest (dOp (gEq true) (dVar 1) (dC (.int 0)))) (dVar 1) [1])
theorem p_ascending (ds : List D) (G : Gp) (Q : DK) (E : DX) (h : sp_ascending ds G Q E) : ds.length = 1 ∧ r_ascending (fEnds Q E) (dstart 2 ds) G := by
  obtain ⟨vs, rfl, hl, q⟩ := h
  refine ⟨rfl, ?_⟩
  unfold r_ascending
  walk_at "dx"
  refine ⟨fun i => match vs[i]? with
    | some k => if k = 0 then none else some k
    | none => none, by show (vs.map D.int).length ≤ 62; rw [List.length_map]; exact hl, trivial, fun i x hi hx => ?_, fun out hs hm => dn_id (q out ⟨hs, fun k => ?_⟩)⟩
  · obtain ⟨k, ek, rfl⟩ := map_get (show (vs.map D.int)[i]? = some x from hx)
    walk_at "dx"
    rw [ek]
    dsimp only
    by_cases h : k = 0
    · rw [if_neg (fun z => z h), if_pos h]
    · rw [if_pos h, if_neg h]
      exact ⟨_, rfl, rfl⟩
  · rw [hm]
    constructor
    · rintro ⟨i, hi, e⟩
      dsimp only at e
      cases h : vs[i]? with
      | none => rw [h] at e; cases e
      | some v =>
        rw [h] at e
        dsimp only at e
        split at e
        · cases e
        · cases e
          exact ⟨List.mem_of_getElem? h, by assumption⟩
    · rintro ⟨hk, h0⟩
      obtain ⟨i, hi, e⟩ := List.mem_iff_getElem.mp hk
      refine ⟨i, by show i < (vs.map D.int).length; rw [List.length_map]; exact hi, ?_⟩
      dsimp only
      rw [List.getElem?_eq_getElem hi, e]
      dsimp only
      rw [if_neg h0]
def sp_groups : DSp := fun ds G Q _ => ∃ (vs : List Int) (e : Int), ds = [.lst (vs.map .int), .int e] ∧ vs.length ≤ 62 ∧ ∀ rest, AscOf vs rest → Q (.lst ((grd e rest).reverse.map pt)) G
def r_groups_1b_0t : DTS := dAsg (dTup (dCons (dOp gIx (dOp gIx (dVar 2) (dNeg (dC (.int 1)))) (dC (.int 0))) (dCons (dVar 3) (dNil)))) (dgSub (dVar 2) (dNeg (dC (.int 1))))
def r_groups_1b_0e : DTS := dDrop (dBM dmAppend (dVar 2) (dCons (dTup (dCons (dVar 3) (dCons (dVar 3) (dNil)))) (dNil)))
def r_groups_1b : DTS := dIfS (dAnd (dTest (dOp gGt (dCB (g1 gLen) (dCons (dVar 2) (dNil))) (dC (.int 0)))) (dTest (dOp gLe (dVar 3) (dOp gAdd (dOp gIx (dOp gIx (dVar 2) (dNeg (dC (.int 1)))) (dC (.int 0))) (dVar 1))))) (r_groups_1b_0t) (r_groups_1b_0e)
def r_groups_2 : DTS := dRet (dFrz (dVar 2))
def r_groups_1 : DTS := dSeq (dFor (dItSeq (dCall sp_ascending (dCons (dVar 0) (dNil)))) (dgName 3) (r_groups_1b)) (r_groups_2)
def r_groups : DTS := dSeq (dSet 2 (dLstM (dNil))) (r_groups_1)
theorem gst_len (e : Int) (acc : List (Int × Int)) (v : Int) : (gst e acc v).length ≤ acc.length + 1 := by
  cases acc with
  | nil => exact Nat.le_refl _
  | cons p r =>
    show (if v ≤ p.1 + e then (p.1, v) :: r else (v, v) :: p :: r).length ≤ _
    split <;> simp only [List.length_cons] <;> omega
theorem p_groups (ds : List D) (G : Gp) (Q : DK) (E : DX) (h : sp_groups ds G Q E) : ds.length = 2 ∧ r_groups (fEnds Q E) (dstart 4 ds) G := by
  obtain ⟨vs, e, rfl, hl, q⟩ := h
  refine ⟨rfl, ?_⟩
  unfold r_groups r_groups_1
  walk_at "dx"
  intro a ha
  refine ⟨vs, rfl, hl, fun rest hr => ?_⟩
  have few : rest.length ≤ 62 := by
    have := Dl.nodup_len rest vs (hr.1.imp fun h => by omega) fun k hk => ((hr.2 k).mp hk).1
    omega
  refine for_lst (fun i s' G' => ∃ (acc : List Pt) (s3 : Option D), acc = grd e (rest.take i) ∧ acc.length ≤ i ∧ G' = gupd G a (.lst (acc.reverse.map pt)) ∧ s' = [some (.lst (vs.map .int)), some (.int e), some (.ref a), s3]) ⟨[], _, rfl, Nat.le_refl _, rfl, rfl⟩ ?_ ?_
  · rintro i d s' G' ed ⟨acc, s3, hacc, hlen, rfl, rfl⟩
    obtain ⟨v, ev, rfl⟩ := map_get ed
    have i62 := (List.getElem?_eq_some_iff.mp ev).1
    have nw : gst e acc v = grd e (rest.take (i + 1)) := by rw [take_succ' ev, grd_push, hacc]
    have lw := gst_len e acc v
    unfold r_groups_1b r_groups_1b_0t r_groups_1b_0e
    walk_at "dx"
    have app : ∃ (acc' : List Pt) (s3' : Option D), acc' = grd e (rest.take (i + 1)) ∧ acc'.length ≤ i + 1 ∧ gupd G a (.lst (acc.reverse.map pt ++ [.tup [.int v, .int v]])) = gupd G a (.lst (acc'.reverse.map pt)) ∧ [some (.lst (vs.map .int)), some (.int e), some (.ref a), some (.int v)] = [some (.lst (vs.map D.int)), some (.int e), some (.ref a), s3'] ∨ gst e acc v ≠ (v, v) :: acc := by
      by_cases c : gst e acc v = (v, v) :: acc
      · refine ⟨_, _, .inl ⟨nw, by omega, ?_, rfl⟩⟩
        rw [c, List.reverse_cons, List.map_append]
        rfl
      · exact ⟨[], none, .inr c⟩
    have sz : (acc.reverse.map pt).length < sizeLine := size_lt (by rw [List.length_map, List.length_reverse]; omega)
    match acc, hlen, nw, lw, app, sz with
    | [], hlen, nw, lw, app, sz =>
      rw [if_neg (by decide)]
      obtain ⟨a', s', h | h⟩ := app
      · exact ⟨sz, a', s', h⟩
      · exact absurd rfl h
    | (x, y) :: r, hlen, nw, lw, app, sz =>
      rw [if_pos (by rw [List.length_map, List.length_reverse, List.length_cons]; omega), at_last rfl]
      unfold pt at *
      walk_at "dx"
      by_cases c : v ≤ x + e
      · rw [if_pos c]
        have al := at_last (acc := (x, y) :: r) (p := (x, y)) rfl
        unfold pt at al
        rw [al]
        walk_at "dx"
        obtain ⟨j, ej, es⟩ := set_last (acc := (x, y) :: r) rfl (x, v)
        unfold pt at ej es
        rw [ej]
        dsimp only
        refine ⟨_, _, nw, by omega, ?_, rfl⟩
        rw [es]
        show _ = gupd G a (.lst (((if v ≤ x + e then (x, v) :: r else (v, v) :: (x, y) :: r) : List Pt).reverse.map _))
        rw [if_pos c]
      · rw [if_neg c]
        obtain ⟨a', s', h | h⟩ := app
        · exact ⟨sz, a', s', h⟩
        · exact absurd (show (if v ≤ x + e then (x, v) :: r else (v, v) :: (x, y) :: r) = _ from if_neg c) h
  · rintro s' G' ⟨acc, s3, hacc, hlen, rfl, rfl⟩
    rw [List.length_map, List.take_length] at hacc
    unfold r_groups_2
    walk_at "dx"
    rw [gdel_free ha, hacc]
    exact dn_id (q rest hr)
def sp_least_tolerance : DSp := fun ds G Q _ => ∃ (vs : List Int) (lim : Int), ds = [.lst (vs.map .int), .int lim] ∧ vs.length ≤ 62 ∧ (∀ v ∈ vs, 0 ≤ v ∧ v ≤ 1000000000000) ∧ 1 ≤ lim ∧ ∀ rest t, AscOf vs rest → LeastT rest lim t → Q (.int t) G
def r_least_tolerance_1t : DTS := dRet (dC (.int 0))
def r_least_tolerance_4b_1t : DTS := dSet 4 (dVar 5)
def r_least_tolerance_4b_1e : DTS := dSet 3 (dOp gAdd (dVar 5) (dC (.int 1)))
def r_least_tolerance_4b_1 : DTS := dIfS (dTest (dOp gLe (dCB (g1 gLen) (dCons (dCall sp_groups (dCons (dVar 2) (dCons (dVar 5) (dNil)))) (dNil))) (dVar 1))) (r_least_tolerance_4b_1t) (r_least_tolerance_4b_1e)
def r_least_tolerance_4b : DTS := dSeq (dSet 5 (dOp gDiv (dOp gAdd (dVar 3) (dVar 4)) (dC (.int 2)))) (r_least_tolerance_4b_1)
def r_least_tolerance_5 : DTS := dRet (dVar 3)
def r_least_tolerance_4 : DTS := dSeq (dWhile (dTest (dOp gLt (dVar 3) (dVar 4))) (r_least_tolerance_4b)) (r_least_tolerance_5)
def r_least_tolerance_3 : DTS := dSeq (dSet 4 (dOp gSub (dOp gIx (dVar 2) (dNeg (dC (.int 1)))) (dOp gIx (dVar 2) (dC (.int 0))))) (r_least_tolerance_4)
def r_least_tolerance_2 : DTS := dSeq (dSet 3 (dC (.int 0))) (r_least_tolerance_3)
def r_least_tolerance_1 : DTS := dSeq (dIfS (dTest (dOp (gEq false) (dCB (g1 gLen) (dCons (dVar 2) (dNil))) (dC (.int 0)))) (r_least_tolerance_1t) (dNext)) (r_least_tolerance_2)
def r_least_tolerance : DTS := dSeq (dSet 2 (dCall sp_ascending (dCons (dVar 0) (dNil)))) (r_least_tolerance_1)
theorem asc_self {vs rest : List Int} (h : AscOf vs rest) : AscOf rest rest := ⟨h.1, fun k => ⟨fun z => ⟨z, ((h.2 k).mp z).2⟩, fun z => z.1⟩⟩
theorem p_least_tolerance (ds : List D) (G : Gp) (Q : DK) (E : DX) (h : sp_least_tolerance ds G Q E) : ds.length = 2 ∧ r_least_tolerance (fEnds Q E) (dstart 6 ds) G := by
  obtain ⟨vs, lim, rfl, hl, hB, hlim, q⟩ := h
  refine ⟨rfl, ?_⟩
  unfold r_least_tolerance r_least_tolerance_1 r_least_tolerance_1t
  walk_at "dx"
  refine ⟨vs, rfl, hl, fun rest hr => ?_⟩
  have few : rest.length ≤ 62 := by
    have := Dl.nodup_len rest vs (hr.1.imp fun h => by omega) fun k hk => ((hr.2 k).mp hk).1
    omega
  have rB : ∀ v ∈ rest, 0 ≤ v ∧ v ≤ 1000000000000 := fun v hv => hB v ((hr.2 v).mp hv).1
  cases rest with
  | nil =>
    walk_at "dx"
    exact dn_id (q [] 0 hr ⟨by decide, by decide, by show ((0 : Nat) : Int) ≤ lim; omega, .inl rfl⟩)
  | cons x r =>
    walk_at "dx"
    rw [if_neg (by rw [List.length_map]; omega)]
    unfold r_least_tolerance_2 r_least_tolerance_3
    walk_at "dx"
    have eL : atI (.int x :: r.map D.int) (-1) = some (.int ((x :: r).getLast (List.cons_ne_nil _ _))) := by
      refine at_end (by rw [List.length_cons]; omega) ?_
      rw [← List.getLast?_eq_getElem?]
      show ((x :: r).map D.int).getLast? = _
      rw [List.getLast?_map, List.getLast?_eq_some_getLast (List.cons_ne_nil _ _)]
      rfl
    rw [eL]
    have lastm := List.getLast_mem (l := x :: r) (List.cons_ne_nil _ _)
    have top : ∀ v ∈ x :: r, v ≤ (x :: r).getLast (List.cons_ne_nil _ _) := fun v hv => by
      have e := List.dropLast_concat_getLast (l := x :: r) (List.cons_ne_nil _ _)
      have s := hr.1
      rw [← e] at hv s
      rcases List.mem_append.mp hv with z | z
      · exact Int.le_of_lt ((List.pairwise_append.mp s).2.2 v z _ (List.mem_singleton.mpr rfl))
      · rw [List.mem_singleton.mp z]
        exact Int.le_refl _
    have low : ∀ v ∈ x :: r, x ≤ v := fun v hv => by
      rcases List.mem_cons.mp hv with z | z
      · rw [z]; exact Int.le_refl _
      · exact Int.le_of_lt ((List.pairwise_cons.mp hr.1).1 v z)
    generalize (x :: r).getLast (List.cons_ne_nil _ _) = w at lastm top
    have hxw := top x List.mem_cons_self
    have hx := rB x List.mem_cons_self
    have hw := rB w lastm
    walk_at "dx"
    unfold r_least_tolerance_4
    walk_at "dx"
    refine ⟨fun m s' G' => ∃ (lo hi : Int) (s5 : Option D), m = (hi - lo).toNat ∧ G' = G ∧ s' = [some (.lst (vs.map .int)), some (.int lim), some (.lst ((x :: r).map .int)), some (.int lo), some (.int hi), s5] ∧ 0 ≤ lo ∧ lo ≤ hi ∧ hi ≤ w - x ∧ ((grd hi (x :: r)).length : Int) ≤ lim ∧ (lo = 0 ∨ lim < ((grd (lo - 1) (x :: r)).length : Int)), ⟨_, 0, w - x, _, rfl, rfl, rfl, by omega, by omega, by omega, ?_, .inl rfl⟩, ?_⟩
    · have := grd_one (e := w - x) (by omega) hr.1 fun a ha b hb => by
        have := low a ha
        have := top b hb
        omega
      omega
    · rintro m s' G' ⟨lo, hi, s5, rfl, rfl, rfl, h1, h2, h3, h4, h5⟩
      walk_at "dx"
      by_cases c : lo < hi
      · rw [if_pos c]
        unfold r_least_tolerance_4b r_least_tolerance_4b_1 r_least_tolerance_4b_1t r_least_tolerance_4b_1e
        walk_at "dx"
        refine ⟨cdiv_s (by decide) (by decide), x :: r, _, rfl, few, fun rest' hr' => ?_⟩
        rw [asc_uniq hr'.1 (asc_self hr).1 fun k => (hr'.2 k).trans ((asc_self hr).2 k).symm]
        walk_at "dx"
        rw [List.length_map, List.length_reverse]
        by_cases c2 : ((grd ((lo + hi) / 2) (x :: r)).length : Int) ≤ lim
        · rw [if_pos c2]
          exact ⟨_, by omega, lo, (lo + hi) / 2, _, rfl, rfl, h1, by omega, by omega, c2, h5⟩
        · rw [if_neg c2]
          refine ⟨_, by omega, (lo + hi) / 2 + 1, hi, _, rfl, rfl, by omega, by omega, h3, h4, .inr ?_⟩
          rw [show (lo + hi) / 2 + 1 - 1 = (lo + hi) / 2 by omega]
          omega
      · rw [if_neg c]
        have e : lo = hi := by omega
        subst e
        unfold r_least_tolerance_5
        walk_at "dx"
        exact dn_id (q (x :: r) lo hr ⟨h1, by omega, h4, h5⟩)

def sp_table : DSp := fun ds G Q _ => ∃ (vs : List Int) (lim : Int), ds = [.lst (vs.map .int), .int lim] ∧ vs.length ≤ 62 ∧ (∀ v ∈ vs, 0 ≤ v ∧ v ≤ 1000000000000) ∧ 1 ≤ lim ∧ ∀ rest t, AscOf vs rest → LeastT rest lim t → Q (.lst ((0 :: mids (grd t rest).reverse).map .int)) G
def r_table_1 : DTS := dRet (dOp gAdd (dLst (dCons (dC (.int 0)) (dNil))) (dLc (dItSeq (dCall sp_groups (dCons (dVar 0) (dCons (dVar 2) (dNil))))) (dgTup 2 (dgCons (dgName 3) (dgCons (dgName 4) (dgNil)))) (dYes) (dOp gDiv (dOp gAdd (dVar 3) (dVar 4)) (dC (.int 2))) [3, 4]))
def r_table : DTS := dSeq (dSet 2 (dCall sp_least_tolerance (dCons (dVar 0) (dCons (dVar 1) (dNil))))) (r_table_1)
theorem p_table (ds : List D) (G : Gp) (Q : DK) (E : DX) (h : sp_table ds G Q E) : ds.length = 2 ∧ r_table (fEnds Q E) (dstart 5 ds) G := by
  obtain ⟨vs, lim, rfl, hl, hB, hlim, q⟩ := h
  refine ⟨rfl, ?_⟩
  unfold r_table r_table_1
  walk_at "dx"
  refine ⟨vs, lim, rfl, hl, hB, hlim, fun rest t hr ht => ?_⟩
  walk_at "dx"
  refine ⟨vs, t, rfl, hl, fun rest' hr' => ?_⟩
  rw [asc_uniq hr'.1 hr.1 fun k => (hr'.2 k).trans (hr.2 k).symm]
  have g := grps_of ht.1 hr hl hB
  have q' := q rest t hr ht
  generalize (grd t rest).reverse = acc at g q'
  intro p hp
  refine lc_lst (fun i a => a = (mids (acc.take i)).map .int) (by rw [List.take_zero]; rfl) ?_ ?_
  · rintro j x a ej hl' rfl
    obtain ⟨u, eu, rfl⟩ := map_get ej
    have j1 := (List.getElem?_eq_some_iff.mp eu).1
    have := g.len
    unfold pt
    walk_at "dx"
    refine ⟨cdiv_s (by decide) (by decide), lc_push' hl' (by omega) ?_⟩
    unfold mids
    rw [take_succ' eu, List.map_append, List.map_append]
    rfl
  · rintro a hl' rfl
    rw [show (acc.map pt).length = acc.length from List.length_map .., List.take_length, gdel_gupd hp]
    have := g.len
    refine ⟨size_le (by unfold mids; rw [List.length_map, List.length_map]; show 1 + _ ≤ _; omega), dn_id q'⟩
def sp_table_value : DSp := fun ds G Q _ => ∃ (vs : List Int) (lim v : Int), ds = [.lst (vs.map .int), .int lim, .int v] ∧ vs.length ≤ 62 ∧ (∀ v ∈ vs, 0 ≤ v ∧ v ≤ 1000000000000) ∧ 1 ≤ lim ∧ ∀ rest t, AscOf vs rest → LeastT rest lim t → Q (.int (tval (grd t rest).reverse v)) G
def r_table_value_1b_0t : DTS := dRet (dOp gDiv (dOp gAdd (dVar 4) (dVar 5)) (dC (.int 2)))
def r_table_value_1b : DTS := dIfS (dTest (dChain gLe gLe (dVar 4) (dVar 2) (dVar 5))) (r_table_value_1b_0t) (dNext)
def r_table_value_2 : DTS := dRet (dC (.int 0))
def r_table_value_1 : DTS := dSeq (dFor (dItSeq (dCall sp_groups (dCons (dVar 0) (dCons (dVar 3) (dNil))))) (dgTup 2 (dgCons (dgName 4) (dgCons (dgName 5) (dgNil)))) (r_table_value_1b)) (r_table_value_2)
def r_table_value : DTS := dSeq (dSet 3 (dCall sp_least_tolerance (dCons (dVar 0) (dCons (dVar 1) (dNil))))) (r_table_value_1)
theorem find_take {acc : List Pt} {v : Int} {i : Nat} {p : Pt} (e : acc[i]? = some p) (hn : ∀ q ∈ acc.take i, ¬ (q.1 ≤ v ∧ v ≤ q.2)) (h : p.1 ≤ v ∧ v ≤ p.2) : tval acc v = (p.1 + p.2) / 2 := by
  unfold tval
  have z : acc = acc.take i ++ p :: acc.drop (i + 1) := by
    obtain ⟨hi, e⟩ := List.getElem?_eq_some_iff.mp e
    rw [← e, ← List.drop_eq_getElem_cons hi, List.take_append_drop]
  rw [z, List.find?_append, List.find?_eq_none.mpr fun q hq => by rw [decide_eq_false (hn q hq)]; decide, Option.none_or, List.find?_cons, decide_eq_true h]
theorem p_table_value (ds : List D) (G : Gp) (Q : DK) (E : DX) (h : sp_table_value ds G Q E) : ds.length = 3 ∧ r_table_value (fEnds Q E) (dstart 6 ds) G := by
  obtain ⟨vs, lim, v, rfl, hl, hB, hlim, q⟩ := h
  refine ⟨rfl, ?_⟩
  unfold r_table_value r_table_value_1
  walk_at "dx"
  refine ⟨vs, lim, rfl, hl, hB, hlim, fun rest t hr ht => ?_⟩
  walk_at "dx"
  refine ⟨vs, t, rfl, hl, fun rest' hr' => ?_⟩
  rw [asc_uniq hr'.1 hr.1 fun k => (hr'.2 k).trans (hr.2 k).symm]
  have q' := q rest t hr ht
  generalize (grd t rest).reverse = acc at q'
  refine for_lst (fun i s' G' => G' = G ∧ (∀ q ∈ acc.take i, ¬ (q.1 ≤ v ∧ v ≤ q.2)) ∧ ∃ s4 s5, s' = [some (.lst (vs.map .int)), some (.int lim), some (.int v), some (.int t), s4, s5]) ⟨rfl, (fun q hq => by rw [List.take_zero] at hq; cases hq), _, _, rfl⟩ ?_ ?_
  · rintro i d s' G' ed ⟨rfl, hn, s4, s5, rfl⟩
    obtain ⟨p, ep, rfl⟩ := map_get ed
    have nx : ¬ (p.1 ≤ v ∧ v ≤ p.2) → ∀ q ∈ acc.take (i + 1), ¬ (q.1 ≤ v ∧ v ≤ q.2) := fun h q hq => by
      rw [take_succ' ep] at hq
      rcases List.mem_append.mp hq with z | z
      · exact hn q z
      · rw [List.mem_singleton.mp z]
        exact h
    unfold r_table_value_1b r_table_value_1b_0t pt
    walk_at "dx"
    by_cases c1 : p.1 ≤ v
    · rw [if_pos c1]
      by_cases c2 : v ≤ p.2
      · rw [if_pos c2]
        refine ⟨cdiv_s (by decide) (by decide), ?_⟩
        rw [find_take ep hn ⟨c1, c2⟩] at q'
        exact dn_id q'
      · rw [if_neg c2]
        exact ⟨nx fun z => c2 z.2, _, _, rfl⟩
    · rw [if_neg c1]
      exact ⟨nx fun z => c1 z.1, _, _, rfl⟩
  · rintro s' G' ⟨rfl, hn, s4, s5, rfl⟩
    rw [List.length_map, List.take_length] at hn
    unfold r_table_value_2
    walk_at "dx"
    have : tval acc v = 0 := by
      unfold tval
      rw [List.find?_eq_none.mpr fun q hq => by rw [decide_eq_false (hn q hq)]; decide]
    rw [this] at q'
    exact dn_id q'

def sp_rule : DSp := fun ds G Q _ => ∃ (steps : List Stp) (labels : List (Int × Nat)) (left right : Int), ds = [.tup (steps.map stpD), .tup (labels.map labD), .int left, .int right] ∧ Q (oactD (ruleF steps labels left right)) G
def r_rule_0b_0t_0b_0t : DTS := dRet (dOp gIx (dVar 6) (dC (.int 1)))
def r_rule_0b_0t_0b_1t : DTS := dRet (dC .non)
def r_rule_0b_0t_0b_1 : DTS := dIfS (dTru (dOp gIx (dVar 6) (dC (.int 2)))) (r_rule_0b_0t_0b_1t) (dNext)
def r_rule_0b_0t_0b : DTS := dSeq (dIfS (dTest (dOp (gEq false) (dOp gIx (dVar 6) (dC (.int 0))) (dVar 3))) (r_rule_0b_0t_0b_0t) (dNext)) (r_rule_0b_0t_0b_1)
def r_rule_0b_0t : DTS := dFor (dItSeq (dSl gSl (dVar 0) (dPart (dVar 5)) (dNoPart))) (dgName 6) (r_rule_0b_0t_0b)
def r_rule_0b : DTS := dIfS (dTest (dOp (gEq false) (dVar 4) (dVar 2))) (r_rule_0b_0t) (dNext)
def r_rule_1 : DTS := dRet (dC .non)
def r_rule : DTS := dSeq (dFor (dItSeq (dVar 1)) (dgTup 2 (dgCons (dgName 4) (dgCons (dgName 5) (dgNil)))) (r_rule_0b)) (r_rule_1)
theorem p_rule (ds : List D) (G : Gp) (Q : DK) (E : DX) (h : sp_rule ds G Q E) : ds.length = 4 ∧ r_rule (fEnds Q E) (dstart 7 ds) G := by
  obtain ⟨steps, labels, left, right, rfl, q⟩ := h
  refine ⟨rfl, ?_⟩
  unfold r_rule
  walk_at "dx"
  refine for_lst (fun i s' G' => G' = G ∧ ruleF steps labels left right = ruleF steps (labels.drop i) left right ∧ ∃ s4 s5 s6, s' = [some (.tup (steps.map stpD)), some (.tup (labels.map labD)), some (.int left), some (.int right), s4, s5, s6]) ⟨rfl, rfl, _, _, _, rfl⟩ ?_ ?_
  · rintro i x s' G' hx ⟨rfl, e, s4, s5, s6, rfl⟩
    obtain ⟨⟨c, k⟩, hl, rfl⟩ := map_get hx
    rw [drop_at hl, show ruleF steps ((c, k) :: labels.drop (i + 1)) left right = (if c = left then (match scan (steps.drop k) right with
      | some r => r
      | none => ruleF steps (labels.drop (i + 1)) left right) else ruleF steps (labels.drop (i + 1)) left right) from rfl] at e
    unfold labD r_rule_0b
    walk_at "dx"
    by_cases hc : c = left
    · rw [if_pos hc] at e
      rw [if_pos hc]
      unfold r_rule_0b_0t
      walk_at "dx"
      rw [cut_lo _ (by omega), Int.toNat_natCast, ← List.map_drop]
      generalize steps.drop k = ss at e
      refine for_lst (fun j s' G'' => G'' = G' ∧ scan ss right = scan (ss.drop j) right ∧ ∃ s6, s' = [some (.tup (steps.map stpD)), some (.tup (labels.map labD)), some (.int left), some (.int right), some (.int c), some (.int (k : Nat)), s6]) ⟨rfl, rfl, _, rfl⟩ ?_ ?_
      · rintro j x s' G'' hx ⟨rfl, e2, s6, rfl⟩
        obtain ⟨t, ht, rfl⟩ := map_get hx
        rw [drop_at ht, show scan (t :: ss.drop (j + 1)) right = (if t.right = right then some (some t.act) else if t.last = true then some none else scan (ss.drop (j + 1)) right) from rfl] at e2
        unfold stpD r_rule_0b_0t_0b r_rule_0b_0t_0b_0t
        walk_at "dx"
        by_cases hr : t.right = right
        · rw [if_pos hr] at e2 ⊢
          rw [e2] at e
          rw [e] at q
          exact dn_id q
        · rw [if_neg hr] at e2 ⊢
          unfold r_rule_0b_0t_0b_1 r_rule_0b_0t_0b_1t
          walk_at "dx"
          by_cases ht : t.last = true
          · rw [if_pos ht] at e2 ⊢
            rw [e2] at e
            rw [e] at q
            exact dn_id q
          · rw [if_neg ht] at e2 ⊢
            exact ⟨e2, _, rfl⟩
      · rintro s' G'' ⟨rfl, e2, s6, rfl⟩
        rw [List.length_map, List.drop_length] at e2
        rw [e2] at e
        exact ⟨rfl, e, _, _, _, rfl⟩
    · rw [if_neg hc] at e ⊢
      exact ⟨e, _, _, _, rfl⟩
  · rintro s' G' ⟨rfl, e, s4, s5, s6, rfl⟩
    rw [List.length_map, List.drop_length] at e
    rw [e] at q
    unfold r_rule_1
    walk_at "dx"
    exact dn_id q
def sp_plain_end : DSp := fun ds G Q _ => ∃ (a : Option Act) (right : Int), ds = [oactD a, .int right] ∧ Q (oint (plainF a right)) G
def r_plain_end_0t : DTS := dRet (dVar 1)
def r_plain_end_2t : DTS := dRet (dVar 3)
def r_plain_end_3t : DTS := dRet (dVar 1)
def r_plain_end_4 : DTS := dRet (dC .non)
def r_plain_end_3 : DTS := dSeq (dIfS (dOr (dTest (dOp (gEq false) (dVar 6) (dC (.int 2)))) (dAnd (dTru (dVar 5)) (dAnd (dNot (dTru (dVar 4))) (dTest (dOp (gEq false) (dVar 6) (dC (.int 1))))))) (r_plain_end_3t) (dNext)) (r_plain_end_4)
def r_plain_end_2 : DTS := dSeq (dIfS (dAnd (dNot (dTru (dVar 5))) (dOr (dNot (dTru (dVar 4))) (dTest (dOp (gEq false) (dVar 6) (dC (.int 1)))))) (r_plain_end_2t) (dNext)) (r_plain_end_3)
def r_plain_end_1 : DTS := dSeq (dAsg (dVar 0) (dgTup 5 (dgCons (dgName 2) (dgCons (dgName 3) (dgCons (dgName 4) (dgCons (dgName 5) (dgCons (dgName 6) (dgNil)))))))) (r_plain_end_2)
def r_plain_end : DTS := dSeq (dIfS (dOr (dTest (dIsN false (dVar 0))) (dTest (dOp (gEq false) (dOp gIx (dVar 0) (dC (.int 0))) (dC (.str "kern"))))) (r_plain_end_0t) (dNext)) (r_plain_end_1)
theorem p_plain_end (ds : List D) (G : Gp) (Q : DK) (E : DX) (h : sp_plain_end ds G Q E) : ds.length = 2 ∧ r_plain_end (fEnds Q E) (dstart 7 ds) G := by
  obtain ⟨a, right, rfl, q⟩ := h
  refine ⟨rfl, ?_⟩
  unfold plainF at q
  cases a with
  | none =>
    unfold r_plain_end r_plain_end_0t oactD
    walk_at "dx"
    exact dn_id q
  | some a =>
    cases a with
    | kern n =>
      unfold r_plain_end r_plain_end_0t oactD actD
      walk_at "dx"
      exact kern_kern (dn_id q)
    | lig c l r v =>
      unfold r_plain_end oactD actD
      walk_at "dx"
      refine lig_kern ?_
      unfold r_plain_end_1
      walk_at "dx"
      unfold r_plain_end_2 r_plain_end_2t r_plain_end_3 r_plain_end_3t r_plain_end_4
      walk_at "dx"
      dsimp only at q
      cases l <;> cases r <;> by_cases h1 : v = 1 <;> by_cases h2 : v = 2 <;> simp only [h1, h2, Bool.false_eq_true, Bool.true_eq_false, reduceCtorEq, if_true, if_false, true_and, and_true, false_and, and_false, or_true, true_or, or_false, false_or, Int.reduceEq] at q ⊢ <;> first | exact dn_id q | (exfalso; omega)
def sp_settle : DSp := fun ds G Q _ => ∃ (a : Option Act) (E : Ends) (p : Addr) (left right : Int), ds = [oactD a, .ref p, .int left, .int right] ∧ G p = some (.dt (E.map encE)) ∧ Q (.tup [oint (settleF a E left right).1, opr (settleF a E left right).2]) G
def r_settle_1t : DTS := dRet (dTup (dCons (dVar 4) (dCons (dC .non) (dNil))))
def r_settle_3t : DTS := dSet 10 (dTup (dCons (dVar 2) (dCons (dVar 6) (dNil))))
def r_settle_3e_0t : DTS := dSet 10 (dTup (dCons (dVar 6) (dCons (dVar 3) (dNil))))
def r_settle_3e_0e_0t : DTS := dRet (dTup (dCons (dC .non) (dCons (dTup (dCons (dVar 2) (dCons (dVar 6) (dNil)))) (dNil))))
def r_settle_3e_0e_1 : DTS := dSet 10 (dTup (dCons (dOp gDk (dVar 1) (dTup (dCons (dVar 2) (dCons (dVar 6) (dNil))))) (dCons (dVar 3) (dNil))))
def r_settle_3e_0e : DTS := dSeq (dIfS (dTest (dOp (gInD true) (dTup (dCons (dVar 2) (dCons (dVar 6) (dNil)))) (dVar 1))) (r_settle_3e_0e_0t) (dNext)) (r_settle_3e_0e_1)
def r_settle_3e : DTS := dIfS (dOr (dNot (dTru (dVar 7))) (dTest (dOp (gEq false) (dVar 9) (dC (.int 1))))) (r_settle_3e_0t) (r_settle_3e_0e)
def r_settle_4t : DTS := dRet (dTup (dCons (dOp gDk (dVar 1) (dVar 10)) (dCons (dC .non) (dNil))))
def r_settle_5 : DTS := dRet (dTup (dCons (dC .non) (dCons (dVar 10) (dNil))))
def r_settle_4 : DTS := dSeq (dIfS (dTest (dOp (gInD false) (dVar 10) (dVar 1))) (r_settle_4t) (dNext)) (r_settle_5)
def r_settle_3 : DTS := dSeq (dIfS (dNot (dTru (dVar 8))) (r_settle_3t) (r_settle_3e)) (r_settle_4)
def r_settle_2 : DTS := dSeq (dAsg (dVar 0) (dgTup 5 (dgCons (dgName 5) (dgCons (dgName 6) (dgCons (dgName 7) (dgCons (dgName 8) (dgCons (dgName 9) (dgNil)))))))) (r_settle_3)
def r_settle_1 : DTS := dSeq (dIfS (dTest (dIsN true (dVar 4))) (r_settle_1t) (dNext)) (r_settle_2)
def r_settle : DTS := dSeq (dSet 4 (dCall sp_plain_end (dCons (dVar 0) (dCons (dVar 3) (dNil))))) (r_settle_1)
theorem settle_4 {Q : DK} {X : DX} {G : Gp} {E : Ends} {p : Addr} {n : Int × Int} {s0 s2 s3 s4 s5 s6 s7 s8 s9 : Option D} (hp : G p = some (.dt (E.map encE))) (q : Q (.tup [oint (finF E n).1, opr (finF E n).2]) G) :
    r_settle_4 (fEnds Q X) [s0, some (.ref p), s2, s3, s4, s5, s6, s7, s8, s9, some (prI n)] G := by
  unfold r_settle_4 r_settle_4t r_settle_5 prI
  walk_at "dx"
  unfold finF at q
  rw [hp]
  dsimp only
  rw [look_enc]
  cases e : lookE E n with
  | none =>
    rw [e] at q
    exact dn_id q
  | some x =>
    rw [e] at q
    exact dn_id q
theorem p_settle (ds : List D) (G : Gp) (Q : DK) (E : DX) (h : sp_settle ds G Q E) : ds.length = 4 ∧ r_settle (fEnds Q E) (dstart 11 ds) G := by
  obtain ⟨a, T, p, left, right, rfl, hp, q⟩ := h
  refine ⟨rfl, ?_⟩
  unfold r_settle
  walk_at "dx"
  refine ⟨a, right, rfl, ?_⟩
  unfold settleF at q
  cases e : plainF a right with
  | some x =>
    rw [e] at q
    unfold r_settle_1 r_settle_1t oint
    walk_at "dx"
    exact dn_id q
  | none =>
    rw [e] at q
    unfold r_settle_1 r_settle_2 oint
    cases a with
    | none => exact nomatch e
    | some a =>
      cases a with
      | kern n => exact nomatch e
      | lig c l r v =>
        unfold oactD actD
        walk_at "dx"
        unfold r_settle_3 r_settle_3t r_settle_3e r_settle_3e_0t
        walk_at "dx"
        dsimp only at q
        cases r with
        | false =>
          simp only [if_true] at q ⊢
          exact settle_4 (n := (left, c)) hp q
        | true =>
          simp only [Bool.true_eq_false, if_false] at q ⊢
          by_cases h1 : l = false ∨ v = 1
          · rw [if_pos h1] at q
            have z := settle_4 (Q := Q) (X := E) (n := (c, right)) (s0 := some (.tup [.str "ligature", .int c, .bl l, .bl true, .int v])) (s2 := some (.int left)) (s3 := some (.int right)) (s4 := some .non) (s5 := some (.str "ligature")) (s6 := some (.int c)) (s7 := some (.bl l)) (s8 := some (.bl true)) (s9 := some (.int v)) hp q
            rcases h1 with h1 | h1
            · rw [if_pos h1]
              exact z
            · by_cases h2 : l = false
              · rw [if_pos h2]
                exact z
              · rw [if_neg h2, if_pos h1]
                exact z
          · rw [if_neg h1] at q
            have h2 : ¬ l = false := fun z => h1 (.inl z)
            have h3 : ¬ v = 1 := fun z => h1 (.inr z)
            rw [if_neg h2, if_neg h3]
            unfold r_settle_3e_0e r_settle_3e_0e_0t r_settle_3e_0e_1
            walk_at "dx"
            rw [hp]
            dsimp only
            rw [look_enc]
            cases e2 : lookE T (left, c) with
            | none =>
              rw [e2] at q
              exact dn_id q
            | some x =>
              rw [e2] at q
              exact settle_4 (n := (x, right)) hp q
/-- the dict of the ends of all pairs asked (and of those that they need) -/
def sp_settled_ends : DSp := fun ds G Q _ => ∃ (steps : List Stp) (labels : Labs) (ks : List (Int × Int)) (cs : List Int), ds = [.tup (steps.map stpD), .tup (labels.map labD), .lst (ks.map prI)] ∧ cs.length ≤ 100 ∧ ks.length ≤ 10000 ∧ ks.Nodup ∧ (∀ k ∈ ks, k.1 ∈ cs ∧ k.2 ∈ cs) ∧
  (∀ s ∈ steps, ∀ c l r v, s.act = .lig c l r v → c ∈ cs) ∧
  ∀ (E : Ends) (p : Addr), G p = none → Sound (ruleF steps labels) E → (∀ k ∈ ks, ∀ e, Ev (ruleF steps labels) k.1 k.2 e → lookE E k = some e) → Q (.ref p) (gupd G p (.dt (E.map encE)))
def r_settled_ends_4b_2b_1t_1 : DTS := dSet 7 (dC (.bl true))
def r_settled_ends_4b_2b_1t : DTS := dSeq (dAsg (dVar 11) (dgDk (dVar 3) (dTup (dCons (dVar 9) (dCons (dVar 10) (dNil)))))) (r_settled_ends_4b_2b_1t_1)
def r_settled_ends_4b_2b_1e_1t_2 : DTS := dSet 7 (dC (.bl true))
def r_settled_ends_4b_2b_1e_1t_1 : DTS := dSeq (dDrop (dBM dmAppend (dVar 8) (dCons (dVar 12) (dNil)))) (r_settled_ends_4b_2b_1e_1t_2)
def r_settled_ends_4b_2b_1e_1t : DTS := dSeq (dAsg (dC (.bl true)) (dgDk (dVar 5) (dVar 12))) (r_settled_ends_4b_2b_1e_1t_1)
def r_settled_ends_4b_2b_1e_1 : DTS := dIfS (dTest (dOp (gInD true) (dVar 12) (dVar 5))) (r_settled_ends_4b_2b_1e_1t) (dNext)
def r_settled_ends_4b_2b_1e : DTS := dSeq (dDrop (dBM dmAppend (dVar 8) (dCons (dTup (dCons (dVar 9) (dCons (dVar 10) (dNil)))) (dNil)))) (r_settled_ends_4b_2b_1e_1)
def r_settled_ends_4b_2b_1 : DTS := dIfS (dTest (dIsN true (dVar 11))) (r_settled_ends_4b_2b_1t) (r_settled_ends_4b_2b_1e)
def r_settled_ends_4b_2b : DTS := dSeq (dAsg (dCall sp_settle (dCons (dCall sp_rule (dCons (dVar 0) (dCons (dVar 1) (dCons (dVar 9) (dCons (dVar 10) (dNil)))))) (dCons (dVar 3) (dCons (dVar 9) (dCons (dVar 10) (dNil)))))) (dgTup 2 (dgCons (dgName 11) (dgCons (dgName 12) (dgNil))))) (r_settled_ends_4b_2b_1)
def r_settled_ends_4b_3 : DTS := dSet 4 (dVar 8)
def r_settled_ends_4b_2 : DTS := dSeq (dFor (dItSeq (dCB (g1 gListOf) (dCons (dVar 4) (dNil)))) (dgTup 2 (dgCons (dgName 9) (dgCons (dgName 10) (dgNil)))) (r_settled_ends_4b_2b)) (r_settled_ends_4b_3)
def r_settled_ends_4b_1 : DTS := dSeq (dSet 8 (dLstM (dNil))) (r_settled_ends_4b_2)
def r_settled_ends_4b : DTS := dSeq (dSet 7 (dC (.bl false))) (r_settled_ends_4b_1)
def r_settled_ends_5 : DTS := dRet (dVar 3)
def r_settled_ends_4 : DTS := dSeq (dWhile (dTru (dVar 7)) (r_settled_ends_4b)) (r_settled_ends_5)
def r_settled_ends_3 : DTS := dSeq (dSet 7 (dC (.bl true))) (r_settled_ends_4)
def r_settled_ends_2 : DTS := dSeq (dSet 5 (dTab (dItSeq (dVar 4)) (dgName 6) (dYes) (dVar 6) (dC (.bl true)) [6])) (r_settled_ends_3)
def r_settled_ends_1 : DTS := dSeq (dSet 4 (dCB (g1 gListOf) (dCons (dVar 2) (dNil)))) (r_settled_ends_2)
def r_settled_ends : DTS := dSeq (dSet 3 (dNewT)) (r_settled_ends_1)
theorem se_turn {T : DEnds} {G : Gp} {steps : List Stp} {labels : Labs} {E : Ends} {K L : List (Int × Int)} {p kn lo : Addr} {l r : Int} {s2 s4 s6 s7 s11 s12 : Option D} (pk : p ≠ kn) (pl : p ≠ lo) (kl : kn ≠ lo)
    (hp : G p = some (.dt (E.map encE))) (hk : G kn = some (.dt (K.map encK))) (hl : G lo = some (.lst (L.map prI))) (fE : E.length ≤ 100000) (fK : K.length ≤ 100000) (fL : L.length ≤ 100000)
    (q1 : ∀ e n, settleF (ruleF steps labels l r) E l r = (some e, n) → ∀ s11 s12, T.nx [some (.tup (steps.map stpD)), some (.tup (labels.map labD)), s2, some (.ref p), s4, some (.ref kn), s6, some (.bl true), some (.ref lo), some (.int l), some (.int r), s11, s12] (gupd G p (.dt ((putE E (l, r) e).map encE))))
    (q2 : ∀ k, settleF (ruleF steps labels l r) E l r = (none, some k) → k ∈ K → ∀ s11 s12, T.nx [some (.tup (steps.map stpD)), some (.tup (labels.map labD)), s2, some (.ref p), s4, some (.ref kn), s6, s7, some (.ref lo), some (.int l), some (.int r), s11, s12] (gupd G lo (.lst ((L ++ [(l, r)]).map prI))))
    (q3 : ∀ k, settleF (ruleF steps labels l r) E l r = (none, some k) → k ∉ K → ∀ s11 s12, T.nx [some (.tup (steps.map stpD)), some (.tup (labels.map labD)), s2, some (.ref p), s4, some (.ref kn), s6, some (.bl true), some (.ref lo), some (.int l), some (.int r), s11, s12]
      (gupd (gupd (gupd G lo (.lst ((L ++ [(l, r)]).map prI))) kn (.dt ((K ++ [k]).map encK))) lo (.lst ((L ++ [(l, r), k]).map prI)))) :
    r_settled_ends_4b_2b T [some (.tup (steps.map stpD)), some (.tup (labels.map labD)), s2, some (.ref p), s4, some (.ref kn), s6, s7, some (.ref lo), some (.int l), some (.int r), s11, s12] G := by
  unfold r_settled_ends_4b_2b
  walk_at "dx"
  refine ⟨steps, labels, l, r, rfl, ?_⟩
  refine ⟨ruleF steps labels l r, E, p, l, r, rfl, hp, ?_⟩
  walk_at "dx"
  generalize hs : settleF (ruleF steps labels l r) E l r = st at *
  obtain ⟨e, n⟩ := st
  cases e with
  | some e =>
    unfold r_settled_ends_4b_2b_1 r_settled_ends_4b_2b_1t r_settled_ends_4b_2b_1t_1 oint
    walk_at "dx"
    rw [hp]
    dsimp only
    refine ⟨size_lt (by rw [List.length_map]; omega), ?_⟩
    rw [put_enc]
    exact q1 e n rfl _ _
  | none =>
    obtain ⟨k, rfl⟩ := settle_need hs
    unfold r_settled_ends_4b_2b_1 r_settled_ends_4b_2b_1e oint opr
    walk_at "dx"
    rw [hl]
    dsimp only
    refine ⟨trivial, size_lt (by rw [List.length_map]; omega), ?_⟩
    unfold r_settled_ends_4b_2b_1e_1 prI
    walk_at "dx"
    rw [gupd_ne kl, hk]
    dsimp only
    rw [look_known]
    by_cases hm : (k.1, k.2) ∈ K
    · rw [if_pos hm, if_neg (by decide)]
      have z := q2 k rfl hm (some .non) (some (prI k))
      rw [List.map_append] at z
      exact z
    · rw [if_neg hm, if_pos (show (none : Option D).isSome = false from rfl)]
      unfold r_settled_ends_4b_2b_1e_1t r_settled_ends_4b_2b_1e_1t_1 r_settled_ends_4b_2b_1e_1t_2
      walk_at "dx"
      rw [gupd_ne kl, hk]
      dsimp only
      refine ⟨size_lt (by rw [List.length_map]; omega), ?_⟩
      rw [put_known hm, gupd_ne kl.symm, gupd_same]
      dsimp only
      refine ⟨trivial, size_lt (by rw [List.length_append, List.length_map, List.length_cons, List.length_nil]; omega), ?_⟩
      have z := q3 k rfl hm (some .non) (some (prI k))
      have e2 : (L ++ [(l, r), k]).map prI = (L.map prI ++ [prI (l, r)]) ++ [prI k] := by
        rw [List.map_append, List.append_assoc]
        rfl
      have e1 : (L ++ [(l, r)]).map prI = L.map prI ++ [prI (l, r)] := by
        rw [List.map_append]
        rfl
      rw [e1, e2] at z
      exact z
/-- what the loop knows: rest: all that waits -/
structure PS (f : Int → Int → Option Act) (cs : List Int) (E : Ends) (K rest : List (Int × Int)) : Prop where
  sound : Sound f E
  vals : ∀ k x, lookE E k = some x → x ∈ cs
  nd : K.Nodup
  kin : ∀ k ∈ K, k.1 ∈ cs ∧ k.2 ∈ cs
  perm : (E.map (·.1) ++ rest).Perm K
/-- all codes that ligatures make are among cs -/
def Clo (f : Int → Int → Option Act) (cs : List Int) : Prop := ∀ l r c ls rs v, f l r = some (.lig c ls rs v) → c ∈ cs
theorem fin_val {E : Ends} {cs : List Int} (hv : ∀ k x, lookE E k = some x → x ∈ cs) {n : Int × Int} {e : Int} {m : Option (Int × Int)} (h : finF E n = (some e, m)) : e ∈ cs := hv _ _ (fin_some h)
theorem settle_val {f : Int → Int → Option Act} {cs : List Int} {E : Ends} (hc : Clo f cs) (hv : ∀ k x, lookE E k = some x → x ∈ cs) {l r e : Int} {n : Option (Int × Int)} (hr : r ∈ cs) (h : settleF (f l r) E l r = (some e, n)) : e ∈ cs := by
  unfold settleF at h
  cases hp : plainF (f l r) r with
  | some x =>
    rw [hp] at h
    cases h
    unfold plainF at hp
    split at hp
    · cases hp
      exact hr
    · cases hp
      exact hr
    · rename_i c ls rs v ha
      split at hp
      · cases hp
        exact hc _ _ _ _ _ _ ha
      · split at hp
        · cases hp
          exact hr
        · cases hp
  | none =>
    rw [hp] at h
    dsimp only at h
    split at h
    · split at h
      · exact fin_val hv h
      · split at h
        · exact fin_val hv h
        · split at h
          · cases h
          · exact fin_val hv h
    · cases h
theorem settle_in {f : Int → Int → Option Act} {cs : List Int} {E : Ends} (hc : Clo f cs) (hv : ∀ k x, lookE E k = some x → x ∈ cs) {l r : Int} {k : Int × Int} (hl : l ∈ cs) (hr : r ∈ cs) (h : settleF (f l r) E l r = (none, some k)) : (k.1 ∈ cs ∧ k.2 ∈ cs) ∧ lookE E k = none := by
  unfold settleF at h
  split at h
  · cases h
  · split at h
    · rename_i c ls rs v ha
      have mc := hc _ _ _ _ _ _ ha
      split at h
      · obtain ⟨h1, h2⟩ := fin_none h
        cases h1
        exact ⟨⟨hl, mc⟩, h2⟩
      · split at h
        · obtain ⟨h1, h2⟩ := fin_none h
          cases h1
          exact ⟨⟨mc, hr⟩, h2⟩
        · split at h
          · rename_i hx
            cases h
            exact ⟨⟨hl, mc⟩, hx⟩
          · rename_i x hx
            obtain ⟨h1, h2⟩ := fin_none h
            cases h1
            exact ⟨⟨hv _ _ hx, hr⟩, h2⟩
    · cases h
section
variable {f : Int → Int → Option Act} {cs : List Int} {E : Ends} {K rest L R : List (Int × Int)} {k : Int × Int}
theorem PS.len (h : PS f cs E K rest) : E.length + rest.length = K.length := by
  have := h.perm.length_eq
  rw [List.length_append, List.length_map] at this
  exact this
theorem PS.new (h : PS f cs E K rest) (hk : k ∈ rest) : lookE E k = none := by
  have nd := h.perm.nodup_iff.mpr h.nd
  exact look_none.mpr fun m => (List.nodup_append.mp nd).2.2 k m k hk rfl
theorem PS.known (h : PS f cs E K rest) (hk : k ∈ rest) : k ∈ K := h.perm.mem_iff.mp (List.mem_append_right _ hk)
theorem PS.end_ (hc : Clo f cs) (h : PS f cs E K (L ++ k :: R)) {e : Int} {n : Option (Int × Int)} (hs : settleF (f k.1 k.2) E k.1 k.2 = (some e, n)) : PS f cs (putE E k e) K (L ++ R) ∧ (putE E k e).length = E.length + 1 := by
  have hk : k ∈ L ++ k :: R := List.mem_append_right _ List.mem_cons_self
  have hn := h.new hk
  have ep : putE E k e = E ++ [(k, e)] := by
    unfold putE
    rw [hn, if_neg (by decide)]
  refine ⟨⟨h.sound.put (settle_sound h.sound hs), fun k' x hx => ?_, h.nd, h.kin, ?_⟩, by rw [ep, List.length_append]; rfl⟩
  · rw [look_put] at hx
    split at hx
    · cases hx
      exact settle_val hc h.vals (h.kin k (h.known hk)).2 hs
    · exact h.vals k' x hx
  · rw [ep, List.map_append, List.append_assoc]
    refine List.Perm.trans ?_ h.perm
    refine List.Perm.append_left _ ?_
    exact (List.perm_middle (a := k) (l₁ := L) (l₂ := R)).symm
theorem PS.need (hc : Clo f cs) (h : PS f cs E K (L ++ k :: R)) {n : Int × Int} (hs : settleF (f k.1 k.2) E k.1 k.2 = (none, some n)) (hn : n ∉ K) : PS f cs E (K ++ [n]) ((L ++ [k, n]) ++ R) := by
  have hk : k ∈ L ++ k :: R := List.mem_append_right _ List.mem_cons_self
  have kk := h.kin k (h.known hk)
  refine ⟨h.sound, h.vals, List.nodup_append.mpr ⟨h.nd, List.pairwise_singleton .., fun a ha b hb e => ?_⟩, fun x hx => ?_, ?_⟩
  · rw [List.mem_singleton] at hb
    exact hn (hb ▸ e ▸ ha)
  · rcases List.mem_append.mp hx with hx | hx
    · exact h.kin x hx
    · rw [List.mem_singleton.mp hx]
      exact (settle_in hc h.vals kk.1 kk.2 hs).1
  · refine List.Perm.trans ?_ (List.Perm.append_right [n] h.perm)
    rw [List.append_assoc, List.append_assoc, List.append_assoc]
    refine List.Perm.append_left _ (List.Perm.append_left _ ?_)
    show (k :: n :: R).Perm (k :: (R ++ [n]))
    exact List.Perm.cons k (List.perm_append_singleton n R).symm
/-- nothing moves any more -/
theorem PS.fin (h : PS f cs E K rest) (hk : k ∈ K) (hs : ∀ k ∈ rest, ∃ n, settleF (f k.1 k.2) E k.1 k.2 = (none, some n) ∧ n ∈ rest) {e : Int} (he : Ev f k.1 k.2 e) : lookE E k = some e := by
  rcases List.mem_append.mp (h.perm.mem_iff.mpr hk) with m | m
  · cases q : lookE E k with
    | none => exact absurd m (look_none.mp q)
    | some x => rw [(h.sound k x q).same he]
  · exact absurd m (stuck h.sound (U := fun k => k ∈ rest) (fun l r hu => hs (l, r) hu) he)
end
def pairsOf (cs : List Int) : List (Int × Int) := cs.flatMap fun a => cs.map fun b => (a, b)
theorem pairs_len (bs : List Int) : ∀ as : List Int, (as.flatMap fun a => bs.map fun b => (a, b)).length = as.length * bs.length
  | [] => (Nat.zero_mul _).symm
  | a :: as => by rw [List.flatMap_cons, List.length_append, List.length_map, pairs_len bs as, List.length_cons, Nat.succ_mul, Nat.add_comm]
theorem PS.few {f : Int → Int → Option Act} {cs : List Int} {E : Ends} {K rest : List (Int × Int)} (h : PS f cs E K rest) (hl : cs.length ≤ 100) : K.length ≤ 10000 := by
  have z := nodup_len K (pairsOf cs) h.nd fun k hk => by
    obtain ⟨h1, h2⟩ := h.kin k hk
    unfold pairsOf
    exact List.mem_flatMap.mpr ⟨k.1, h1, List.mem_map.mpr ⟨k.2, h2, rfl⟩⟩
  unfold pairsOf at z
  rw [pairs_len] at z
  exact Nat.le_trans z (Nat.mul_le_mul hl hl)
/-- one pass over all that waits -/
theorem se_pass {T : DEnds} {G G' : Gp} {steps : List Stp} {labels : Labs} {cs : List Int} {ks Wt : List (Int × Int)} {E : Ends} {K : List (Int × Int)} {p kn lo : Addr} {wv : D} {s2 s6 s9 s10 s11 s12 : Option D} (hcs : cs.length ≤ 100) (clo : Clo (ruleF steps labels) cs) (pk : p ≠ kn) (pl : p ≠ lo) (kl : kn ≠ lo)
    (gp : G p = none) (gk : G kn = none) (gl : G lo = none) (hE : G' p = some (.dt (E.map encE))) (hK : G' kn = some (.dt (K.map encK))) (sub : GSub G G') (ps : PS (ruleF steps labels) cs E K Wt) (hkK : ∀ k ∈ ks, k ∈ K)
    (done : ∀ (E' : Ends) (K' L : List (Int × Int)) (b : Bool) (G2 : Gp) (s9 s10 s11 s12 : Option D), G2 p = some (.dt (E'.map encE)) → G2 kn = some (.dt (K'.map encK)) → G2 lo = some (.lst (L.map prI)) → GSub G G2 → PS (ruleF steps labels) cs E' K' L → (∀ k ∈ ks, k ∈ K') →
      (b = false → E' = E ∧ K' = K ∧ ∀ k ∈ L, ∃ n, settleF (ruleF steps labels k.1 k.2) E k.1 k.2 = (none, some n) ∧ n ∈ L) → (b = true → K.length + E.length < K'.length + E'.length) →
      T.nx [some (.tup (steps.map stpD)), some (.tup (labels.map labD)), s2, some (.ref p), some wv, some (.ref kn), s6, some (.bl b), some (.ref lo), s9, s10, s11, s12] G2) :
    forGo (itList (Wt.map prI)) (dgTup 2 (dgCons (dgName 9) (dgCons (dgName 10) dgNil))) r_settled_ends_4b_2b T [some (.tup (steps.map stpD)), some (.tup (labels.map labD)), s2, some (.ref p), some wv, some (.ref kn), s6, some (.bl false), some (.ref lo), s9, s10, s11, s12] (gupd G' lo (.lst [])) := by
  refine for_lst (fun i s' G2 => ∃ (E' : Ends) (K' L : List (Int × Int)) (b : Bool) (s9 s10 s11 s12 : Option D), s' = [some (.tup (steps.map stpD)), some (.tup (labels.map labD)), s2, some (.ref p), some wv, some (.ref kn), s6, some (.bl b), some (.ref lo), s9, s10, s11, s12] ∧
    G2 p = some (.dt (E'.map encE)) ∧ G2 kn = some (.dt (K'.map encK)) ∧ G2 lo = some (.lst (L.map prI)) ∧ GSub G G2 ∧ PS (ruleF steps labels) cs E' K' (L ++ Wt.drop i) ∧ (∀ k ∈ ks, k ∈ K') ∧ K.length + E.length ≤ K'.length + E'.length ∧
    (b = false → E' = E ∧ K' = K ∧ ∀ k ∈ L, ∃ n, settleF (ruleF steps labels k.1 k.2) E k.1 k.2 = (none, some n) ∧ n ∈ K) ∧ (b = true → K.length + E.length < K'.length + E'.length))
    ⟨E, K, [], false, _, _, _, _, rfl, by rw [gupd_ne pl]; exact hE, by rw [gupd_ne kl]; exact hK, gupd_same, sub.upd gl, ps, hkK, Nat.le_refl _, fun _ => ⟨rfl, rfl, fun k h => (nomatch h)⟩, fun h => (nomatch h)⟩ ?_ ?_
  · rintro i x s' G2 hx ⟨E', K', L, b, s9, s10, s11, s12, rfl, hE2, hK2, hL2, sub2, ps2, hk2, le2, hf, ht⟩
    obtain ⟨⟨l, r⟩, hlr, rfl⟩ := map_get hx
    rw [drop_at hlr] at ps2
    have f2 := ps2.few hcs
    have l2 := ps2.len
    rw [List.length_append] at l2
    unfold prI
    walk_at "dx"
    refine se_turn pk pl kl hE2 hK2 hL2 (by omega) (by omega) (by omega) (fun e n hs s11 s12 => ?_) (fun k hs hm s11 s12 => ?_) fun k hs hm s11 s12 => ?_
    · obtain ⟨z1, z2⟩ := ps2.end_ clo hs
      exact ⟨_, K', L, true, _, _, _, _, rfl, gupd_same, by rw [gupd_ne pk.symm]; exact hK2, by rw [gupd_ne pl.symm]; exact hL2, sub2.upd gp, z1, hk2, by omega, fun h => (nomatch h), fun _ => by omega⟩
    · refine ⟨E', K', L ++ [(l, r)], b, _, _, _, _, rfl, by rw [gupd_ne pl]; exact hE2, by rw [gupd_ne kl]; exact hK2, gupd_same, sub2.upd gl, by rw [List.append_assoc]; exact ps2, hk2, le2, fun h => ?_, ht⟩
      obtain ⟨rfl, rfl, q⟩ := hf h
      refine ⟨rfl, rfl, fun k' hk' => ?_⟩
      rcases List.mem_append.mp hk' with hk' | hk'
      · exact q k' hk'
      · rw [List.mem_singleton.mp hk']
        exact ⟨k, hs, hm⟩
    · have z := ps2.need clo hs hm
      refine ⟨E', K' ++ [k], L ++ [(l, r), k], true, _, _, _, _, rfl, by rw [gupd_ne pl, gupd_ne pk, gupd_ne pl]; exact hE2, by rw [gupd_ne kl, gupd_same], gupd_same, ((sub2.upd gl).upd gk).upd gl, z, fun k' h => List.mem_append_left _ (hk2 k' h), by rw [List.length_append]; omega, fun h => (nomatch h), fun _ => by rw [List.length_append]; show _ < _ + 1 + _; omega⟩
  · rintro s' G2 ⟨E', K', L, b, s9, s10, s11, s12, rfl, hE2, hK2, hL2, sub2, ps2, hk2, le2, hf, ht⟩
    rw [List.length_map, List.drop_length, List.append_nil] at ps2
    refine done E' K' L b G2 _ _ _ _ hE2 hK2 hL2 sub2 ps2 hk2 (fun h => ?_) ht
    obtain ⟨rfl, rfl, q⟩ := hf h
    refine ⟨rfl, rfl, fun k hk => ?_⟩
    obtain ⟨n, h1, h2⟩ := q k hk
    refine ⟨n, h1, ?_⟩
    have kk := ps2.kin k (ps2.known hk)
    have hn := (settle_in clo ps2.vals kk.1 kk.2 h1).2
    exact (List.mem_append.mp (ps2.perm.mem_iff.mpr h2)).resolve_left (look_none.mp hn)
theorem p_settled_ends (ds : List D) (G : Gp) (Q : DK) (E : DX) (h : sp_settled_ends ds G Q E) : ds.length = 3 ∧ r_settled_ends (fEnds Q E) (dstart 13 ds) G := by
  obtain ⟨steps, labels, ks, cs, rfl, hcs, hkl, nd, hks, hst, q⟩ := h
  refine ⟨rfl, ?_⟩
  unfold r_settled_ends
  walk_at "dx"
  intro p hp
  unfold r_settled_ends_1
  walk_at "dx"
  unfold r_settled_ends_2
  walk_at "dx"
  intro kn hkn
  have pk : p ≠ kn := gne gupd_same hkn
  refine ⟨fun i acc G' => acc = (ks.take i).map encK ∧ G' = gupd (gupd G p (.dt [])) kn (.dt acc), ⟨rfl, rfl⟩, ?_, ?_, ?_⟩
  · rintro i acc G' hi ⟨rfl, rfl⟩
    exact ⟨gupd_same, trivial⟩
  · rintro i x acc G' hi hx ⟨rfl, rfl⟩
    obtain ⟨k, hk, rfl⟩ := map_get hx
    have hik := (List.getElem?_eq_some_iff.mp hk).1
    unfold prI
    walk_at "dx"
    have hn : (k.1, k.2) ∉ ks.take i := fun m => by
      obtain ⟨j, hj, e⟩ := List.getElem_of_mem m
      rw [List.getElem_take] at e
      rw [List.length_take] at hj
      have e2 := (List.getElem?_eq_some_iff.mp hk).2
      exact List.pairwise_iff_getElem.mp nd j i (by omega) hik (by omega) (e.trans e2.symm)
    refine ⟨size_lt (by rw [List.length_map, List.length_take]; omega), ?_⟩
    rw [put_known hn, take_succ' hk]
  · rintro acc G' ⟨rfl, rfl⟩
    rw [show (itList (ks.map prI)).n = ks.length from List.length_map .., List.take_length]
    have hin : ∀ k ∈ ks, k.1 ∈ cs ∧ k.2 ∈ cs := hks
    have clo : Clo (ruleF steps labels) cs := fun l r c ls rs v h => by
      obtain ⟨s, h1, h2⟩ := rule_mem h
      exact hst s h1 c ls rs v h2
    have sub0 : GSub G (gupd (gupd G p (.dt [])) kn (.dt (ks.map encK))) := ((GSub.refl G).upd hp).upd (by rw [gupd_ne pk.symm] at hkn; exact hkn)
    have gkn : G kn = none := by rw [gupd_ne pk.symm] at hkn; exact hkn
    unfold r_settled_ends_3
    walk_at "dx"
    unfold r_settled_ends_4
    walk_at "dx"
    refine ⟨fun m s' G' => ∃ (E : Ends) (K Wt : List (Int × Int)) (b : Bool) (wv : D) (s6 s8 s9 s10 s11 s12 : Option D), m = 2 * (20000 - (K.length + E.length)) + (if b = true then 1 else 0) ∧
      s' = [some (.tup (steps.map stpD)), some (.tup (labels.map labD)), some (.lst (ks.map prI)), some (.ref p), some wv, some (.ref kn), s6, some (.bl b), s8, s9, s10, s11, s12] ∧ (wv = .lst (Wt.map prI) ∨ ∃ a, wv = .ref a ∧ G' a = some (.lst (Wt.map prI))) ∧ 
      G' p = some (.dt (E.map encE)) ∧ G' kn = some (.dt (K.map encK)) ∧ GSub G G' ∧ PS (ruleF steps labels) cs E K Wt ∧ (∀ k ∈ ks, k ∈ K) ∧ (b = false → ∀ k ∈ Wt, ∃ n, settleF (ruleF steps labels k.1 k.2) E k.1 k.2 = (none, some n) ∧ n ∈ Wt),
      ⟨_, [], ks, ks, true, .lst (ks.map prI), _, _, _, _, _, _, rfl, rfl, .inl rfl, by rw [gupd_ne pk, gupd_same]; rfl, gupd_same, sub0, ⟨sound_nil _, fun k x h => (nomatch h), nd, hks, List.Perm.refl _⟩, fun k h => h, fun h => (nomatch h)⟩, ?_⟩
    rintro m s' G' ⟨E, K, Wt, b, wv, s6, s8, s9, s10, s11, s12, rfl, rfl, hw, hE, hK, sub, ps, hkK, hfin⟩
    walk_at "dx"
    cases b with
    | false =>
      simp only [Bool.false_eq_true, if_false]
      unfold r_settled_ends_5
      walk_at "dx"
      refine dn_of (G := gupd G p (.dt (E.map encE))) (fun a g h => ?_) (q E p hp ps.sound fun k hk e he => ps.fin (hkK k hk) (hfin rfl) he)
      by_cases z : a = p
      · rw [z, gupd_same] at h
        rw [z, hE]
        exact h
      · rw [gupd_ne z] at h
        exact sub a g h
    | true =>
      simp only [if_true]
      unfold r_settled_ends_4b
      walk_at "dx"
      unfold r_settled_ends_4b_1
      walk_at "dx"
      intro lo hlo
      have glo : G lo = none := sub.free hlo
      have plo : p ≠ lo := gne hE hlo
      have klo : kn ≠ lo := gne hK hlo
      unfold r_settled_ends_4b_2
      walk_at "dx"
      have fK := ps.few hcs
      have lK := ps.len
      rcases hw with rfl | ⟨a, rfl, hw⟩
      · walk_at "dx"
        refine se_pass (ks := ks) hcs clo pk plo klo hp gkn glo hE hK sub ps hkK fun E' K' L b G2 s9 s10 s11 s12 hE2 hK2 hL2 sub2 ps2 hk2 hf ht => ?_
        unfold r_settled_ends_4b_3
        walk_at "dx"
        have f2 := ps2.few hcs
        have l2 := ps2.len
        refine ⟨_, ?_, E', K', L, b, .ref lo, _, _, _, _, _, _, rfl, rfl, .inr ⟨lo, rfl, hL2⟩, hE2, hK2, sub2, ps2, hk2, fun h k hk => ?_⟩
        · cases b with
          | false =>
            obtain ⟨rfl, rfl, _⟩ := hf rfl
            simp
          | true =>
            have := ht rfl
            simp only [if_true]
            omega
        · obtain ⟨rfl, rfl, z⟩ := hf h
          exact z k hk
      · walk_at "dx"
        rw [gupd_ne (gne hw hlo), hw]
        dsimp only
        refine se_pass (ks := ks) hcs clo pk plo klo hp gkn glo hE hK sub ps hkK fun E' K' L b G2 s9 s10 s11 s12 hE2 hK2 hL2 sub2 ps2 hk2 hf ht => ?_
        unfold r_settled_ends_4b_3
        walk_at "dx"
        have f2 := ps2.few hcs
        have l2 := ps2.len
        refine ⟨_, ?_, E', K', L, b, .ref lo, _, _, _, _, _, _, rfl, rfl, .inr ⟨lo, rfl, hL2⟩, hE2, hK2, sub2, ps2, hk2, fun h k hk => ?_⟩
        · cases b with
          | false =>
            obtain ⟨rfl, rfl, _⟩ := hf rfl
            simp
          | true =>
            have := ht rfl
            simp only [if_true]
            omega
        · obtain ⟨rfl, rfl, z⟩ := hf h
          exact z k hk
def sp_ruled_pairs : DSp := fun ds G Q _ => ∃ (steps : List Stp) (labels : Labs), ds = [.tup (steps.map stpD), .tup (labels.map labD)] ∧ steps.length ≤ 100 ∧ labels.length ≤ 100 ∧ ∀ ks : List (Int × Int), ks.Perm (ruledL steps labels []) → ks.Pairwise leP → Q (.lst (ks.map prI)) G
def r_ruled_pairs_1b_0b_0t : DTS := dDrop (dBM dmAppend (dVar 2) (dCons (dTup (dCons (dVar 3) (dCons (dOp gIx (dVar 5) (dC (.int 0))) (dNil)))) (dNil)))
def r_ruled_pairs_1b_0b_1t : DTS := dBreak
def r_ruled_pairs_1b_0b_1 : DTS := dIfS (dTru (dOp gIx (dVar 5) (dC (.int 2)))) (r_ruled_pairs_1b_0b_1t) (dNext)
def r_ruled_pairs_1b_0b : DTS := dSeq (dIfS (dTest (dOp (gIn true) (dTup (dCons (dVar 3) (dCons (dOp gIx (dVar 5) (dC (.int 0))) (dNil)))) (dVar 2))) (r_ruled_pairs_1b_0b_0t) (dNext)) (r_ruled_pairs_1b_0b_1)
def r_ruled_pairs_1b : DTS := dFor (dItSeq (dSl gSl (dVar 0) (dPart (dVar 4)) (dNoPart))) (dgName 5) (r_ruled_pairs_1b_0b)
def r_ruled_pairs_2 : DTS := dRet (dCB (g1 gSortPP) (dCons (dVar 2) (dNil)))
def r_ruled_pairs_1 : DTS := dSeq (dFor (dItSeq (dVar 1)) (dgTup 2 (dgCons (dgName 3) (dgCons (dgName 4) (dgNil)))) (r_ruled_pairs_1b)) (r_ruled_pairs_2)
def r_ruled_pairs : DTS := dSeq (dSet 2 (dLstM (dNil))) (r_ruled_pairs_1)
theorem rp_body {T : DEnds} {G : Gp} {p : Addr} {acc : List (Int × Int)} {c : Int} {t : Stp} {s0 s1 s4 : Option D} (few : acc.length ≤ 1000000)
    (qb : t.last = true → T.bk [s0, s1, some (.ref p), some (.int c), s4, some (stpD t)] (gupd G p (.lst ((addP acc (c, t.right)).map prI))))
    (qn : ¬ t.last = true → T.nx [s0, s1, some (.ref p), some (.int c), s4, some (stpD t)] (gupd G p (.lst ((addP acc (c, t.right)).map prI)))) :
    r_ruled_pairs_1b_0b T [s0, s1, some (.ref p), some (.int c), s4, some (stpD t)] (gupd G p (.lst (acc.map prI))) := by
  have stop : ∀ acc3, acc3 = addP acc (c, t.right) → r_ruled_pairs_1b_0b_1 T [s0, s1, some (.ref p), some (.int c), s4, some (stpD t)] (gupd G p (.lst (acc3.map prI))) := fun acc3 h3 => by
    subst h3
    unfold stpD at qb qn ⊢
    unfold r_ruled_pairs_1b_0b_1 r_ruled_pairs_1b_0b_1t
    walk_at "dx"
    by_cases hlast : t.last = true
    · rw [if_pos hlast]
      exact qb hlast
    · rw [if_neg hlast]
      exact qn hlast
  unfold stpD at stop ⊢
  unfold r_ruled_pairs_1b_0b
  walk_at "dx"
  refine gin_pairs (k := (c, t.right)) gupd_same ?_
  by_cases hm : (c, t.right) ∈ acc
  · simp only [hm, decide_true, Bool.not_true, Bool.false_eq_true, if_false]
    exact stop acc (by unfold addP; rw [if_pos hm])
  · simp only [hm, decide_false, Bool.not_false, if_true]
    unfold r_ruled_pairs_1b_0b_0t
    walk_at "dx"
    have z := stop (acc ++ [(c, t.right)]) (by unfold addP; rw [if_neg hm])
    rw [List.map_append] at z
    exact ⟨size_lt (by rw [List.length_map]; omega), z⟩
theorem p_ruled_pairs (ds : List D) (G : Gp) (Q : DK) (E : DX) (h : sp_ruled_pairs ds G Q E) : ds.length = 2 ∧ r_ruled_pairs (fEnds Q E) (dstart 6 ds) G := by
  obtain ⟨steps, labels, rfl, hs, hl, q⟩ := h
  refine ⟨rfl, ?_⟩
  unfold r_ruled_pairs
  walk_at "dx"
  intro p hp
  unfold r_ruled_pairs_1
  walk_at "dx"
  refine for_lst (fun i s' G' => ∃ acc : List (Int × Int), acc.length ≤ 100 * i ∧ ruledL steps labels [] = ruledL steps (labels.drop i) acc ∧ G' = gupd G p (.lst (acc.map prI)) ∧ ∃ s3 s4 s5, s' = [some (.tup (steps.map stpD)), some (.tup (labels.map labD)), some (.ref p), s3, s4, s5])
    ⟨[], Nat.zero_le _, rfl, rfl, _, _, _, rfl⟩ ?_ ?_
  · rintro i x s' G' hx ⟨acc, ha, e, rfl, s3, s4, s5, rfl⟩
    obtain ⟨⟨c, k⟩, hlb, rfl⟩ := map_get hx
    have hi := (List.getElem?_eq_some_iff.mp hlb).1
    rw [drop_at hlb, show ruledL steps ((c, k) :: labels.drop (i + 1)) acc = ruledL steps (labels.drop (i + 1)) (walkT (steps.drop k) c acc) from rfl] at e
    unfold labD r_ruled_pairs_1b
    walk_at "dx"
    rw [cut_lo _ (by omega), Int.toNat_natCast, ← List.map_drop]
    have hss : (steps.drop k).length ≤ 100 := by rw [List.length_drop]; omega
    generalize steps.drop k = ss at e hss
    refine for_lst (fun j s' G' => ∃ acc2 : List (Int × Int), acc2.length ≤ acc.length + j ∧ walkT ss c acc = walkT (ss.drop j) c acc2 ∧ G' = gupd G p (.lst (acc2.map prI)) ∧ ∃ s5, s' = [some (.tup (steps.map stpD)), some (.tup (labels.map labD)), some (.ref p), some (.int c), some (.int (k : Nat)), s5])
      ⟨acc, Nat.le_refl _, rfl, rfl, _, rfl⟩ ?_ ?_
    · rintro j x s' G' hx ⟨acc2, ha2, e2, rfl, s5, rfl⟩
      obtain ⟨t, ht, rfl⟩ := map_get hx
      have hj := (List.getElem?_eq_some_iff.mp ht).1
      rw [drop_at ht, show walkT (t :: ss.drop (j + 1)) c acc2 = (if t.last = true then addP acc2 (c, t.right) else walkT (ss.drop (j + 1)) c (addP acc2 (c, t.right))) from rfl] at e2
      have l3 := addP_len acc2 (c, t.right)
      walk_at "dx"
      refine rp_body (by omega) (fun h => ?_) fun h => ?_
      · rw [if_pos h] at e2
        rw [e2] at e
        exact ⟨_, by omega, e, rfl, _, _, _, rfl⟩
      · rw [if_neg h] at e2
        exact ⟨_, by omega, e2, rfl, _, rfl⟩
    · rintro s' G' ⟨acc2, ha2, e2, rfl, s5, rfl⟩
      rw [List.length_map, List.drop_length] at e2
      rw [List.length_map] at ha2
      rw [e2] at e
      exact ⟨acc2, by omega, e, rfl, _, _, _, rfl⟩
  · rintro s' G' ⟨acc, ha, e, rfl, s3, s4, s5, rfl⟩
    rw [List.length_map, List.drop_length] at e
    unfold r_ruled_pairs_2
    walk_at "dx"
    refine ⟨acc, by unfold lv; dsimp only; rw [gupd_same]; rfl, fun ks pm so => ?_⟩
    refine dn_of ((GSub.refl G).upd hp) (q ks ?_ so)
    rw [e]
    exact pm
structure LigOk (cs : List Int) (steps : List Stp) (labels : Labs) : Prop where
  few : cs.length ≤ 100
  fewS : steps.length ≤ 100
  fewL : labels.length ≤ 100
  acts : ∀ s ∈ steps, s.right ∈ cs ∧ ∀ c l r v, s.act = .lig c l r v → c ∈ cs
  labs : ∀ l ∈ labels, l.1 ∈ cs
def sp_endless_pairs : DSp := fun ds G Q _ => ∃ (steps : List Stp) (labels : Labs) (cs : List Int), ds = [.tup (steps.map stpD), .tup (labels.map labD)] ∧ LigOk cs steps labels ∧
  ∀ (ks : List (Int × Int)) (P : Int × Int → Bool), ks.Perm (ruledL steps labels []) → ks.Pairwise leP → (∀ k ∈ ks, P k = true ↔ ¬ ∃ e, Ev (ruleF steps labels) k.1 k.2 e) → Q (.lst ((ks.filter P).map prI)) G
def r_endless_pairs_2 : DTS := dRet (dLc (dItSeq (dVar 2)) (dgName 4) (dTest (dOp (gInD true) (dVar 4) (dVar 3))) (dVar 4) [4])
def r_endless_pairs_1 : DTS := dSeq (dSet 3 (dCall sp_settled_ends (dCons (dVar 0) (dCons (dVar 1) (dCons (dVar 2) (dNil)))))) (r_endless_pairs_2)
def r_endless_pairs : DTS := dSeq (dSet 2 (dCall sp_ruled_pairs (dCons (dVar 0) (dCons (dVar 1) (dNil))))) (r_endless_pairs_1)
theorem p_endless_pairs (ds : List D) (G : Gp) (Q : DK) (E : DX) (h : sp_endless_pairs ds G Q E) : ds.length = 2 ∧ r_endless_pairs (fEnds Q E) (dstart 5 ds) G := by
  obtain ⟨steps, labels, cs, rfl, ok, q⟩ := h
  refine ⟨rfl, ?_⟩
  unfold r_endless_pairs
  walk_at "dx"
  refine ⟨steps, labels, rfl, ok.fewS, ok.fewL, fun ks pm so => ?_⟩
  have kin : ∀ k ∈ ks, k.1 ∈ cs ∧ k.2 ∈ cs := fun k hk => by
    rcases ruledL_mem (pm.mem_iff.mp hk) with h | ⟨⟨l, h1, h2⟩, s, h3, h4⟩
    · cases h
    · rw [h2, h4]
      exact ⟨ok.labs l h1, (ok.acts s h3).1⟩
  have nd : ks.Nodup := pm.nodup_iff.mpr (ruledL_nd List.nodup_nil)
  have len : ks.length ≤ 10000 := by
    have z := nodup_len ks (pairsOf cs) nd fun k hk => by
      obtain ⟨h1, h2⟩ := kin k hk
      unfold pairsOf
      exact List.mem_flatMap.mpr ⟨k.1, h1, List.mem_map.mpr ⟨k.2, h2, rfl⟩⟩
    unfold pairsOf at z
    rw [pairs_len] at z
    exact Nat.le_trans z (Nat.mul_le_mul ok.few ok.few)
  unfold r_endless_pairs_1
  walk_at "dx"
  refine ⟨steps, labels, ks, cs, rfl, ok.few, len, nd, kin, fun s hs => (ok.acts s hs).2, fun T p hp sd hT => ?_⟩
  unfold r_endless_pairs_2
  walk_at "dx"
  intro b hb
  have pb : p ≠ b := gne gupd_same hb
  refine lc_lst (fun i acc => acc = ((ks.take i).filter fun k => (lookE T k).isNone).map prI) rfl ?_ ?_
  · rintro i x acc hx hl2 rfl
    obtain ⟨k, hk, rfl⟩ := map_get hx
    have hi := (List.getElem?_eq_some_iff.mp hk).1
    unfold prI
    walk_at "dx"
    rw [gupd_ne pb, gupd_same]
    dsimp only
    rw [look_enc]
    cases e : lookE T (k.1, k.2) with
    | some x =>
      have e' : (lookE T k).isNone = false := by rw [show k = (k.1, k.2) from rfl, e]; rfl
      rw [if_neg (fun z => nomatch z)]
      refine ⟨rfl, Nat.le_succ_of_le hl2, ?_⟩
      dsimp only
      rw [take_succ' hk, List.filter_append, show [k].filter (fun k => (lookE T k).isNone) = [] by rw [List.filter_cons, e']; rfl, List.append_nil]
    | none =>
      have e' : (lookE T k).isNone = true := by rw [show k = (k.1, k.2) from rfl, e]; rfl
      rw [if_pos (by rfl)]
      refine lc_push' hl2 (by omega) ?_
      rw [take_succ' hk, List.filter_append, show [k].filter (fun k => (lookE T k).isNone) = [k] by rw [List.filter_cons, e']; rfl, List.map_append]
      rfl
  · rintro acc hl2 rfl
    rw [gdel_gupd hb, List.length_map, List.take_length]
    refine dn_of ((GSub.refl G).upd hp) (q ks _ pm so fun k hk => ?_)
    rw [Option.isNone_iff_eq_none]
    refine ⟨fun h ⟨e, he⟩ => ?_, fun h => ?_⟩
    · have := hT k hk e he
      rw [h] at this
      cases this
    · cases z : lookE T k with
      | none => rfl
      | some x => exact absurd ⟨x, sd k x z⟩ h
/-- a row of codes being set -/
def rowF (row : List Int) (g : Addr) (k : Nat) : List (Str × D) := [("codes", .lst (row.map .int)), ("gaps", .ref g), ("place", .int (k : Nat))]
theorem rep_flat : ∀ m : Nat, (List.replicate m [D.int 0]).flatten = (List.replicate m (0 : Int)).map D.int
  | 0 => rfl
  | m + 1 => by
    rw [List.replicate_succ, List.flatten_cons, rep_flat m, List.replicate_succ]
    rfl
theorem row_put1 (x d : D) : putD "gaps" d [(Str.ofString "codes", x)] = [(Str.ofString "codes", x), (Str.ofString "gaps", d)] := rfl
theorem row_put2 (x y d : D) : putD "place" d [(Str.ofString "codes", x), (Str.ofString "gaps", y)] = [(Str.ofString "codes", x), (Str.ofString "gaps", y), (Str.ofString "place", d)] := rfl
abbrev row3 (x y z : D) : List (Str × D) := [(Str.ofString "codes", x), (Str.ofString "gaps", y), (Str.ofString "place", z)]
theorem row_putC (x y z d : D) : putD "codes" d (row3 x y z) = row3 d y z := rfl
theorem row_putG (x y z d : D) : putD "gaps" d (row3 x y z) = row3 x d z := rfl
theorem row_putP (x y z d : D) : putD "place" d (row3 x y z) = row3 x y d := rfl
theorem row_getC (x y z : D) : (row3 x y z).lookup (Str.ofString "codes") = some x := rfl
theorem row_getG (x y z : D) : (row3 x y z).lookup (Str.ofString "gaps") = some y := rfl
theorem row_getP (x y z : D) : (row3 x y z).lookup (Str.ofString "place") = some z := rfl
def sp_Row___init__ : DSp := fun ds G Q _ => ∃ (p : Addr) (codes : List Int), ds = [.ref p, .lst (codes.map .int)] ∧ G p = some (.ins "Row" []) ∧ codes.length ≤ 10000 ∧
  ∀ g, G g = none → Q .non (gupd (gupd G g (.lst ((List.replicate (codes.length + 1) (0 : Int)).map .int))) p (.ins "Row" (rowF (128 :: codes ++ [128]) g 0)))
def r_Row___init___2 : DTS := dFldSet "Row" "place" (dVar 0) (dC (.int 0))
def r_Row___init___1 : DTS := dSeq (dFldSet "Row" "gaps" (dVar 0) (dOp gRepM (dLst (dCons (dC (.int 0)) (dNil))) (dOp gAdd (dCB (g1 gLen) (dCons (dVar 1) (dNil))) (dC (.int 1))))) (r_Row___init___2)
def r_Row___init__ : DTS := dSeq (dFldSet "Row" "codes" (dVar 0) (dOp gAdd (dOp gAdd (dLst (dCons (dC (.int 128)) (dNil))) (dVar 1)) (dLst (dCons (dC (.int 128)) (dNil))))) (r_Row___init___1)
theorem p_Row___init__ (ds : List D) (G : Gp) (Q : DK) (E : DX) (h : sp_Row___init__ ds G Q E) : ds.length = 2 ∧ r_Row___init__ (fEnds Q E) (dstart 2 ds) G := by
  obtain ⟨p, codes, rfl, hp, hl, q⟩ := h
  refine ⟨rfl, ?_⟩
  unfold r_Row___init__
  walk_at "dx"
  refine ⟨size_le ?_, size_le ?_, ?_⟩
  · rw [List.length_map]
    omega
  · simp only [List.length_append, List.length_map, List.length_cons, List.length_nil]
    omega
  rw [hp]
  dsimp only
  refine ⟨rfl, by decide, ?_⟩
  unfold r_Row___init___1
  walk_at "dx"
  unfold gRepM
  walk_at "dx"
  rw [List.length_map]
  refine ⟨⟨by omega, by omega⟩, size_le (by omega), fun g hg => ?_⟩
  have pg : p ≠ g := gne gupd_same hg
  have gg : G g = none := by
    rw [gupd_ne pg.symm] at hg
    exact hg
  rw [gupd_ne pg, gupd_same]
  dsimp only
  refine ⟨rfl, by show 1 < 1000; decide, ?_⟩
  unfold r_Row___init___2
  walk_at "dx"
  refine ⟨by show 2 < 1000; decide, ?_⟩
  have z := q g gg
  have e1 : (List.replicate ((codes.length : Int) + 1).toNat [D.int 0]).flatten = (List.replicate (codes.length + 1) (0 : Int)).map D.int := by
    rw [show ((codes.length : Int) + 1).toNat = codes.length + 1 by omega, rep_flat]
  have e2 : (128 :: codes ++ [128]).map D.int = D.int 128 :: (codes.map D.int ++ [D.int 128]) := by
    rw [List.cons_append, List.map_cons, List.map_append]
    rfl
  unfold rowF at z
  rw [e2] at z
  rw [e1, gupd_comm' pg.symm, gupd_gupd]
  rw [gupd_comm' pg.symm] at z
  exact dn_id z
/-- the glyphs and the kerns of a row that is done -/
def gkF : List Int → List Int → List Int → List Int → Int → List Int × List Int
  | [], _, gl, ks, x => (gl, ks ++ [x])
  | c :: row, [], gl, ks, x => if c = 128 then gkF row [] gl ks x else gkF row [] (gl ++ [c]) (ks ++ [x]) 0
  | c :: row, g :: gaps, gl, ks, x => if c = 128 then gkF row gaps gl ks (x + g) else gkF row gaps (gl ++ [c]) (ks ++ [x]) (0 + g)
theorem gdel_ab {G : Gp} {a b : Addr} {o u : GO} (h : a ≠ b) (ha : G a = none) (hb : G b = none) : gdel (gdel (gupd (gupd G a o) b u) a) b = G := by
  funext c
  unfold gdel gupd
  by_cases h1 : c = b
  · rw [if_pos h1, h1, hb]
  · rw [if_neg h1]
    by_cases h2 : c = a
    · rw [if_pos h2, h2, ha]
    · rw [if_neg h2, if_neg h1, if_neg h2]
theorem last_at (ks : List Int) (x : Int) : atI ((ks ++ [x]).map D.int) (-1) = some (.int x) := at_end (by simp) (by simp)
theorem last_set {ks : List Int} {x : Int} {P : Nat → Prop} (h : P ks.length) : match ixN ((ks ++ [x]).map D.int).length (-1) with
    | some j => P j
    | none => False := by
  rw [show ixN ((ks ++ [x]).map D.int).length (-1) = some ks.length by
    unfold ixN
    rw [List.length_map, List.length_append, if_neg (by decide), if_pos (by show -((ks.length + 1 : Nat) : Int) ≤ -1; omega)]
    congr 1
    show ((-1 : Int) + ((ks.length + 1 : Nat) : Int)).toNat = _
    omega]
  exact h
theorem gk_step (c : Int) (row gaps : List Int) (i : Nat) (gl ks : List Int) (x : Int) : gkF (c :: row) (gaps.drop i) gl ks x = if c = 128 then gkF row (gaps.drop (i + 1)) gl ks (x + (gaps[i]?).getD 0) else gkF row (gaps.drop (i + 1)) (gl ++ [c]) (ks ++ [x]) (0 + (gaps[i]?).getD 0) := by
  by_cases h : i < gaps.length
  · obtain ⟨y, hy⟩ : ∃ y, gaps[i]? = some y := ⟨_, List.getElem?_eq_getElem h⟩
    rw [drop_at hy, hy]
    rfl
  · rw [List.drop_of_length_le (by omega), List.drop_of_length_le (by omega), List.getElem?_eq_none (by omega), Option.getD_none, Int.add_zero, Int.add_zero]
    rfl
def sp_Row_glyphs_and_kerns : DSp := fun ds G Q _ => ∃ (p g : Addr) (row gaps : List Int) (k : Nat), ds = [.ref p] ∧ G p = some (.ins "Row" (rowF row g k)) ∧ G g = some (.lst (gaps.map .int)) ∧ p ≠ g ∧ row.length ≤ 10000 ∧
  Q (.tup [.lst ((gkF row gaps [] [] 0).1.map .int), .lst ((gkF row gaps [] [] 0).2.map .int)]) G
def r_Row_glyphs_and_kerns_2b_0t_1 : DTS := dDrop (dBM dmAppend (dVar 2) (dCons (dC (.int 0)) (dNil)))
def r_Row_glyphs_and_kerns_2b_0t : DTS := dSeq (dDrop (dBM dmAppend (dVar 1) (dCons (dOp gIx (dFld "Row" "codes" (dVar 0)) (dVar 3)) (dNil)))) (r_Row_glyphs_and_kerns_2b_0t_1)
def r_Row_glyphs_and_kerns_2b_1t : DTS := dAugS (dVar 2) (dNeg (dC (.int 1))) (dOp gIx (dFld "Row" "gaps" (dVar 0)) (dVar 3)) gAddI
def r_Row_glyphs_and_kerns_2b_1 : DTS := dIfS (dTest (dOp gLt (dVar 3) (dCB (g1 gLen) (dCons (dFld "Row" "gaps" (dVar 0)) (dNil))))) (r_Row_glyphs_and_kerns_2b_1t) (dNext)
def r_Row_glyphs_and_kerns_2b : DTS := dSeq (dIfS (dTest (dOp (gEq true) (dOp gIx (dFld "Row" "codes" (dVar 0)) (dVar 3)) (dC (.int 128)))) (r_Row_glyphs_and_kerns_2b_0t) (dNext)) (r_Row_glyphs_and_kerns_2b_1)
def r_Row_glyphs_and_kerns_3 : DTS := dRet (dTup (dCons (dFrz (dVar 1)) (dCons (dFrz (dVar 2)) (dNil))))
def r_Row_glyphs_and_kerns_2 : DTS := dSeq (dFor (dRng1 (dCons (dCB (g1 gLen) (dCons (dFld "Row" "codes" (dVar 0)) (dNil))) (dNil))) (dgName 3) (r_Row_glyphs_and_kerns_2b)) (r_Row_glyphs_and_kerns_3)
def r_Row_glyphs_and_kerns_1 : DTS := dSeq (dSet 2 (dLstM (dCons (dC (.int 0)) (dNil)))) (r_Row_glyphs_and_kerns_2)
def r_Row_glyphs_and_kerns : DTS := dSeq (dSet 1 (dLstM (dNil))) (r_Row_glyphs_and_kerns_1)
theorem p_Row_glyphs_and_kerns (ds : List D) (G : Gp) (Q : DK) (E : DX) (h : sp_Row_glyphs_and_kerns ds G Q E) : ds.length = 1 ∧ r_Row_glyphs_and_kerns (fEnds Q E) (dstart 4 ds) G := by
  obtain ⟨p, g, row, gaps, k, rfl, hp, hg, pg, hl, q⟩ := h
  refine ⟨rfl, ?_⟩
  unfold r_Row_glyphs_and_kerns
  walk_at "dx"
  intro a ha
  unfold r_Row_glyphs_and_kerns_1
  walk_at "dx"
  intro b hb
  have ab : a ≠ b := gne gupd_same hb
  have pa : p ≠ a := gne hp ha
  have pb : p ≠ b := gne (by rw [gupd_ne pa]; exact hp) hb
  have ga : g ≠ a := gne hg ha
  have gb : g ≠ b := gne (by rw [gupd_ne ga]; exact hg) hb
  have gbn : G b = none := by
    rw [gupd_ne ab.symm] at hb
    exact hb
  unfold r_Row_glyphs_and_kerns_2
  walk_at "dx"
  rw [gupd_ne pb, gupd_ne pa, hp]
  dsimp only
  refine ⟨rfl, ?_⟩
  unfold rowF
  rw [row_getC]
  dsimp only
  rw [List.length_map]
  refine ⟨⟨by omega, by omega⟩, ?_⟩
  rw [Int.toNat_natCast]
  refine for_rng (fun i s' G' => ∃ (gl ks : List Int) (x : Int), gkF row gaps [] [] 0 = gkF (row.drop i) (gaps.drop i) gl ks x ∧ gl.length ≤ i ∧ ks.length ≤ i ∧ G' = gupd (gupd G a (.lst (gl.map .int))) b (.lst ((ks ++ [x]).map .int)) ∧ ∃ s3, s' = [some (.ref p), some (.ref a), some (.ref b), s3])
    ⟨[], [], 0, rfl, Nat.le_refl _, Nat.le_refl _, rfl, _, rfl⟩ ?_ ?_
  · rintro i s' G' hi ⟨gl, ks, x, e, h1, h2, rfl, s3, rfl⟩
    obtain ⟨c, hc⟩ : ∃ c, row[i]? = some c := ⟨_, List.getElem?_eq_getElem hi⟩
    rw [drop_at hc, gk_step] at e
    walk_at "dx"
    unfold r_Row_glyphs_and_kerns_2b
    walk_at "dx"
    have rest : ∀ (T : DEnds) (gl ks : List Int) (x : Int), T.nx [some (.ref p), some (.ref a), some (.ref b), some (.int (0 + (i : Int)))] (gupd (gupd G a (.lst (gl.map .int))) b (.lst ((ks ++ [x + (gaps[i]?).getD 0]).map .int))) →
        r_Row_glyphs_and_kerns_2b_1 T [some (.ref p), some (.ref a), some (.ref b), some (.int (0 + (i : Int)))] (gupd (gupd G a (.lst (gl.map .int))) b (.lst ((ks ++ [x]).map .int))) := fun T gl ks x q => by
      unfold r_Row_glyphs_and_kerns_2b_1 r_Row_glyphs_and_kerns_2b_1t
      walk_at "dx"
      simp only [gupd_ne pb, gupd_ne pa, gupd_ne gb, gupd_ne ga, hp, hg, rowF, row_getG, true_and, List.length_map]
      by_cases hig : i < gaps.length
      · obtain ⟨y, hy⟩ : ∃ y, gaps[i]? = some y := ⟨_, List.getElem?_eq_getElem hig⟩
        rw [if_pos (by omega), gIxM_ref, gupd_same]
        rw [hy] at q
        dsimp only
        rw [last_at]
        dsimp only
        rw [gupd_ne pb, gupd_ne pa, hp]
        dsimp only
        refine ⟨rfl, ?_⟩
        unfold rowF
        rw [row_getG]
        dsimp only
        rw [gIx_ref]
        unfold lv
        dsimp only
        rw [gupd_ne gb, gupd_ne ga, hg]
        dsimp only
        rw [Int.zero_add] at q ⊢
        rw [show atI (gaps.map D.int) (i : Int) = some (.int y) from atI_nat (by rw [List.getElem?_map, hy]; rfl)]
        unfold gAddI
        walk_at "dx"
        refine last_set ?_
        rw [show (List.map D.int (ks ++ [x])).set ks.length (.int (x + y)) = (ks ++ [x + y]).map D.int by simp]
        exact q
      · rw [if_neg (by omega)]
        rw [List.getElem?_eq_none (by omega), Option.getD_none, Int.add_zero] at q
        exact q
    simp only [gupd_ne pb, gupd_ne pa, hp, rowF, row_getC, true_and]
    rw [gIx_lst, show atI (row.map D.int) (0 + (i : Int)) = some (.int c) by
      rw [Int.zero_add]
      exact atI_nat (by rw [List.getElem?_map, hc]; rfl)]
    dsimp only
    walk_at "dx"
    by_cases h128 : c = 128
    · rw [if_pos h128] at e
      rw [if_neg (fun z => z h128)]
      exact rest _ gl ks x ⟨gl, ks, _, e, by omega, by omega, rfl, _, rfl⟩
    · rw [if_neg h128] at e
      rw [if_pos h128]
      unfold r_Row_glyphs_and_kerns_2b_0t r_Row_glyphs_and_kerns_2b_0t_1
      walk_at "dx"
      simp only [gupd_ne pb, gupd_ne pa, hp, rowF, row_getC, true_and]
      rw [gIx_lst, show atI (row.map D.int) (0 + (i : Int)) = some (.int c) by
        rw [Int.zero_add]
        exact atI_nat (by rw [List.getElem?_map, hc]; rfl)]
      dsimp only
      rw [gupd_ne ab, gupd_same]
      dsimp only
      refine ⟨trivial, size_lt (by rw [List.length_map]; omega), ?_⟩
      rw [gupd_ne ab.symm, gupd_same]
      dsimp only
      refine ⟨trivial, size_lt (by rw [List.length_map, List.length_append]; show _ + 1 < _; omega), ?_⟩
      rw [gupd_aba ab, show List.map D.int gl ++ [D.int c] = (gl ++ [c]).map D.int by rw [List.map_append]; rfl, show List.map D.int (ks ++ [x]) ++ [D.int 0] = (ks ++ [x] ++ [0]).map D.int by rw [List.map_append (l₂ := [0])]; rfl]
      exact rest _ (gl ++ [c]) (ks ++ [x]) 0 ⟨gl ++ [c], ks ++ [x], _, e, by rw [List.length_append]; show _ + 1 ≤ _; omega, by rw [List.length_append]; show _ + 1 ≤ _; omega, rfl, _, rfl⟩
  · rintro s' G' ⟨gl, ks, x, e, h1, h2, rfl, s3, rfl⟩
    rw [List.drop_length] at e
    rw [e] at q
    unfold r_Row_glyphs_and_kerns_3
    walk_at "dx"
    rw [gupd_ne ab, gupd_same]
    dsimp only
    rw [gdel_ne ab.symm, gupd_same]
    dsimp only
    rw [gdel_ab ab ha gbn]
    exact dn_id q
def sp_Row_is_done : DSp := fun ds G Q _ => ∃ (p g : Addr) (row : List Int) (k : Nat), ds = [.ref p] ∧ G p = some (.ins "Row" (rowF row g k)) ∧ Q (.bl (decide (row.length ≤ k + 1))) G
def r_Row_is_done : DTS := dRet (dOp gGe (dOp gAdd (dFld "Row" "place" (dVar 0)) (dC (.int 1))) (dCB (g1 gLen) (dCons (dFld "Row" "codes" (dVar 0)) (dNil))))
theorem p_Row_is_done (ds : List D) (G : Gp) (Q : DK) (E : DX) (h : sp_Row_is_done ds G Q E) : ds.length = 1 ∧ r_Row_is_done (fEnds Q E) (dstart 1 ds) G := by
  obtain ⟨p, g, row, k, rfl, hp, q⟩ := h
  refine ⟨rfl, ?_⟩
  unfold r_Row_is_done
  walk_at "dx"
  rw [hp]
  dsimp only
  refine ⟨rfl, ?_⟩
  unfold rowF
  rw [row_getP]
  dsimp only
  refine ⟨rfl, ?_⟩
  rw [row_getC]
  dsimp only
  rw [List.length_map, show decide ((row.length : Int) ≤ (k : Int) + 1) = decide (row.length ≤ k + 1) from decide_eq_decide.mpr (by omega)]
  exact dn_id q
def sp_Row_kern : DSp := fun ds G Q _ => ∃ (p g : Addr) (row gaps : List Int) (k : Nat) (n x : Int), ds = [.ref p, .int n] ∧ G p = some (.ins "Row" (rowF row g k)) ∧ G g = some (.lst (gaps.map .int)) ∧ p ≠ g ∧ gaps[k]? = some x ∧ gaps.length ≤ 10000 ∧
  Q .non (gupd (gupd G g (.lst ((gaps.set k (x + n)).map .int))) p (.ins "Row" (rowF row g (k + 1))))
def r_Row_kern_1 : DTS := dFldAug "Row" "place" (dVar 0) (dC (.int 1)) gAddI
def r_Row_kern : DTS := dSeq (dAugS (dFld "Row" "gaps" (dVar 0)) (dFld "Row" "place" (dVar 0)) (dVar 1) gAddI) (r_Row_kern_1)
theorem p_Row_kern (ds : List D) (G : Gp) (Q : DK) (E : DX) (h : sp_Row_kern ds G Q E) : ds.length = 2 ∧ r_Row_kern (fEnds Q E) (dstart 2 ds) G := by
  obtain ⟨p, g, row, gaps, k, n, x, rfl, hp, hg, pg, hx, hl, q⟩ := h
  refine ⟨rfl, ?_⟩
  unfold r_Row_kern
  walk_at "dx"
  rw [hp]
  dsimp only
  refine ⟨rfl, ?_⟩
  unfold rowF
  rw [row_getG]
  dsimp only
  refine ⟨rfl, ?_⟩
  rw [row_getP]
  dsimp only
  have kl : k < gaps.length := (List.getElem?_eq_some_iff.mp hx).1
  rw [gIxM_ref, hg]
  dsimp only
  rw [show atI (gaps.map D.int) (k : Int) = some (.int x) from atI_nat (by rw [List.getElem?_map, hx]; rfl)]
  unfold gAddI
  walk_at "dx"
  rw [hg]
  dsimp only
  rw [show ixN (gaps.map D.int).length (k : Int) = some k by
    unfold ixN
    rw [List.length_map, if_pos (by omega), if_pos (by omega), Int.toNat_natCast]]
  dsimp only
  unfold r_Row_kern_1
  walk_at "dx"
  rw [gupd_ne pg, hp]
  dsimp only
  refine ⟨rfl, ?_⟩
  unfold rowF
  rw [row_getP]
  dsimp only
  unfold gAddI
  walk_at "dx"
  rw [gupd_ne pg, hp]
  dsimp only
  refine ⟨rfl, by show 3 < 1000; decide, ?_⟩
  unfold rowF
  rw [row_putP, ← List.map_set]
  exact dn_id q
def sp_Row_ligature : DSp := fun ds G Q E => ∃ (p g : Addr) (row gaps : List Int) (k m : Nat) (c a b : Int) (l r : Bool), ds = [.ref p, .int c, .bl l, .bl r, .int (m : Nat)] ∧ G p = some (.ins "Row" (rowF row g k)) ∧ G g = some (.lst (gaps.map .int)) ∧ p ≠ g ∧ row[k]? = some a ∧ row[k + 1]? = some b ∧
  gaps.length + 1 = row.length ∧ row.length ≤ 10000 ∧ ∀ g2, G g2 = none →
    ((ligRow row k c l r a b).length ≤ 400 → Q .non (gupd (gupd G g2 (.lst ((ligGap gaps k l r).map .int))) p (.ins "Row" (rowF (ligRow row k c l r a b) g2 (k + m))))) ∧
    (400 < (ligRow row k c l r a b).length → E ⟨"TooLong", none⟩ (gupd (gupd G g2 (.lst ((ligGap gaps k l r).map .int))) p (.ins "Row" (rowF (ligRow row k c l r a b) g2 (k + m)))))
def r_Row_ligature_2t : DTS := dSet 6 (dOp gAdd (dLst (dCons (dOp gIx (dFld "Row" "codes" (dVar 0)) (dVar 5)) (dNil))) (dVar 6))
def r_Row_ligature_3t : DTS := dSet 6 (dOp gAdd (dVar 6) (dLst (dCons (dOp gIx (dFld "Row" "codes" (dVar 0)) (dOp gAdd (dVar 5) (dC (.int 1)))) (dNil))))
def r_Row_ligature_7t : DTS := dRaise "TooLong"
def r_Row_ligature_7 : DTS := dIfS (dTest (dOp gGt (dCB (g1 gLen) (dCons (dFld "Row" "codes" (dVar 0)) (dNil))) (dC (.int 400)))) (r_Row_ligature_7t) (dNext)
def r_Row_ligature_6 : DTS := dSeq (dFldSet "Row" "place" (dVar 0) (dOp gAdd (dVar 5) (dVar 4))) (r_Row_ligature_7)
def r_Row_ligature_5 : DTS := dSeq (dFldSet "Row" "gaps" (dVar 0) (dOp gCatM (dOp gAdd (dSl gSl (dFld "Row" "gaps" (dVar 0)) (dNoPart) (dPart (dVar 5))) (dOp gMulA (dLst (dCons (dC (.int 0)) (dNil))) (dOp gSub (dCB (g1 gLen) (dCons (dVar 6) (dNil))) (dC (.int 1))))) (dSl gSl (dFld "Row" "gaps" (dVar 0)) (dPart (dOp gAdd (dVar 5) (dC (.int 1)))) (dNoPart)))) (r_Row_ligature_6)
def r_Row_ligature_4 : DTS := dSeq (dFldSet "Row" "codes" (dVar 0) (dOp gAdd (dOp gAdd (dSl gSl (dFld "Row" "codes" (dVar 0)) (dNoPart) (dPart (dVar 5))) (dVar 6)) (dSl gSl (dFld "Row" "codes" (dVar 0)) (dPart (dOp gAdd (dVar 5) (dC (.int 2)))) (dNoPart)))) (r_Row_ligature_5)
def r_Row_ligature_3 : DTS := dSeq (dIfS (dTru (dVar 3)) (r_Row_ligature_3t) (dNext)) (r_Row_ligature_4)
def r_Row_ligature_2 : DTS := dSeq (dIfS (dTru (dVar 2)) (r_Row_ligature_2t) (dNext)) (r_Row_ligature_3)
def r_Row_ligature_1 : DTS := dSeq (dSet 6 (dLst (dCons (dVar 1) (dNil)))) (r_Row_ligature_2)
def r_Row_ligature : DTS := dSeq (dSet 5 (dFld "Row" "place" (dVar 0))) (r_Row_ligature_1)
theorem p_Row_ligature (ds : List D) (G : Gp) (Q : DK) (E : DX) (h : sp_Row_ligature ds G Q E) : ds.length = 5 ∧ r_Row_ligature (fEnds Q E) (dstart 7 ds) G := by
  obtain ⟨p, g, row, gaps, k, m, c, a, b, l, r, rfl, hp, hg, pg, ha, hb, hgr, hl, q⟩ := h
  refine ⟨rfl, ?_⟩
  have four : ∀ its, its = (ligIt c l r a b).map D.int → r_Row_ligature_4 (fEnds Q E) [some (.ref p), some (.int c), some (.bl l), some (.bl r), some (.int (m : Nat)), some (.int (k : Nat)), some (.lst its)] G := by
    rintro its rfl
    unfold r_Row_ligature_4
    walk_at "dx"
    simp only [hp, rowF, row_getC, true_and]
    have lk : k + 2 ≤ row.length := by
      have := (List.getElem?_eq_some_iff.mp hb).1
      omega
    have li : (ligIt c l r a b).length ≤ 3 := by
      unfold ligIt
      cases l <;> cases r <;> simp
    have ll : (ligRow row k c l r a b).length ≤ 10003 := by
      unfold ligRow
      rw [List.length_append, List.length_append, List.length_take, List.length_drop]
      omega
    rw [cut_hi _ (by omega), cut_lo _ (by omega), Int.toNat_natCast, show ((k : Int) + 2).toNat = k + 2 by omega, ← List.map_take, ← List.map_drop, ← List.map_append, ← List.map_append, show row.take k ++ ligIt c l r a b ++ row.drop (k + 2) = ligRow row k c l r a b from rfl]
    refine ⟨size_le ?_, size_le ?_, by show 3 < 1000; decide, ?_⟩
    · rw [List.length_map, List.length_map, List.length_take]
      omega
    · rw [List.length_map, List.length_map, List.length_append, List.length_take, List.length_drop]
      omega
    rw [row_putC]
    unfold r_Row_ligature_5
    walk_at "dx"
    simp only [gupd_ne pg.symm, hg]
    have il : (((ligIt c l r a b).map D.int).length : Int) - 1 = (((if l = true then 1 else 0) + (if r = true then 1 else 0) : Nat) : Int) := by
      unfold ligIt
      cases l <;> cases r <;> simp
    rw [il]
    have i3 : ((if l = true then 1 else 0) + (if r = true then 1 else 0) : Nat) ≤ 2 := by
      cases l <;> cases r <;> simp
    have gl : (ligGap gaps k l r).length ≤ 10003 := by
      unfold ligGap
      rw [List.length_append, List.length_append, List.length_take, List.length_drop, List.length_replicate]
      omega
    have eg : ligGap gaps k l r = gaps.take k ++ List.replicate ((if l = true then 1 else 0) + (if r = true then 1 else 0)) 0 ++ gaps.drop (k + 1) := rfl
    generalize ((if l = true then 1 else 0) + (if r = true then 1 else 0) : Nat) = n at i3 eg
    rw [Int.toNat_natCast, rep_flat, cut_hi _ (by omega), cut_lo _ (by omega), Int.toNat_natCast, show ((k : Int) + 1).toNat = k + 1 by omega, ← List.map_take, ← List.map_drop, ← List.map_append]
    refine ⟨⟨by omega, by omega⟩, size_le (by omega), size_le ?_, ?_⟩
    · rw [List.length_map, List.length_map, List.length_take, List.length_replicate]
      omega
    unfold gCatM lv
    dsimp only
    rw [← List.map_append, ← eg]
    refine ⟨size_le ?_, fun g2 hg2 => ?_⟩
    · rw [List.length_map, List.length_map, ← List.length_append, ← eg]
      omega
    have pg2 : p ≠ g2 := gne gupd_same hg2
    have gg2 : G g2 = none := by
      rw [gupd_ne pg2.symm] at hg2
      exact hg2
    obtain ⟨q1, q2⟩ := q g2 gg2
    rw [gupd_ne pg2, gupd_same]
    dsimp only
    refine ⟨rfl, by show 3 < 1000; decide, ?_⟩
    rw [row_putG, gupd_comm' pg2.symm, gupd_gupd]
    unfold r_Row_ligature_6
    walk_at "dx"
    rw [gupd_ne pg2, gupd_same]
    dsimp only
    refine ⟨rfl, by show 3 < 1000; decide, ?_⟩
    rw [row_putP, gupd_comm' pg2.symm, gupd_gupd, gupd_comm' pg2]
    unfold r_Row_ligature_7 r_Row_ligature_7t
    walk_at "dx"
    rw [← Int.natCast_add, List.length_map]
    by_cases h400 : 400 < (ligRow row k c l r a b).length
    · rw [if_pos (by omega)]
      exact dnX_id (q2 h400)
    · rw [if_neg (by omega)]
      exact dn_id (q1 (by omega))
  unfold r_Row_ligature
  walk_at "dx"
  rw [hp]
  dsimp only
  refine ⟨rfl, ?_⟩
  unfold rowF
  rw [row_getP]
  dsimp only
  unfold r_Row_ligature_1
  walk_at "dx"
  have three : ∀ its, its = ((if l = true then [a] else []) ++ [c]).map D.int → r_Row_ligature_3 (fEnds Q E) [some (.ref p), some (.int c), some (.bl l), some (.bl r), some (.int (m : Nat)), some (.int (k : Nat)), some (.lst its)] G := by
    rintro its rfl
    unfold r_Row_ligature_3 r_Row_ligature_3t
    walk_at "dx"
    cases r with
    | false =>
      rw [if_neg (by decide)]
      exact four _ (by unfold ligIt; simp)
    | true =>
      rw [if_pos rfl]
      simp only [hp, rowF, row_getC, true_and]
      rw [gIx_lst, show atI (row.map D.int) ((k : Int) + 1) = some (.int b) from atI_nat (j := k + 1) (by rw [List.getElem?_map, hb]; rfl)]
      dsimp only
      refine ⟨size_le ?_, four _ ?_⟩
      · rw [List.length_map]
        cases l <;> simp
      · unfold ligIt
        simp
  unfold r_Row_ligature_2 r_Row_ligature_2t
  walk_at "dx"
  cases l with
  | false =>
    rw [if_neg (by decide)]
    exact three _ rfl
  | true =>
    rw [if_pos rfl]
    simp only [hp, rowF, row_getC, true_and]
    rw [gIx_lst, show atI (row.map D.int) (k : Int) = some (.int a) from atI_nat (by rw [List.getElem?_map, ha]; rfl)]
    dsimp only
    exact three _ rfl
/-- n single steps from a row on; none: it grows too long -/
inductive RunN (f : Int → Int → Option Act) : Nat → List Int → List Int → Nat → Option (List Int × List Int) → Prop
  | done {row gaps : List Int} {k : Nat} (h : row.length ≤ k + 1) : RunN f 0 row gaps k (some (row, gaps))
  | skip {n k : Nat} {row gaps : List Int} {a b : Int} {o : Option (List Int × List Int)} (ha : row[k]? = some a) (hb : row[k + 1]? = some b) (h : f a b = none) (r : RunN f n row gaps (k + 1) o) : RunN f (n + 1) row gaps k o
  | kern {n k : Nat} {row gaps : List Int} {a b x y : Int} {o : Option (List Int × List Int)} (ha : row[k]? = some a) (hb : row[k + 1]? = some b) (h : f a b = some (.kern x)) (hg : gaps[k]? = some y) (r : RunN f n row (gaps.set k (y + x)) (k + 1) o) : RunN f (n + 1) row gaps k o
  | lig {n k m : Nat} {row gaps : List Int} {a b c : Int} {ls rs : Bool} {o : Option (List Int × List Int)} (ha : row[k]? = some a) (hb : row[k + 1]? = some b) (h : f a b = some (.lig c ls rs (m : Nat))) (hl : (ligRow row k c ls rs a b).length ≤ 400)
      (r : RunN f n (ligRow row k c ls rs a b) (ligGap gaps k ls rs) (k + m) o) : RunN f (n + 1) row gaps k o
  | long {n k m : Nat} {row gaps : List Int} {a b c : Int} {ls rs : Bool} (ha : row[k]? = some a) (hb : row[k + 1]? = some b) (h : f a b = some (.lig c ls rs (m : Nat))) (hl : 400 < (ligRow row k c ls rs a b).length) : RunN f n row gaps k none
def sp_set_line : DSp := fun ds G Q E => ∃ (steps : List Stp) (labels : Labs) (cs codes : List Int), ds = [.tup (steps.map stpD), .tup (labels.map labD), .lst (codes.map .int)] ∧ LigOk cs steps labels ∧ codes.length ≤ 1000 ∧
  ((∃ k ∈ ruledL steps labels [], ¬ ∃ e, Ev (ruleF steps labels) k.1 k.2 e) → E ⟨"EndlessPair", none⟩ G) ∧
  ((∀ k ∈ ruledL steps labels [], ∃ e, Ev (ruleF steps labels) k.1 k.2 e) → (398 < codes.length → E ⟨"TooLong", none⟩ G) ∧ (codes.length ≤ 398 → ∃ n o, RunN (ruleF steps labels) n (128 :: codes ++ [128]) (List.replicate (codes.length + 1) 0) 0 o ∧
    (∀ row gaps, o = some (row, gaps) → Q (.tup [.lst ((gkF row gaps [] [] 0).1.map .int), .lst ((gkF row gaps [] [] 0).2.map .int)]) G) ∧ (o = none → E ⟨"TooLong", none⟩ G)))
def r_set_line_0t : DTS := dRaise "EndlessPair"
def r_set_line_2t : DTS := dRaise "TooLong"
def r_set_line_3b_1t : DTS := dFldAug "Row" "place" (dVar 3) (dC (.int 1)) gAddI
def r_set_line_3b_1e_0t : DTS := dDrop (dMeth "Row" "kern" sp_Row_kern (dVar 3) (dCons (dOp gIx (dVar 4) (dC (.int 1))) (dNil)))
def r_set_line_3b_1e_0e : DTS := dDrop (dMeth "Row" "ligature" sp_Row_ligature (dVar 3) (dCons (dOp gIx (dVar 4) (dC (.int 1))) (dCons (dOp gIx (dVar 4) (dC (.int 2))) (dCons (dOp gIx (dVar 4) (dC (.int 3))) (dCons (dOp gIx (dVar 4) (dC (.int 4))) (dNil))))))
def r_set_line_3b_1e : DTS := dIfS (dTest (dOp (gEq false) (dOp gIx (dVar 4) (dC (.int 0))) (dC (.str "kern")))) (r_set_line_3b_1e_0t) (r_set_line_3b_1e_0e)
def r_set_line_3b_1 : DTS := dIfS (dTest (dIsN false (dVar 4))) (r_set_line_3b_1t) (r_set_line_3b_1e)
def r_set_line_3b : DTS := dSeq (dSet 4 (dCall sp_rule (dCons (dVar 0) (dCons (dVar 1) (dCons (dOp gIx (dFld "Row" "codes" (dVar 3)) (dFld "Row" "place" (dVar 3))) (dCons (dOp gIx (dFld "Row" "codes" (dVar 3)) (dOp gAdd (dFld "Row" "place" (dVar 3)) (dC (.int 1)))) (dNil))))))) (r_set_line_3b_1)
def r_set_line_4 : DTS := dRet (dMeth "Row" "glyphs_and_kerns" sp_Row_glyphs_and_kerns (dVar 3) dNil)
def r_set_line_3 : DTS := dSeq (dWhile (dNot (dTru (dMeth "Row" "is_done" sp_Row_is_done (dVar 3) dNil))) (r_set_line_3b)) (r_set_line_4)
def r_set_line_2 : DTS := dSeq (dIfS (dTest (dOp gGt (dCB (g1 gLen) (dCons (dFld "Row" "codes" (dVar 3)) (dNil))) (dC (.int 400)))) (r_set_line_2t) (dNext)) (r_set_line_3)
def r_set_line_1 : DTS := dSeq (dSet 3 (dMake "Row" sp_Row___init__ (dCons (dCB (g1 gListOf) (dCons (dVar 2) (dNil))) (dNil)))) (r_set_line_2)
def r_set_line : DTS := dSeq (dIfS (dTest (dOp gGt (dCB (g1 gLen) (dCons (dCall sp_endless_pairs (dCons (dVar 0) (dCons (dVar 1) (dNil)))) (dNil))) (dC (.int 0)))) (r_set_line_0t) (dNext)) (r_set_line_1)
theorem sl_body {T : DEnds} {G : Gp} {steps : List Stp} {labels : Labs} {s2 s4 : Option D} {p g : Addr} {row gaps : List Int} {k : Nat} {a b : Int} (hp : G p = some (.ins "Row" (rowF row g k))) (hg : G g = some (.lst (gaps.map .int))) (pg : p ≠ g) (ha : row[k]? = some a) (hb : row[k + 1]? = some b) (hgr : gaps.length + 1 = row.length) (hl : row.length ≤ 10000)
    (hv : ∀ c l r v, ruleF steps labels a b = some (.lig c l r v) → ∃ m : Nat, v = m)
    (q0 : ruleF steps labels a b = none → ∀ s4, T.nx [some (.tup (steps.map stpD)), some (.tup (labels.map labD)), s2, some (.ref p), s4] (gupd G p (.ins "Row" (rowF row g (k + 1)))))
    (q1 : ∀ x y, ruleF steps labels a b = some (.kern x) → gaps[k]? = some y → ∀ s4, T.nx [some (.tup (steps.map stpD)), some (.tup (labels.map labD)), s2, some (.ref p), s4] (gupd (gupd G g (.lst ((gaps.set k (y + x)).map .int))) p (.ins "Row" (rowF row g (k + 1)))))
    (q2 : ∀ c l r (m : Nat) g2, ruleF steps labels a b = some (.lig c l r m) → G g2 = none →
      ((ligRow row k c l r a b).length ≤ 400 → ∀ s4, T.nx [some (.tup (steps.map stpD)), some (.tup (labels.map labD)), s2, some (.ref p), s4] (gupd (gupd G g2 (.lst ((ligGap gaps k l r).map .int))) p (.ins "Row" (rowF (ligRow row k c l r a b) g2 (k + m))))) ∧
      (400 < (ligRow row k c l r a b).length → ∀ s4, T.ex ⟨"TooLong", none⟩ [some (.tup (steps.map stpD)), some (.tup (labels.map labD)), s2, some (.ref p), s4] (gupd (gupd G g2 (.lst ((ligGap gaps k l r).map .int))) p (.ins "Row" (rowF (ligRow row k c l r a b) g2 (k + m)))))) :
    r_set_line_3b T [some (.tup (steps.map stpD)), some (.tup (labels.map labD)), s2, some (.ref p), s4] G := by
  have rC : (rowF row g k).lookup (Str.ofString "codes") = some (.lst (row.map .int)) := row_getC _ _ _
  have rP : (rowF row g k).lookup (Str.ofString "place") = some (.int (k : Nat)) := row_getP _ _ _
  have rput : ∀ d, putD (Str.ofString "place") d (rowF row g k) = row3 (.lst (row.map .int)) (.ref g) d := fun d => row_putP _ _ _ d
  have i0 : atI (row.map D.int) (k : Int) = some (.int a) := atI_nat (by rw [List.getElem?_map, ha]; rfl)
  have i1 : atI (row.map D.int) ((k : Int) + 1) = some (.int b) := atI_nat (j := k + 1) (by rw [List.getElem?_map, hb]; rfl)
  unfold r_set_line_3b
  walk_at "dx"
  simp only [hp, rC, rP, true_and]
  rw [gIx_lst, i0]
  walk_at "dx"
  simp only [hp, rC, rP, true_and]
  walk_at "dx"
  rw [i1]
  dsimp only
  refine ⟨steps, labels, a, b, rfl, ?_⟩
  dsimp only
  generalize ruleF steps labels a b = act at *
  unfold r_set_line_3b_1 r_set_line_3b_1t r_set_line_3b_1e r_set_line_3b_1e_0t r_set_line_3b_1e_0e
  cases act with
  | none =>
    unfold oactD
    walk_at "dx"
    simp only [hp, rP, true_and]
    unfold gAddI
    walk_at "dx"
    rw [hp]
    dsimp only
    rw [rput]
    exact ⟨rfl, by show 3 < 1000; decide, q0 rfl _⟩
  | some act =>
    cases act with
    | kern x =>
      unfold oactD actD
      walk_at "dx"
      refine kern_kern ?_
      rw [hp]
      dsimp only
      have hk : k < gaps.length := by
        have := (List.getElem?_eq_some_iff.mp hb).1
        omega
      have hy : gaps[k]? = some gaps[k] := List.getElem?_eq_getElem hk
      exact ⟨rfl, rfl, p, g, row, gaps, k, x, _, rfl, hp, hg, pg, hy, by omega, q1 x _ rfl hy _⟩
    | lig c l r v =>
      unfold oactD actD
      walk_at "dx"
      refine lig_kern ?_
      rw [hp]
      dsimp only
      obtain ⟨m, rfl⟩ := hv c l r v rfl
      exact ⟨rfl, rfl, p, g, row, gaps, k, m, c, a, b, l, r, rfl, hp, hg, pg, ha, hb, hgr, hl, fun g2 hg2 => ⟨fun h => (q2 c l r m g2 rfl hg2).1 h _, fun h => (q2 c l r m g2 rfl hg2).2 h _⟩⟩
theorem sl_loop {Q : DK} {X : DX} {G G' : Gp} {steps : List Stp} {labels : Labs} {s2 s4 : Option D} {p g : Addr} {row gaps : List Int} {k n : Nat} {o : Option (List Int × List Int)} (sub : GSub G G') (gp : G p = none) (gg : G g = none) (hp : G' p = some (.ins "Row" (rowF row g k))) (hg : G' g = some (.lst (gaps.map .int))) (pg : p ≠ g)
    (hgr : gaps.length + 1 = row.length) (hl : row.length ≤ 400) (run : RunN (ruleF steps labels) n row gaps k o)
    (q1 : ∀ row gaps, o = some (row, gaps) → Q (.tup [.lst ((gkF row gaps [] [] 0).1.map .int), .lst ((gkF row gaps [] [] 0).2.map .int)]) G) (q2 : o = none → X ⟨"TooLong", none⟩ G) :
    r_set_line_3 (fEnds Q X) [some (.tup (steps.map stpD)), some (.tup (labels.map labD)), s2, some (.ref p), s4] G' := by
  unfold r_set_line_3
  walk_at "dx"
  refine ⟨fun n s' G' => ∃ (row gaps : List Int) (k : Nat) (g : Addr) (s4 : Option D), RunN (ruleF steps labels) n row gaps k o ∧ s' = [some (.tup (steps.map stpD)), some (.tup (labels.map labD)), s2, some (.ref p), s4] ∧ GSub G G' ∧ G g = none ∧ G' p = some (.ins "Row" (rowF row g k)) ∧ G' g = some (.lst (gaps.map .int)) ∧ p ≠ g ∧ gaps.length + 1 = row.length ∧ row.length ≤ 400,
    ⟨n, row, gaps, k, g, _, run, rfl, sub, gg, hp, hg, pg, hgr, hl⟩, ?_⟩
  rintro n s' G' ⟨row, gaps, k, g, s4, run, rfl, sub, gg, hp, hg, pg, hgr, hl⟩
  walk_at "dx"
  rw [hp]
  dsimp only
  refine ⟨rfl, rfl, p, g, row, k, rfl, hp, ?_⟩
  dsimp only
  by_cases hd : row.length ≤ k + 1
  · rw [decide_eq_true hd, if_neg (by decide)]
    have none_ : ∀ {b : Int}, row[k + 1]? = some b → False := fun h => by
      have := (List.getElem?_eq_some_iff.mp h).1
      omega
    have eo : o = some (row, gaps) := by
      cases run with
      | done => rfl
      | skip _ hb => exact (none_ hb).elim
      | kern _ hb => exact (none_ hb).elim
      | lig _ hb => exact (none_ hb).elim
      | long _ hb => exact (none_ hb).elim
    unfold r_set_line_4
    walk_at "dx"
    rw [hp]
    dsimp only
    exact ⟨rfl, rfl, p, g, row, gaps, k, rfl, hp, hg, pg, by omega, G, sub, q1 row gaps eo⟩
  · rw [decide_eq_false hd, if_pos rfl]
    obtain ⟨a, ha⟩ : ∃ a, row[k]? = some a := ⟨_, List.getElem?_eq_getElem (by omega)⟩
    obtain ⟨b, hb⟩ : ∃ b, row[k + 1]? = some b := ⟨_, List.getElem?_eq_getElem (by omega)⟩
    have hk : k < gaps.length := by omega
    refine sl_body (s2 := s2) (s4 := s4) hp hg pg ha hb hgr (by omega) (fun c l r v h => ?_) (fun h s4 => ?_) (fun x y h hy s4 => ?_) (fun c l r m g2 h hg2 => ?_)
    · cases run with
      | done h' => exact absurd h' hd
      | skip ha' hb' h' => cases ha.symm.trans ha'; cases hb.symm.trans hb'; cases h.symm.trans h'
      | kern ha' hb' h' => cases ha.symm.trans ha'; cases hb.symm.trans hb'; cases h.symm.trans h'
      | lig ha' hb' h' => cases ha.symm.trans ha'; cases hb.symm.trans hb'; cases h.symm.trans h'; exact ⟨_, rfl⟩
      | long ha' hb' h' => cases ha.symm.trans ha'; cases hb.symm.trans hb'; cases h.symm.trans h'; exact ⟨_, rfl⟩
    · cases run with
      | done h' => exact absurd h' hd
      | kern ha' hb' h' => cases ha.symm.trans ha'; cases hb.symm.trans hb'; cases h.symm.trans h'
      | lig ha' hb' h' => cases ha.symm.trans ha'; cases hb.symm.trans hb'; cases h.symm.trans h'
      | long ha' hb' h' => cases ha.symm.trans ha'; cases hb.symm.trans hb'; cases h.symm.trans h'
      | skip ha' hb' h' r => exact ⟨_, Nat.lt_succ_self _, row, gaps, k + 1, g, _, r, rfl, sub.upd gp, gg, gupd_same, by rw [gupd_ne pg.symm]; exact hg, pg, hgr, hl⟩
    · cases run with
      | done h' => exact absurd h' hd
      | skip ha' hb' h' => cases ha.symm.trans ha'; cases hb.symm.trans hb'; cases h.symm.trans h'
      | lig ha' hb' h' => cases ha.symm.trans ha'; cases hb.symm.trans hb'; cases h.symm.trans h'
      | long ha' hb' h' => cases ha.symm.trans ha'; cases hb.symm.trans hb'; cases h.symm.trans h'
      | kern ha' hb' h' hy' r =>
        cases ha.symm.trans ha'; cases hb.symm.trans hb'; cases h.symm.trans h'; cases hy.symm.trans hy'
        exact ⟨_, Nat.lt_succ_self _, row, _, k + 1, g, _, r, rfl, (sub.upd gg).upd gp, gg, gupd_same, by rw [gupd_ne pg.symm, gupd_same], pg, by rw [List.length_set]; exact hgr, hl⟩
    · have gg2 : G g2 = none := sub.free hg2
      have pg2 : p ≠ g2 := gne hp hg2
      have l1 := ligRow_len (row := row) (k := k) (c := c) (a := a) (l := l) (r := r) hb
      have l2 := ligGap_len (gaps := gaps) (l := l) (r := r) hk
      refine ⟨fun h4 s4 => ?_, fun h4 => ?_⟩
      · cases run with
        | done h' => exact absurd h' hd
        | skip ha' hb' h' => cases ha.symm.trans ha'; cases hb.symm.trans hb'; cases h.symm.trans h'
        | kern ha' hb' h' => cases ha.symm.trans ha'; cases hb.symm.trans hb'; cases h.symm.trans h'
        | long ha' hb' h' h4' => cases ha.symm.trans ha'; cases hb.symm.trans hb'; cases h.symm.trans h'; omega
        | lig ha' hb' h' h4' r =>
          cases ha.symm.trans ha'; cases hb.symm.trans hb'
          have e := h.symm.trans h'
          injection e with e
          injection e with e1 e2 e3 e4
          subst e1 e2 e3
          cases Int.ofNat.inj e4
          exact ⟨_, Nat.lt_succ_self _, _, _, _, g2, _, r, rfl, (sub.upd gg2).upd gp, gg2, gupd_same, by rw [gupd_ne pg2.symm, gupd_same], pg2, by omega, h4⟩
      · cases run with
        | done h' => exact absurd h' hd
        | skip ha' hb' h' => cases ha.symm.trans ha'; cases hb.symm.trans hb'; cases h.symm.trans h'
        | kern ha' hb' h' => cases ha.symm.trans ha'; cases hb.symm.trans hb'; cases h.symm.trans h'
        | long ha' hb' h' h4' => exact fun _ => ⟨G, (sub.upd gg2).upd gp, q2 rfl⟩
        | lig ha' hb' h' h4' r =>
          cases ha.symm.trans ha'; cases hb.symm.trans hb'
          have e := h.symm.trans h'
          injection e with e
          injection e with e1 e2 e3 e4
          subst e1 e2 e3
          omega
theorem p_set_line (ds : List D) (G : Gp) (Q : DK) (E : DX) (h : sp_set_line ds G Q E) : ds.length = 3 ∧ r_set_line (fEnds Q E) (dstart 5 ds) G := by
  obtain ⟨steps, labels, cs, codes, rfl, ok, hc, q1, q2⟩ := h
  refine ⟨rfl, ?_⟩
  unfold r_set_line r_set_line_0t
  walk_at "dx"
  refine ⟨steps, labels, cs, rfl, ok, fun ks P pm so hP => ?_⟩
  dsimp only
  by_cases hf : ks.filter P = []
  · rw [hf, List.map_nil, List.length_nil, if_neg (by decide)]
    have all : ∀ k ∈ ruledL steps labels [], ∃ e, Ev (ruleF steps labels) k.1 k.2 e := fun k hk => Classical.byContradiction fun h => by
      have hk' := pm.mem_iff.mpr hk
      have z : k ∈ ks.filter P := List.mem_filter.mpr ⟨hk', (hP k hk').mpr h⟩
      rw [hf] at z
      cases z
    obtain ⟨q3, q4⟩ := q2 all
    unfold r_set_line_1
    walk_at "dx"
    intro p hp
    refine ⟨p, codes, rfl, gupd_same, by omega, fun g hg => ?_⟩
    have pg : p ≠ g := gne gupd_same hg
    refine ⟨rfl, ?_⟩
    have len : (128 :: codes ++ [128]).length = codes.length + 2 := by
      rw [List.length_append]
      rfl
    have gg : G g = none := by
      rw [gupd_ne pg.symm] at hg
      exact hg
    generalize hrow : 128 :: codes ++ [128] = row at len q4
    generalize hgaps : List.replicate (codes.length + 1) (0 : Int) = gaps at q4
    have lg : gaps.length + 1 = row.length := by
      rw [← hgaps, len, List.length_replicate]
    rw [gupd_comm' pg, gupd_gupd]
    unfold r_set_line_2 r_set_line_2t
    walk_at "dx"
    have row0 : (rowF row g 0).lookup (Str.ofString "codes") = some (.lst (row.map .int)) := row_getC _ _ _
    rw [row0]
    dsimp only
    rw [List.length_map, len]
    have sub : GSub G (gupd (gupd G g (.lst (gaps.map .int))) p (.ins "Row" (rowF row g 0))) := ((GSub.refl G).upd gg).upd hp
    by_cases h398 : 398 < codes.length
    · rw [if_pos (by omega)]
      exact ⟨G, sub, q3 h398⟩
    · rw [if_neg (by omega)]
      obtain ⟨n, o, run, r1, r2⟩ := q4 (by omega)
      exact sl_loop sub hp gg gupd_same (by rw [gupd_ne pg.symm, gupd_same]) pg lg (by omega) run r1 r2
  · obtain ⟨k, hk⟩ : ∃ k, k ∈ ks.filter P := List.exists_mem_of_ne_nil _ hf
    obtain ⟨hk1, hk2⟩ := List.mem_filter.mp hk
    rw [if_pos (by
      have := List.length_pos_of_mem hk
      rw [List.length_map]
      omega)]
    exact dnX_id (q1 ⟨k, pm.mem_iff.mp hk1, (hP k hk1).mp hk2⟩)

def sp__law_cell : DSp := fun ds G Q _ => ∃ (ns : List Int) (k : Int), ds = [.scr ns, .int k] ∧ 0 ≤ k ∧ ∀ n : Int, Q (.int n) G
def r__law_cell_0t : DTS := dRet (dOp gIx (dVar 0) (dVar 1))
def r__law_cell_1 : DTS := dRet (dC (.int 0))
def r__law_cell : DTS := dSeq (dIfS (dTest (dOp gLt (dVar 1) (dCB (g1 gLen) (dCons (dVar 0) (dNil))))) (r__law_cell_0t) (dNext)) (r__law_cell_1)
theorem p__law_cell (ds : List D) (G : Gp) (Q : DK) (E : DX) (h : sp__law_cell ds G Q E) : ds.length = 2 ∧ r__law_cell (fEnds Q E) (dstart 2 ds) G := by
  obtain ⟨ns, k, rfl, h0, q⟩ := h
  refine ⟨rfl, ?_⟩
  unfold r__law_cell r__law_cell_0t r__law_cell_1
  walk_at "dl"
  split
  · rename_i h
    obtain ⟨x, e, _⟩ := atI_in h0 h
    rw [e]
    exact dn_id (q x)
  · exact dn_id (q 0)
def sp__law_stream : DSp := fun ds G Q _ => ∃ i : Int, ds = [.int i] ∧ Q .strm G
def r__law_stream_0t : DTS := dRet (dStrm (dCons (dVar 0) (dCons (dC (.int 0)) (dCons (dOp gMod (dCB (g1 gInt) (dCons (dVar 0) (dNil))) (dC (.int 1000003))) (dNil)))))
def r__law_stream_1 : DTS := dRet (dStrm (dCons (dC (.int 0)) (dCons (dC (.int 0)) (dCons (dOp gMod (dCB (g1 gInt) (dCons (dVar 0) (dNil))) (dC (.int 1000000007))) (dNil)))))
def r__law_stream : DTS := dSeq (dIfS (dTest (dOp gGe (dVar 0) (dOp gPow (dC (.int 10)) (dC (.int 18))))) (r__law_stream_0t) (dNext)) (r__law_stream_1)
theorem p__law_stream (ds : List D) (G : Gp) (Q : DK) (E : DX) (h : sp__law_stream ds G Q E) : ds.length = 1 ∧ r__law_stream (fEnds Q E) (dstart 1 ds) G := by
  obtain ⟨i, rfl, q⟩ := h
  refine ⟨rfl, ?_⟩
  unfold r__law_stream r__law_stream_0t r__law_stream_1
  walk_at "dl"
  refine ⟨cpow_10 (by decide) (by decide), ?_⟩
  split
  · exact dn_id q
  · exact dn_id q
def sp__law_next : DSp := fun ds G Q _ => ∃ m : Int, ds = [.strm, .int m] ∧ CDivW 0 m ∧ ∀ r : Int, 0 ≤ r → r < m → Q (.int r) G
def r__law_next_0t_2 : DTS := dRet (dVar 2)
def r__law_next_0t_1 : DTS := dSeq (dAsg (dOp gDiv (dOp gIx (dVar 0) (dC (.int 0))) (dVar 1)) (dgSub (dVar 0) (dC (.int 0)))) (r__law_next_0t_2)
def r__law_next_0t : DTS := dSeq (dSet 2 (dOp gMod (dCB (g1 gInt) (dCons (dOp gIx (dVar 0) (dC (.int 0))) (dNil))) (dVar 1))) (r__law_next_0t_1)
def r__law_next_5 : DTS := dRet (dOp gMod (dCB (g1 gInt) (dCons (dVar 3) (dNil))) (dVar 1))
def r__law_next_4 : DTS := dSeq (dSet 3 (dOp gMod (dCB (g1 gInt) (dCons (dOp gAdd (dOp gMulA (dVar 3) (dC (.int 16807))) (dOp gIx (dVar 0) (dC (.int 2)))) (dNil))) (dC (.int 2147483647)))) (r__law_next_5)
def r__law_next_3 : DTS := dSeq (dSet 3 (dOp gMod (dCB (g1 gInt) (dCons (dOp gAdd (dOp gMulA (dVar 3) (dVar 3)) (dOp gMulA (dOp gIx (dVar 0) (dC (.int 1))) (dC (.int 40692)))) (dNil))) (dC (.int 2147483399)))) (r__law_next_4)
def r__law_next_2 : DTS := dSeq (dSet 3 (dOp gMod (dCB (g1 gInt) (dCons (dOp gAdd (dOp gMulA (dOp gIx (dVar 0) (dC (.int 2))) (dC (.int 48271))) (dOp gMulA (dOp gIx (dVar 0) (dC (.int 1))) (dC (.int 69621)))) (dNil))) (dC (.int 2147483647)))) (r__law_next_3)
def r__law_next_1 : DTS := dSeq (dAsg (dOp gAdd (dOp gIx (dVar 0) (dC (.int 1))) (dC (.int 1))) (dgSub (dVar 0) (dC (.int 1)))) (r__law_next_2)
def r__law_next : DTS := dSeq (dIfS (dTest (dOp gGt (dOp gIx (dVar 0) (dC (.int 0))) (dC (.int 0)))) (r__law_next_0t) (dNext)) (r__law_next_1)
theorem p__law_next (ds : List D) (G : Gp) (Q : DK) (E : DX) (h : sp__law_next ds G Q E) : ds.length = 2 ∧ r__law_next (fEnds Q E) (dstart 4 ds) G := by
  obtain ⟨m, rfl, hm, q⟩ := h
  refine ⟨rfl, ?_⟩
  have h0 : 0 < m := hm.1
  have fin : ∀ x : Int, Q (.int (x % m)) G := fun x => q _ (Int.emod_nonneg _ (by omega)) (Int.emod_lt_of_pos _ h0)
  unfold r__law_next r__law_next_0t r__law_next_0t_1 r__law_next_0t_2 r__law_next_1 r__law_next_2 r__law_next_3 r__law_next_4 r__law_next_5
  walk_at "dl"
  intro n
  split
  · intro n
    refine ⟨h0, fun _ => ⟨cdiv_x hm, dn_id (fin n)⟩⟩
  · intro _ c
    refine ⟨cmul_r (by decide), fun d => ⟨cmul_r (by decide), ?_, fun e => ⟨cmul_r (by decide), cmul_r (by decide), fun f => ⟨h0, dn_id (fin _)⟩⟩⟩⟩
    have z0 := Int.emod_nonneg (c * 48271 + d * 69621) (show (2147483647 : Int) ≠ 0 by decide)
    have z1 := Int.emod_lt_of_pos (c * 48271 + d * 69621) (show (0 : Int) < 2147483647 by decide)
    exact cmul_l ⟨by omega, by omega⟩
def sp__law_is_integer : DSp := fun ds G Q _ => ∃ i : Int, ds = [.int i] ∧ Q (.bl true) G
def r__law_is_integer : DTS := dRet (dAndV (dCB (g2 gIsi) (dCons (dVar 0) (dCons (dC (.ty "int")) (dNil)))) (dNotV (dCB (g2 gIsi) (dCons (dVar 0) (dCons (dC (.ty "bool")) (dNil))))))
theorem p__law_is_integer (ds : List D) (G : Gp) (Q : DK) (E : DX) (h : sp__law_is_integer ds G Q E) : ds.length = 1 ∧ r__law_is_integer (fEnds Q E) (dstart 1 ds) G := by
  obtain ⟨i, rfl, q⟩ := h
  refine ⟨rfl, ?_⟩
  unfold r__law_is_integer
  walk_at "dl"
  exact dn_id q

def sp__law_ascending : DSp := fun ds G Q _ => ∃ vs : List Int, ds = [.lst (vs.map .int)] ∧ vs.length ≤ 1000 ∧ (∀ v ∈ vs, 0 ≤ v) ∧ ∀ rest, AscOf vs rest → rest.length ≤ vs.length → Q (.lst (rest.map .int)) G
def r__law_ascending_1b_0t : DTS := dDrop (dBM dmAppend (dVar 1) (dCons (dVar 2) (dNil)))
def r__law_ascending_1b : DTS := dIfS (dAnd (dTest (dOp gGt (dVar 2) (dC (.int 0)))) (dTest (dOp (gIn true) (dVar 2) (dVar 1)))) (r__law_ascending_1b_0t) (dNext)
def r__law_ascending_2 : DTS := dRet (dFrz (dVar 1))
def r__law_ascending_1 : DTS := dSeq (dFor (dItSeq (dCB (g1 gSorted) (dCons (dVar 0) (dNil)))) (dgName 2) (r__law_ascending_1b)) (r__law_ascending_2)
def r__law_ascending : DTS := dSeq (dSet 1 (dLstM (dNil))) (r__law_ascending_1)
theorem p__law_ascending (ds : List D) (G : Gp) (Q : DK) (E : DX) (h : sp__law_ascending ds G Q E) : ds.length = 1 ∧ r__law_ascending (fEnds Q E) (dstart 3 ds) G := by
  obtain ⟨vs, rfl, hl, h0, q⟩ := h
  refine ⟨rfl, ?_⟩
  unfold r__law_ascending r__law_ascending_1
  walk_at "dx"
  intro a ha
  refine ⟨vs, rfl, fun ns pm srt => ?_⟩
  have hn := pm.length_eq
  refine for_lst (fun i s' G' => ∃ (rest : List Int) (s2 : Option D), rest.length ≤ i ∧ rest.Pairwise (· < ·) ∧ (∀ k, k ∈ rest ↔ k ∈ ns.take i ∧ k ≠ 0) ∧ G' = gupd G a (.lst (rest.map .int)) ∧ s' = [some (.lst (vs.map .int)), some (.ref a), s2]) ⟨[], _, Nat.le_refl _, .nil, fun k => by rw [List.take_zero]; exact ⟨fun h => (nomatch h), fun h => (nomatch h.1)⟩, rfl, rfl⟩ ?_ ?_
  · rintro i d s' G' ed ⟨rest, s2, hlen, hs, hm, rfl, rfl⟩
    obtain ⟨v, ev, rfl⟩ := map_get ed
    have i1 := (List.getElem?_eq_some_iff.mp ev).1
    have v0 := h0 v (pm.mem_iff.mp (List.mem_of_getElem? ev))
    have le : ∀ k ∈ ns.take i, k ≤ v := fun k hk => by
      obtain ⟨j, hj, e⟩ := List.mem_iff_getElem.mp hk
      have j1 : j < i := by rw [List.length_take] at hj; omega
      rw [List.getElem_take] at e
      have := List.pairwise_iff_getElem.mp srt j i (by omega) i1 j1
      rw [(List.getElem?_eq_some_iff.mp ev).2] at this
      omega
    have skip : (v = 0 ∨ v ∈ rest) → ∃ (rest' : List Int) (s2' : Option D), rest'.length ≤ i + 1 ∧ rest'.Pairwise (· < ·) ∧ (∀ k, k ∈ rest' ↔ k ∈ ns.take (i + 1) ∧ k ≠ 0) ∧ gupd G a (.lst (rest.map .int)) = gupd G a (.lst (rest'.map D.int)) ∧ [some (.lst (vs.map .int)), some (.ref a), some (.int v)] = [some (.lst (vs.map D.int)), some (.ref a), s2'] := fun h => by
      refine ⟨rest, _, by omega, hs, fun k => ?_, rfl, rfl⟩
      rw [take_succ' ev, hm, List.mem_append, List.mem_singleton]
      constructor
      · rintro ⟨x, y⟩
        exact ⟨.inl x, y⟩
      · rintro ⟨x | x, y⟩
        · exact ⟨x, y⟩
        · rw [x]
          rcases h with h | h
          · exact absurd (x.trans h) y
          · exact (hm v).mp h
    unfold r__law_ascending_1b r__law_ascending_1b_0t
    walk_at "dx"
    by_cases c : 0 < v
    · rw [if_pos c]
      refine gin_int (vs := rest) (by unfold cv; dsimp only; rw [gupd_same]) ?_
      dsimp only
      by_cases c2 : v ∈ rest
      · simp only [c2, decide_true, Bool.not_true, if_true, Bool.false_eq_true, if_false]
        exact skip (.inr c2)
      · simp only [c2, decide_false, Bool.not_false, if_true]
        walk_at "dx"
        refine ⟨size_lt (by rw [List.length_map]; omega), rest ++ [v], _, by rw [List.length_append]; show _ + 1 ≤ _; omega, ?_, fun k => ?_, by rw [List.map_append]; rfl, rfl⟩
        · refine List.pairwise_append.mpr ⟨hs, List.pairwise_singleton _ _, fun x hx y hy => ?_⟩
          rw [List.mem_singleton.mp hy]
          have := le x ((hm x).mp hx).1
          have : x ≠ v := fun z => c2 (z ▸ hx)
          omega
        · rw [take_succ' ev, List.mem_append, hm, List.mem_append, List.mem_singleton]
          constructor
          · rintro (⟨x, y⟩ | x)
            · exact ⟨.inl x, y⟩
            · exact ⟨.inr x, by omega⟩
          · rintro ⟨x | x, y⟩
            · exact .inl ⟨x, y⟩
            · exact .inr x
    · rw [if_neg c]
      exact skip (.inl (by omega))
  · rintro s' G' ⟨rest, s2, hlen, hs, hm, rfl, rfl⟩
    rw [List.length_map, List.take_length] at hm
    rw [List.length_map] at hlen
    unfold r__law_ascending_2
    walk_at "dx"
    rw [gdel_free ha]
    exact dn_id (q rest ⟨hs, fun k => by rw [hm, pm.mem_iff]⟩ (by omega))
def sp__law_greedy : DSp := fun ds G Q _ => ∃ (rest : List Int) (e : Int), ds = [.lst (rest.map .int), .int e] ∧ rest.length ≤ 1000 ∧ Q (.lst ((grd e rest).reverse.map pt)) G
def r__law_greedy_1b_0t : DTS := dAsg (dTup (dCons (dOp gIx (dOp gIx (dVar 2) (dNeg (dC (.int 1)))) (dC (.int 0))) (dCons (dVar 3) (dNil)))) (dgSub (dVar 2) (dNeg (dC (.int 1))))
def r__law_greedy_1b_0e : DTS := dDrop (dBM dmAppend (dVar 2) (dCons (dTup (dCons (dVar 3) (dCons (dVar 3) (dNil)))) (dNil)))
def r__law_greedy_1b : DTS := dIfS (dAnd (dTest (dOp gGt (dCB (g1 gLen) (dCons (dVar 2) (dNil))) (dC (.int 0)))) (dTest (dOp gLe (dOp gSub (dVar 3) (dOp gIx (dOp gIx (dVar 2) (dNeg (dC (.int 1)))) (dC (.int 0)))) (dVar 1)))) (r__law_greedy_1b_0t) (r__law_greedy_1b_0e)
def r__law_greedy_2 : DTS := dRet (dFrz (dVar 2))
def r__law_greedy_1 : DTS := dSeq (dFor (dItSeq (dVar 0)) (dgName 3) (r__law_greedy_1b)) (r__law_greedy_2)
def r__law_greedy : DTS := dSeq (dSet 2 (dLstM (dNil))) (r__law_greedy_1)
theorem gst_len2 (e : Int) (acc : List (Int × Int)) (v : Int) : (gst e acc v).length ≤ acc.length + 1 := by
  cases acc with
  | nil => exact Nat.le_refl _
  | cons p r =>
    show (if v ≤ p.1 + e then (p.1, v) :: r else (v, v) :: p :: r).length ≤ _
    split <;> simp only [List.length_cons] <;> omega
theorem p__law_greedy (ds : List D) (G : Gp) (Q : DK) (E : DX) (h : sp__law_greedy ds G Q E) : ds.length = 2 ∧ r__law_greedy (fEnds Q E) (dstart 4 ds) G := by
  obtain ⟨rest, e, rfl, few, q⟩ := h
  refine ⟨rfl, ?_⟩
  unfold r__law_greedy r__law_greedy_1
  walk_at "dx"
  intro a ha
  refine for_lst (fun i s' G' => ∃ (acc : List Pt) (s3 : Option D), acc = grd e (rest.take i) ∧ acc.length ≤ i ∧ G' = gupd G a (.lst (acc.reverse.map pt)) ∧ s' = [some (.lst (rest.map .int)), some (.int e), some (.ref a), s3]) ⟨[], _, rfl, Nat.le_refl _, rfl, rfl⟩ ?_ ?_
  · rintro i d s' G' ed ⟨acc, s3, hacc, hlen, rfl, rfl⟩
    obtain ⟨v, ev, rfl⟩ := map_get ed
    have i62 := (List.getElem?_eq_some_iff.mp ev).1
    have nw : gst e acc v = grd e (rest.take (i + 1)) := by rw [take_succ' ev, grd_push, hacc]
    have lw := gst_len2 e acc v
    unfold r__law_greedy_1b r__law_greedy_1b_0t r__law_greedy_1b_0e
    walk_at "dx"
    have app : ∃ (acc' : List Pt) (s3' : Option D), acc' = grd e (rest.take (i + 1)) ∧ acc'.length ≤ i + 1 ∧ gupd G a (.lst (acc.reverse.map pt ++ [.tup [.int v, .int v]])) = gupd G a (.lst (acc'.reverse.map pt)) ∧ [some (.lst (rest.map .int)), some (.int e), some (.ref a), some (.int v)] = [some (.lst (rest.map D.int)), some (.int e), some (.ref a), s3'] ∨ gst e acc v ≠ (v, v) :: acc := by
      by_cases c : gst e acc v = (v, v) :: acc
      · refine ⟨_, _, .inl ⟨nw, by omega, ?_, rfl⟩⟩
        rw [c, List.reverse_cons, List.map_append]
        rfl
      · exact ⟨[], none, .inr c⟩
    have sz : (acc.reverse.map pt).length < sizeLine := size_lt (by rw [List.length_map, List.length_reverse]; omega)
    match acc, hlen, nw, lw, app, sz with
    | [], hlen, nw, lw, app, sz =>
      rw [if_neg (by decide)]
      obtain ⟨a', s', h | h⟩ := app
      · exact ⟨sz, a', s', h⟩
      · exact absurd rfl h
    | (x, y) :: r, hlen, nw, lw, app, sz =>
      rw [if_pos (by rw [List.length_map, List.length_reverse, List.length_cons]; omega), at_last rfl]
      unfold pt at *
      walk_at "dx"
      by_cases c : v ≤ x + e
      · rw [if_pos (by omega)]
        have al := at_last (acc := (x, y) :: r) (p := (x, y)) rfl
        unfold pt at al
        rw [al]
        walk_at "dx"
        obtain ⟨j, ej, es⟩ := set_last (acc := (x, y) :: r) rfl (x, v)
        unfold pt at ej es
        rw [ej]
        dsimp only
        refine ⟨_, _, nw, by omega, ?_, rfl⟩
        rw [es]
        show _ = gupd G a (.lst (((if v ≤ x + e then (x, v) :: r else (v, v) :: (x, y) :: r) : List Pt).reverse.map _))
        rw [if_pos c]
      · rw [if_neg (by omega)]
        obtain ⟨a', s', h | h⟩ := app
        · exact ⟨sz, a', s', h⟩
        · exact absurd (show (if v ≤ x + e then (x, v) :: r else (v, v) :: (x, y) :: r) = _ from if_neg c) h
  · rintro s' G' ⟨acc, s3, hacc, hlen, rfl, rfl⟩
    rw [List.length_map, List.take_length] at hacc
    unfold r__law_greedy_2
    walk_at "dx"
    rw [gdel_free ha, hacc]
    exact dn_id q
def sp__law_table : DSp := fun ds G Q _ => ∃ (vs : List Int) (lim : Int), ds = [.lst (vs.map .int), .int lim] ∧ vs.length ≤ 62 ∧ (∀ v ∈ vs, 0 ≤ v ∧ v ≤ 1000000000000) ∧ 1 ≤ lim ∧ ∀ rest t, AscOf vs rest → LeastT rest lim t → Q (.lst ((grd t rest).reverse.map pt)) G
def r__law_table_2b : DTS := dSet 3 (dOp gAdd (dVar 3) (dLc (dItSeq (dSl gSl (dVar 2) (dPart (dVar 4)) (dNoPart))) (dgName 5) (dYes) (dOp gSub (dVar 5) (dOp gIx (dVar 2) (dVar 4))) [5]))
def r__law_table_3b_0t : DTS := dRet (dCall sp__law_greedy (dCons (dVar 2) (dCons (dVar 6) (dNil))))
def r__law_table_3b : DTS := dIfS (dTest (dOp gLe (dCB (g1 gLen) (dCons (dCall sp__law_greedy (dCons (dVar 2) (dCons (dVar 6) (dNil)))) (dNil))) (dVar 1))) (r__law_table_3b_0t) (dNext)
def r__law_table_4 : DTS := dRet (dLst (dNil))
def r__law_table_3 : DTS := dSeq (dFor (dItSeq (dCB (g1 gSorted) (dCons (dVar 3) (dNil)))) (dgName 6) (r__law_table_3b)) (r__law_table_4)
def r__law_table_2 : DTS := dSeq (dFor (dRng1 (dCons (dCB (g1 gLen) (dCons (dVar 2) (dNil))) (dNil))) (dgName 4) (r__law_table_2b)) (r__law_table_3)
def r__law_table_1 : DTS := dSeq (dSet 3 (dLst (dCons (dC (.int 0)) (dNil)))) (r__law_table_2)
def r__law_table : DTS := dSeq (dSet 2 (dCall sp__law_ascending (dCons (dVar 0) (dNil)))) (r__law_table_1)
theorem p__law_table (ds : List D) (G : Gp) (Q : DK) (E : DX) (h : sp__law_table ds G Q E) : ds.length = 2 ∧ r__law_table (fEnds Q E) (dstart 7 ds) G := by
  obtain ⟨vs, lim, rfl, hl0, hB0, hlim, q0⟩ := h
  refine ⟨rfl, ?_⟩
  unfold r__law_table
  walk_at "dx"
  refine ⟨vs, rfl, by omega, fun v hv => (hB0 v hv).1, fun rest hr hrl => ?_⟩
  have hl : rest.length ≤ 62 := by omega
  have hs := hr.1
  have hB : ∀ v ∈ rest, 0 ≤ v ∧ v ≤ 1000000000000 := fun v hv => hB0 v ((hr.2 v).mp hv).1
  have q := fun t => q0 rest t hr
  unfold r__law_table_1
  walk_at "dx"
  unfold r__law_table_2
  walk_at "dx"
  rw [List.length_map]
  refine ⟨⟨by omega, by omega⟩, ?_⟩
  rw [Int.toNat_natCast]
  refine for_rng (fun i s' G' => G' = G ∧ ∃ (df : List Int) (s3 s4 : Option D), s' = [some (.lst (vs.map .int)), some (.int lim), some (.lst (rest.map .int)), some (.lst (df.map .int)), s3, s4, none] ∧ 0 ∈ df ∧ (∀ x ∈ df, 0 ≤ x ∧ x ≤ 1000000000000) ∧ df.length ≤ 1 + 62 * i ∧ ∀ a b : Nat, a < i → a ≤ b → ∀ v w, rest[a]? = some v → rest[b]? = some w → w - v ∈ df) ⟨rfl, [0], _, _, rfl, List.mem_singleton.mpr rfl, fun x hx => by rw [List.mem_singleton.mp hx]; exact ⟨by decide, by decide⟩, by decide, fun a b h => absurd h (Nat.not_lt_zero _)⟩ ?_ ?_
  · rintro i s' G' hi ⟨rfl, df, s3, s4, rfl, h0, hx, hlen, hd⟩
    unfold r__law_table_2b
    walk_at "dx"
    rw [Int.zero_add, cut_lo _ (by omega), Int.toNat_natCast]
    intro p hp
    have ei : atI (rest.map D.int) (i : Int) = some (.int rest[i]) := atI_nat (by rw [List.getElem?_map, List.getElem?_eq_getElem hi]; rfl)
    have hdrop : (rest.map D.int).drop i = (rest.drop i).map D.int := List.map_drop.symm
    rw [hdrop]
    refine lc_lst (fun j a => a = (((rest.drop i).take j).map fun v => v - rest[i]).map .int) (by rw [List.take_zero]; rfl) ?_ ?_
    · rintro j x a ej hl' rfl
      obtain ⟨u, eu, rfl⟩ := map_get ej
      have j1 := (List.getElem?_eq_some_iff.mp eu).1
      rw [List.length_drop] at j1
      walk_at "dx"
      rw [ei]
      walk_at "dx"
      refine lc_push' hl' (by omega) ?_
      rw [take_succ' eu, List.map_append, List.map_append]
      rfl
    · rintro a hl' rfl
      rw [show ((rest.drop i).map D.int).length = (rest.drop i).length from List.length_map .., List.take_length, gdel_gupd hp]
      walk_at "dx"
      refine ⟨size_le (by simp only [List.length_map, List.length_drop]; omega), df ++ (rest.drop i).map (fun v => v - rest[i]), _, _, by rw [List.map_append], List.mem_append_left _ h0, fun x hx' => ?_, ?_, fun a b ha hab v w ev ew => ?_⟩
      · rcases List.mem_append.mp hx' with z | z
        · exact hx x z
        · obtain ⟨w, hw, rfl⟩ := List.mem_map.mp z
          obtain ⟨j, hj, ej⟩ := List.mem_iff_getElem.mp hw
          rw [List.getElem_drop] at ej
          rw [List.length_drop] at hj
          have b1 := hB _ (List.getElem_mem hi)
          have b2 := hB w (List.mem_of_mem_drop hw)
          have : rest[i] ≤ w := by
            by_cases z : j = 0
            · subst z
              rw [← ej]
              exact Int.le_refl _
            · have := List.pairwise_iff_getElem.mp hs i (i + j) hi (by omega) (by omega)
              rw [ej] at this
              omega
          exact ⟨by omega, by omega⟩
      · rw [List.length_append, List.length_map, List.length_drop]
        omega
      · by_cases z : a = i
        · subst z
          refine List.mem_append_right _ (List.mem_map.mpr ⟨w, ?_, ?_⟩)
          · refine List.mem_of_getElem? (i := b - a) ?_
            rw [List.getElem?_drop, show a + (b - a) = b by omega]
            exact ew
          · rw [(List.getElem?_eq_some_iff.mp ev).2]
        · exact List.mem_append_left _ (hd a b (by omega) hab v w ev ew)
  rintro s' G' ⟨rfl, df, s3, s4, rfl, h0, hx, hlen, hd⟩
  have hD : ∀ v ∈ rest, ∀ w ∈ rest, 0 < w - v → w - v ∈ df := fun v hv w hw h => by
    obtain ⟨a, ha, ea⟩ := List.mem_iff_getElem.mp hv
    obtain ⟨b, hb, eb⟩ := List.mem_iff_getElem.mp hw
    refine hd a b ha ?_ v w (by rw [List.getElem?_eq_getElem ha, ea]) (by rw [List.getElem?_eq_getElem hb, eb])
    refine Nat.not_lt.mp fun z => ?_
    have := List.pairwise_iff_getElem.mp hs b a hb ha z
    omega
  unfold r__law_table_3
  walk_at "dx"
  refine ⟨df, rfl, fun ns pm srt => ?_⟩
  refine for_lst (fun i s' G2 => G2 = G' ∧ (∀ d ∈ ns.take i, lim < ((grd d rest).length : Int)) ∧ ∃ s5, s' = [some (.lst (vs.map .int)), some (.int lim), some (.lst (rest.map .int)), some (.lst (df.map .int)), s3, s4, s5]) ⟨rfl, (fun d h => by rw [List.take_zero] at h; cases h), _, rfl⟩ ?_ ?_
  · rintro i d s' G2 ed ⟨rfl, hbig, s5, rfl⟩
    obtain ⟨e, ee, rfl⟩ := map_get ed
    have i1 := (List.getElem?_eq_some_iff.mp ee).1
    have hee := hx e (pm.mem_iff.mp (List.mem_of_getElem? ee))
    unfold r__law_table_3b r__law_table_3b_0t
    walk_at "dx"
    refine ⟨rest, e, rfl, by omega, ?_⟩
    walk_at "dx"
    rw [List.length_map, List.length_reverse]
    by_cases c : ((grd e rest).length : Int) ≤ lim
    · rw [if_pos c]
      refine ⟨rest, e, rfl, by omega, dn_id (q e ⟨hee.1, hee.2, c, ?_⟩)⟩
      have le : ∀ j : Nat, j < i → ∀ (h : j < ns.length), ns[j] < e := fun j hj h => by
        have a := List.pairwise_iff_getElem.mp srt j i h i1 hj
        rw [(List.getElem?_eq_some_iff.mp ee).2] at a
        have b := hbig ns[j] (List.mem_iff_getElem.mpr ⟨j, by rw [List.length_take]; omega, by rw [List.getElem_take]⟩)
        by_cases z : ns[j] = e
        · rw [z] at b
          omega
        · omega
      by_cases i0 : i = 0
      · left
        subst i0
        obtain ⟨k, hk, ek⟩ := List.mem_iff_getElem.mp (pm.mem_iff.mpr h0)
        by_cases z : k = 0
        · subst z
          have := (List.getElem?_eq_some_iff.mp ee).2
          omega
        · have a := List.pairwise_iff_getElem.mp srt 0 k i1 hk (by omega)
          rw [(List.getElem?_eq_some_iff.mp ee).2, ek] at a
          omega
      · right
        have l1 : i - 1 < ns.length := by omega
        have lt := le (i - 1) (by omega) l1
        have d0 := (hx ns[i - 1] (pm.mem_iff.mp (List.getElem_mem l1))).1
        have same : grd (e - 1) rest = grd ns[i - 1] rest := grd_same fun v hv w hw => by
          constructor
          · intro h
            by_cases z : 0 < w - v
            · obtain ⟨k, hk, ek⟩ := List.mem_iff_getElem.mp (pm.mem_iff.mpr (hD v hv w hw z))
              by_cases y : k < i
              · by_cases y2 : k = i - 1
                · subst y2
                  omega
                · have := List.pairwise_iff_getElem.mp srt k (i - 1) hk l1 (by omega)
                  omega
              · by_cases y2 : k = i
                · subst y2
                  rw [(List.getElem?_eq_some_iff.mp ee).2] at ek
                  omega
                · have := List.pairwise_iff_getElem.mp srt i k i1 hk (by omega)
                  rw [(List.getElem?_eq_some_iff.mp ee).2] at this
                  omega
            · omega
          · intro h
            omega
        rw [same]
        exact hbig _ (List.mem_iff_getElem.mpr ⟨i - 1, by rw [List.length_take]; omega, by rw [List.getElem_take]⟩)
    · rw [if_neg c]
      refine ⟨fun d hd' => ?_, _, rfl⟩
      rw [take_succ' ee] at hd'
      rcases List.mem_append.mp hd' with z | z
      · exact hbig d z
      · rw [List.mem_singleton.mp z]
        omega
  · rintro s' G2 ⟨rfl, hbig, s5, rfl⟩
    exfalso
    rw [List.length_map, List.take_length] at hbig
    have z0 := hbig 0 (pm.mem_iff.mpr h0)
    cases rest with
    | nil =>
      have : ((0 : Nat) : Int) > lim := z0
      omega
    | cons x r =>
      have lastm := List.getLast_mem (l := x :: r) (List.cons_ne_nil _ _)
      have top : ∀ v ∈ x :: r, v ≤ (x :: r).getLast (List.cons_ne_nil _ _) := fun v hv => by
        have e := List.dropLast_concat_getLast (l := x :: r) (List.cons_ne_nil _ _)
        have s := hs
        rw [← e] at hv s
        rcases List.mem_append.mp hv with z | z
        · exact Int.le_of_lt ((List.pairwise_append.mp s).2.2 v z _ (List.mem_singleton.mpr rfl))
        · rw [List.mem_singleton.mp z]
          exact Int.le_refl _
      have low : ∀ v ∈ x :: r, x ≤ v := fun v hv => by
        rcases List.mem_cons.mp hv with z | z
        · rw [z]; exact Int.le_refl _
        · exact Int.le_of_lt ((List.pairwise_cons.mp hs).1 v z)
      generalize (x :: r).getLast (List.cons_ne_nil _ _) = w at lastm top
      have hxw := top x List.mem_cons_self
      have one := grd_one (e := w - x) (by omega) hs fun a ha b hb => by
        have := low a ha
        have := top b hb
        omega
      by_cases z : w - x = 0
      · rw [z] at one
        omega
      · have := hbig _ (pm.mem_iff.mpr (hD x List.mem_cons_self w lastm (by omega)))
        omega
def sp__law_middle : DSp := fun ds G Q _ => ∃ (acc : List Pt) (v : Int), ds = [.lst (acc.map pt), .int v] ∧ Q (.int (tval acc v)) G
def r__law_middle_0b_0t : DTS := dRet (dOp gDiv (dOp gAdd (dVar 2) (dVar 3)) (dC (.int 2)))
def r__law_middle_0b : DTS := dIfS (dAnd (dTest (dOp gLe (dVar 2) (dVar 1))) (dTest (dOp gLe (dVar 1) (dVar 3)))) (r__law_middle_0b_0t) (dNext)
def r__law_middle_1 : DTS := dRet (dC (.int 0))
def r__law_middle : DTS := dSeq (dFor (dItSeq (dVar 0)) (dgTup 2 (dgCons (dgName 2) (dgCons (dgName 3) (dgNil)))) (r__law_middle_0b)) (r__law_middle_1)
theorem p__law_middle (ds : List D) (G : Gp) (Q : DK) (E : DX) (h : sp__law_middle ds G Q E) : ds.length = 2 ∧ r__law_middle (fEnds Q E) (dstart 4 ds) G := by
  obtain ⟨acc, v, rfl, q⟩ := h
  refine ⟨rfl, ?_⟩
  unfold r__law_middle
  walk_at "dx"
  refine for_lst (fun i s' G' => G' = G ∧ (∀ q ∈ acc.take i, ¬ (q.1 ≤ v ∧ v ≤ q.2)) ∧ ∃ s2 s3, s' = [some (.lst (acc.map pt)), some (.int v), s2, s3]) ⟨rfl, (fun q hq => by rw [List.take_zero] at hq; cases hq), _, _, rfl⟩ ?_ ?_
  · rintro i d s' G' ed ⟨rfl, hn, s2, s3, rfl⟩
    obtain ⟨p, ep, rfl⟩ := map_get ed
    have nx : ¬ (p.1 ≤ v ∧ v ≤ p.2) → ∀ q ∈ acc.take (i + 1), ¬ (q.1 ≤ v ∧ v ≤ q.2) := fun h q hq => by
      rw [take_succ' ep] at hq
      rcases List.mem_append.mp hq with z | z
      · exact hn q z
      · rw [List.mem_singleton.mp z]
        exact h
    unfold r__law_middle_0b r__law_middle_0b_0t pt
    walk_at "dx"
    by_cases c1 : p.1 ≤ v
    · rw [if_pos c1]
      by_cases c2 : v ≤ p.2
      · rw [if_pos c2]
        refine ⟨cdiv_s (by decide) (by decide), ?_⟩
        rw [find_take ep hn ⟨c1, c2⟩] at q
        exact dn_id q
      · rw [if_neg c2]
        exact ⟨nx fun z => c2 z.2, _, _, rfl⟩
    · rw [if_neg c1]
      exact ⟨nx fun z => c1 z.1, _, _, rfl⟩
  · rintro s' G' ⟨rfl, hn, s2, s3, rfl⟩
    rw [List.length_map, List.take_length] at hn
    unfold r__law_middle_1
    walk_at "dx"
    have : tval acc v = 0 := by
      unfold tval
      rw [List.find?_eq_none.mpr fun q hq => by rw [decide_eq_false (hn q hq)]; decide]
    rw [this] at q
    exact dn_id q
def sp_Font_character : DSp := fun ds G Q E => ∃ (p : Addr) (cs : List Mch) (ss ls : D) (k : Int), ds = [.ref p, .int k] ∧ G p = some (fntG cs ss ls) ∧
  (∀ i c, cs[i]? = some c → c.code = k → (∀ (j : Nat) (d : Mch), j < i → cs[j]? = some d → d.code ≠ k) → Q (mchD c) G) ∧ ((∀ c ∈ cs, c.code ≠ k) → E ⟨"OutOfRange", none⟩ G)
def r_Font_character_0b_0t : DTS := dRet (dVar 2)
def r_Font_character_0b : DTS := dIfS (dTest (dOp (gEq false) (dOp gIx (dVar 2) (dC (.int 0))) (dVar 1))) (r_Font_character_0b_0t) (dNext)
def r_Font_character_1 : DTS := dRaise "OutOfRange"
def r_Font_character : DTS := dSeq (dFor (dItSeq (dFld "Font" "characters" (dVar 0))) (dgName 2) (r_Font_character_0b)) (r_Font_character_1)
theorem p_Font_character (ds : List D) (G : Gp) (Q : DK) (E : DX) (h : sp_Font_character ds G Q E) : ds.length = 2 ∧ r_Font_character (fEnds Q E) (dstart 3 ds) G := by
  obtain ⟨p, cs, ss, ls, k, rfl, hp, q1, q2⟩ := h
  refine ⟨rfl, ?_⟩
  unfold fntG at hp
  unfold r_Font_character
  walk_at "dx"
  rw [hp]
  dsimp only
  refine ⟨rfl, ?_⟩
  rw [fn_c]
  walk_at "dx"
  refine for_lst (fun i s' G' => G' = G ∧ (∀ (j : Nat) (d : Mch), j < i → cs[j]? = some d → d.code ≠ k) ∧ ∃ s2, s' = [some (.ref p), some (.int k), s2]) ⟨rfl, fun j d h => (by omega), _, rfl⟩ ?_ ?_
  · rintro i y s' G' hy ⟨rfl, hn, s2, rfl⟩
    obtain ⟨c, hc, rfl⟩ := map_get hy
    unfold r_Font_character_0b r_Font_character_0b_0t mchD
    walk_at "dx"
    by_cases h : c.code = k
    · rw [if_pos h]
      exact dn_id (q1 i c hc h hn)
    · rw [if_neg h]
      refine ⟨fun j d hj ed => ?_, _, rfl⟩
      by_cases e : j = i
      · rw [e, hc] at ed
        cases ed
        exact h
      · exact hn j d (by omega) ed
  · rintro s' G' ⟨rfl, hn, s2, rfl⟩
    unfold r_Font_character_1
    walk_at "dx"
    refine ⟨G', fun _ _ h => h, q2 fun c hc => ?_⟩
    obtain ⟨j, hj⟩ := List.mem_iff_getElem?.mp hc
    exact hn j c (by rw [List.length_map]; exact (List.getElem?_eq_some_iff.mp hj).1) hj
def sp_Font_metric_values : DSp := fun ds G Q _ => ∃ (p : Addr) (cs : List Mch) (ss ls : D) (k : Nat), ds = [.ref p, .int k] ∧ G p = some (fntG cs ss ls) ∧ MchOk cs ∧ k < 4 ∧ Q (.lst ((mvF cs k).map .int)) G
def r_Font_metric_values : DTS := dRet (dLc (dItSeq (dFld "Font" "characters" (dVar 0))) (dgName 2) (dYes) (dOp gIx (dOp gIx (dVar 2) (dC (.int 4))) (dVar 1)) [2])
theorem p_Font_metric_values (ds : List D) (G : Gp) (Q : DK) (E : DX) (h : sp_Font_metric_values ds G Q E) : ds.length = 2 ∧ r_Font_metric_values (fEnds Q E) (dstart 3 ds) G := by
  obtain ⟨p, cs, ss, ls, k, rfl, hp, ok, hk, q⟩ := h
  refine ⟨rfl, ?_⟩
  unfold fntG at hp
  unfold r_Font_metric_values
  walk_at "dx"
  rw [hp]
  dsimp only
  refine ⟨rfl, ?_⟩
  rw [fn_c]
  walk_at "dx"
  intro a ha
  refine lc_lst (fun i acc => acc = ((cs.take i).map fun c => c.mets.getD k 0).map .int) (by rw [List.take_zero]; rfl) ?_ ?_
  · rintro i y acc hy hl' rfl
    obtain ⟨c, hc, rfl⟩ := map_get hy
    have li := (List.getElem?_eq_some_iff.mp hc).1
    have := ok.n
    unfold mchD
    walk_at "dx"
    rw [met_at (ok.m c (List.mem_of_getElem? hc)).1 hk]
    dsimp only
    refine lc_push' hl' (by omega) ?_
    rw [take_succ' hc, List.map_append, List.map_append]
    rfl
  · rintro acc hl' rfl
    rw [gdel_gupd ha, List.length_map, List.take_length]
    exact dn_id q
def FirstC (cs : List Mch) (k : Int) (c : Mch) : Prop := ∃ i : Nat, cs[i]? = some c ∧ c.code = k ∧ ∀ (j : Nat) d, j < i → cs[j]? = some d → d.code ≠ k
def sp_Font_table_value : DSp := fun ds G Q E => ∃ (p : Addr) (cs : List Mch) (ss ls : D) (k : Nat) (code : Int), ds = [.ref p, .int code, .int k] ∧ G p = some (fntG cs ss ls) ∧ MchOk cs ∧ k < 4 ∧
  (∀ c, FirstC cs code c → ∀ rest t, AscOf (mvF cs k) rest → LeastT rest (limM k) t → Q (.int (tval (grd t rest).reverse (c.mets.getD k 0))) G) ∧ ((∀ c ∈ cs, c.code ≠ code) → E ⟨"OutOfRange", none⟩ G)
def r_Font_table_value_1 : DTS := dRet (dCall sp_table_value (dCons (dMeth "Font" "metric_values" sp_Font_metric_values (dVar 0) (dCons (dVar 2) (dNil))) (dCons (dOp gIx (dC (.tup [.int 8, .int 4, .int 3, .int 2])) (dVar 2)) (dCons (dVar 3) (dNil)))))
def r_Font_table_value : DTS := dSeq (dSet 3 (dOp gIx (dOp gIx (dMeth "Font" "character" sp_Font_character (dVar 0) (dCons (dVar 1) (dNil))) (dC (.int 4))) (dVar 2))) (r_Font_table_value_1)
theorem p_Font_table_value (ds : List D) (G : Gp) (Q : DK) (E : DX) (h : sp_Font_table_value ds G Q E) : ds.length = 3 ∧ r_Font_table_value (fEnds Q E) (dstart 4 ds) G := by
  obtain ⟨p, cs, ss, ls, k, code, rfl, hp, ok, hk, q1, q2⟩ := h
  refine ⟨rfl, ?_⟩
  obtain ⟨l1, l2⟩ := lim_at hk
  obtain ⟨m1, m2⟩ := mv_ok ok hk
  have hp' := hp
  unfold fntG at hp'
  unfold r_Font_table_value
  walk_at "dx"
  rw [hp']
  refine ⟨rfl, rfl, p, cs, ss, ls, code, rfl, hp, fun i c hc hk' hn => ?_, fun h => ⟨G, fun _ _ h => h, q2 h⟩⟩
  have q := q1 c ⟨i, hc, hk', hn⟩
  unfold mchD
  walk_at "dx"
  rw [met_at (ok.m c (List.mem_of_getElem? hc)).1 hk]
  dsimp only
  unfold r_Font_table_value_1
  walk_at "dx"
  rw [hp']
  refine ⟨rfl, rfl, p, cs, ss, ls, k, rfl, hp, ok, hk, ?_⟩
  walk_at "dx"
  rw [l1]
  dsimp only
  exact ⟨mvF cs k, limM k, _, rfl, m1, m2, l2, fun rest t hr ht => dn_id (q rest t hr ht)⟩
def sp_Font_pixel : DSp := fun ds G _ E => ∃ (p : Addr) (cs : List Mch) (ss ls : D) (k i j : Int), ds = [.ref p, .int k, .int i, .int j] ∧ G p = some (fntG cs ss ls) ∧ (∀ c ∈ cs, c.code ≠ k) ∧ E ⟨"OutOfRange", none⟩ G
def r_Font_pixel_1t : DTS := dRet (dC (.bl false))
def r_Font_pixel_3 : DTS := dRet (dAndV (dChain gLe gLt (dVar 5) (dVar 2) (dOp gAdd (dVar 5) (dCB (g1 gLen) (dCons (dVar 8) (dNil))))) (dOp (gEq false) (dOp gIx (dVar 8) (dOp gSub (dVar 2) (dVar 5))) (dC (.int 1))))
def r_Font_pixel_2 : DTS := dSeq (dSet 8 (dOp gIx (dVar 7) (dOp gSub (dOp gSub (dCB (g1 gLen) (dCons (dVar 7) (dNil))) (dC (.int 1))) (dOp gSub (dVar 3) (dVar 6))))) (r_Font_pixel_3)
def r_Font_pixel_1 : DTS := dSeq (dIfS (dOr (dTest (dOp gLt (dVar 3) (dVar 6))) (dTest (dOp gGe (dVar 3) (dOp gAdd (dVar 6) (dCB (g1 gLen) (dCons (dVar 7) (dNil))))))) (r_Font_pixel_1t) (dNext)) (r_Font_pixel_2)
def r_Font_pixel : DTS := dSeq (dAsg (dMeth "Font" "character" sp_Font_character (dVar 0) (dCons (dVar 1) (dNil))) (dgTup 5 (dgCons (dgName 4) (dgCons (dgName 5) (dgCons (dgName 6) (dgCons (dgName 7) (dgCons (dgName 4) (dgNil)))))))) (r_Font_pixel_1)
theorem p_Font_pixel (ds : List D) (G : Gp) (Q : DK) (E : DX) (h : sp_Font_pixel ds G Q E) : ds.length = 4 ∧ r_Font_pixel (fEnds Q E) (dstart 9 ds) G := by
  obtain ⟨p, cs, ss, ls, k, i, j, rfl, hp, no, q⟩ := h
  refine ⟨rfl, ?_⟩
  have hp' := hp
  unfold fntG at hp'
  unfold r_Font_pixel
  walk_at "dx"
  rw [hp']
  exact ⟨rfl, rfl, p, cs, ss, ls, k, rfl, hp, fun i c hc e _ => absurd e (no c (List.mem_of_getElem? hc)), fun _ => ⟨G, fun _ _ h => h, q⟩⟩
def sp__law_refuses : DSp := fun ds G Q _ => ∃ (p : Addr) (cs : List Mch) (ss ls : D) (k : Int), ds = [.ref p, .int k] ∧ G p = some (fntG cs ss ls) ∧ MchOk cs ∧ (∀ c ∈ cs, c.code ≠ k) ∧ Q (.bl true) G
def r__law_refuses_1y : DTS := dDrop (dMeth "Font" "character" sp_Font_character (dVar 0) (dCons (dVar 1) (dNil)))
def r__law_refuses_1h0 (e : Exn) (a : Addr) : DTS := dSet 2 (dOp gAdd (dVar 2) (dCB (g1 gInt) (dCons (dCB (g2 (gIsE kitm e a)) (dCons (dVar 3) (dCons (dC (.glo "FontError")) (dNil)))) (dNil))))
def r__law_refuses_2y : DTS := dDrop (dMeth "Font" "table_value" sp_Font_table_value (dVar 0) (dCons (dVar 1) (dCons (dC (.int 0)) (dNil))))
def r__law_refuses_2h0 (e : Exn) (a : Addr) : DTS := dSet 2 (dOp gAdd (dVar 2) (dC (.int 1)))
def r__law_refuses_3y : DTS := dDrop (dMeth "Font" "pixel" sp_Font_pixel (dVar 0) (dCons (dVar 1) (dCons (dC (.int 0)) (dCons (dC (.int 0)) (dNil)))))
def r__law_refuses_3h0 (e : Exn) (a : Addr) : DTS := dSet 2 (dOp gAdd (dVar 2) (dC (.int 1)))
def r__law_refuses_4 : DTS := dRet (dOp (gEq false) (dVar 2) (dC (.int 3)))
def r__law_refuses_3 : DTS := dSeq (dTry m_OutOfRange (r__law_refuses_3y) (fun e a => (r__law_refuses_3h0 e a))) (r__law_refuses_4)
def r__law_refuses_2 : DTS := dSeq (dTry m_OutOfRange (r__law_refuses_2y) (fun e a => (r__law_refuses_2h0 e a))) (r__law_refuses_3)
def r__law_refuses_1 : DTS := dSeq (dTryAs 3 m_OutOfRange (r__law_refuses_1y) (fun e a => (r__law_refuses_1h0 e a))) (r__law_refuses_2)
def r__law_refuses : DTS := dSeq (dSet 2 (dC (.int 0))) (r__law_refuses_1)
theorem p__law_refuses (ds : List D) (G : Gp) (Q : DK) (E : DX) (h : sp__law_refuses ds G Q E) : ds.length = 2 ∧ r__law_refuses (fEnds Q E) (dstart 4 ds) G := by
  obtain ⟨p, cs, ss, ls, k, rfl, hp, ok, no, q⟩ := h
  refine ⟨rfl, ?_⟩
  have hp' := hp
  unfold fntG at hp'
  unfold r__law_refuses
  walk_at "dx"
  unfold r__law_refuses_1 r__law_refuses_1y
  walk_at "dx"
  rw [hp']
  refine ⟨rfl, rfl, p, cs, ss, ls, k, rfl, hp, fun i c hc e _ => absurd e (no c (List.mem_of_getElem? hc)), fun _ => ?_⟩
  walk_at "dx"
  intro e he
  unfold r__law_refuses_1h0
  walk_at "dx"
  unfold r__law_refuses_2 r__law_refuses_2y
  walk_at "dx"
  rw [hp']
  refine ⟨rfl, rfl, p, cs, ss, ls, 0, k, rfl, hp, ok, by decide, fun c ⟨i, hc, e, _⟩ => absurd e (no c (List.mem_of_getElem? hc)), fun _ => ?_⟩
  walk_at "dx"
  intro e he
  unfold r__law_refuses_2h0
  walk_at "dx"
  unfold r__law_refuses_3 r__law_refuses_3y
  walk_at "dx"
  rw [hp']
  refine ⟨rfl, rfl, p, cs, ss, ls, k, 0, 0, rfl, hp, no, ?_⟩
  walk_at "dx"
  intro e he
  unfold r__law_refuses_3h0
  walk_at "dx"
  unfold r__law_refuses_4
  walk_at "dx"
  exact dn_id q
def sp_Font_line : DSp := fun ds G Q E => ∃ (p : Addr) (cs : List Mch) (ss ls x : D), ds = [.ref p, x] ∧ G p = some (fntG cs ss ls) ∧ sp_set_line [ss, ls, x] G (dn Q) fun e G1 => dnX E e G1
def r_Font_line : DTS := dRet (dCall sp_set_line (dCons (dFld "Font" "steps" (dVar 0)) (dCons (dFld "Font" "labels" (dVar 0)) (dCons (dVar 1) (dNil)))))
theorem p_Font_line (ds : List D) (G : Gp) (Q : DK) (E : DX) (h : sp_Font_line ds G Q E) : ds.length = 2 ∧ r_Font_line (fEnds Q E) (dstart 2 ds) G := by
  obtain ⟨p, cs, ss, ls, x, rfl, hp, q⟩ := h
  refine ⟨rfl, ?_⟩
  unfold fntG at hp
  unfold r_Font_line
  walk_at "dx"
  rw [hp]
  dsimp only
  refine ⟨rfl, ?_⟩
  rw [fn_s]
  dsimp only
  refine ⟨rfl, ?_⟩
  rw [fn_l]
  dsimp only
  exact q
def sp_Font___contains__ : DSp := fun ds G Q _ => ∃ (p : Addr) (cs : List Mch) (ss ls : D) (k : Int), ds = [.ref p, .int k] ∧ G p = some (fntG cs ss ls) ∧ cs.length ≤ 1000 ∧ Q (.bl (cs.any fun c => decide (c.code = k))) G
def r_Font___contains__ : DTS := dRet (dCB (g1 (gAny false)) (dCons (dLc (dItSeq (dFld "Font" "characters" (dVar 0))) (dgName 2) (dYes) (dOp (gEq false) (dOp gIx (dVar 2) (dC (.int 0))) (dVar 1)) [2]) (dNil)))
theorem p_Font___contains__ (ds : List D) (G : Gp) (Q : DK) (E : DX) (h : sp_Font___contains__ ds G Q E) : ds.length = 2 ∧ r_Font___contains__ (fEnds Q E) (dstart 3 ds) G := by
  obtain ⟨p, cs, ss, ls, k, rfl, hp, hl, q⟩ := h
  refine ⟨rfl, ?_⟩
  unfold fntG at hp
  unfold r_Font___contains__
  walk_at "dx"
  rw [hp]
  dsimp only
  refine ⟨rfl, ?_⟩
  rw [fn_c]
  walk_at "dx"
  intro a ha
  refine lc_lst (fun i acc => acc = ((cs.take i).map fun c => decide (c.code = k)).map .bl) (by rw [List.take_zero]; rfl) ?_ ?_
  · rintro i y acc hy hl' rfl
    obtain ⟨c, hc, rfl⟩ := map_get hy
    have li := (List.getElem?_eq_some_iff.mp hc).1
    unfold mchD
    walk_at "dx"
    refine lc_push' hl' (by omega) ?_
    rw [take_succ' hc, List.map_append, List.map_append]
    rfl
  · rintro acc hl' rfl
    rw [gdel_gupd ha, List.length_map, List.take_length]
    refine ⟨cs.map fun c => decide (c.code = k), rfl, ?_⟩
    rw [List.any_map] 
    exact dn_id q
def sp_Font_glyph_width : DSp := fun ds G Q _ => ∃ (p : Addr) (cs : List Mch) (ss ls : D) (k : Int), ds = [.ref p, .int k] ∧ G p = some (fntG cs ss ls) ∧ MchOk cs ∧
  (∀ c, FirstC cs k c → ∀ rest t, AscOf (mvF cs 0) rest → LeastT rest (limM 0) t → Q (.int (tval (grd t rest).reverse (c.mets.getD 0 0))) G) ∧ ((∀ c ∈ cs, c.code ≠ k) → Q (.int 0) G)
def r_Font_glyph_width_0t : DTS := dRet (dMeth "Font" "table_value" sp_Font_table_value (dVar 0) (dCons (dVar 1) (dCons (dC (.int 0)) (dNil))))
def r_Font_glyph_width_1 : DTS := dRet (dC (.int 0))
def r_Font_glyph_width : DTS := dSeq (dIfS (dTest (dOp (gInO false "Font" sp_Font___contains__) (dVar 1) (dVar 0))) (r_Font_glyph_width_0t) (dNext)) (r_Font_glyph_width_1)
theorem p_Font_glyph_width (ds : List D) (G : Gp) (Q : DK) (E : DX) (h : sp_Font_glyph_width ds G Q E) : ds.length = 2 ∧ r_Font_glyph_width (fEnds Q E) (dstart 2 ds) G := by
  obtain ⟨p, cs, ss, ls, k, rfl, hp, ok, q1, q2⟩ := h
  refine ⟨rfl, ?_⟩
  have hp' := hp
  unfold fntG at hp'
  have := ok.n
  unfold r_Font_glyph_width r_Font_glyph_width_0t
  walk_at "dx"
  unfold gInO gIns
  dsimp only
  rw [hp']
  refine ⟨rfl, p, cs, ss, ls, k, rfl, hp, by omega, ?_⟩
  dsimp only
  cases h : cs.any fun c => decide (c.code = k) with
  | true =>
    walk_at "dx"
    rw [hp']
    refine ⟨rfl, rfl, p, cs, ss, ls, 0, k, rfl, hp, ok, by decide, fun c hc rest t hr ht => dn_id (q1 c hc rest t hr ht), fun no => ?_⟩
    obtain ⟨c, hc, e⟩ := List.any_eq_true.mp h
    exact absurd (of_decide_eq_true e) (no c hc)
  | false =>
    walk_at "dx"
    unfold r_Font_glyph_width_1
    walk_at "dx"
    refine dn_id (q2 fun c hc e => ?_)
    have z := List.any_eq_false.mp h c hc
    exact z (decide_eq_true e)
/-- a code's width by the font's table -/
def GwR (cs : List Mch) (g v : Int) : Prop := (∃ c, FirstC cs g c ∧ ∃ rest t, AscOf (mvF cs 0) rest ∧ LeastT rest (limM 0) t ∧ v = tval (grd t rest).reverse (c.mets.getD 0 0)) ∨ ((∀ c ∈ cs, c.code ≠ g) ∧ v = 0)
theorem sl_mono {ds : List D} {G : Gp} {Q Q' : DK} {E E' : DX} (h : sp_set_line ds G Q E) (hQ : ∀ d G1, Q d G1 → Q' d G1) (hE : ∀ e G1, E e G1 → E' e G1) : sp_set_line ds G Q' E' := by
  obtain ⟨steps, labels, cs, codes, rfl, ok, hl, h1, h2⟩ := h
  refine ⟨steps, labels, cs, codes, rfl, ok, hl, fun z => hE _ _ (h1 z), fun z => ⟨fun l => hE _ _ ((h2 z).1 l), fun l => ?_⟩⟩
  obtain ⟨n, o, run, a, b⟩ := (h2 z).2 l
  exact ⟨n, o, run, fun row gaps e => hQ _ _ (a row gaps e), fun e => hE _ _ (b e)⟩
theorem gw_call {p : Addr} {cs : List Mch} {ss ls : D} {G : Gp} {Q : DK} {E : DX} {g : Int} (hp : G p = some (fntG cs ss ls)) (ok : MchOk cs) (q : ∀ v, GwR cs g v → Q (.int v) G) : sp_Font_glyph_width [.ref p, .int g] G Q E :=
  ⟨p, cs, ss, ls, g, rfl, hp, ok, fun c hc rest t hr ht => q _ (.inl ⟨c, hc, rest, t, hr, ht, rfl⟩), fun no => q 0 (.inr ⟨no, rfl⟩)⟩
def LineQ (G : Gp) (K : List Int → List Int → Prop) : DK := fun r G2 => G2 = G ∧ ∃ gs ks : List Int, r = .tup [.lst (gs.map .int), .lst (ks.map .int)] ∧ gs.length ≤ 1000 ∧ ks.length ≤ 1000 ∧ K gs ks
def GwAll (cs : List Mch) (gs vs : List Int) : Prop := vs.length = gs.length ∧ ∀ (i : Nat) (g v : Int), gs[i]? = some g → vs[i]? = some v → GwR cs g v
def sp_Font_width : DSp := fun ds G Q E => ∃ (p : Addr) (cs : List Mch) (ss ls x : D), ds = [.ref p, x] ∧ G p = some (fntG cs ss ls) ∧ MchOk cs ∧ sp_set_line [ss, ls, x] G (LineQ G fun gs ks => ∀ vs, GwAll cs gs vs → Q (.int (vs.sum + ks.sum)) G) fun e G2 => G2 = G ∧ E e G
def r_Font_width_1 : DTS := dRet (dOp gAdd (dCB (g1 gSum) (dCons (dLc (dItSeq (dVar 2)) (dgName 4) (dYes) (dMeth "Font" "glyph_width" sp_Font_glyph_width (dVar 0) (dCons (dVar 4) (dNil))) [4]) (dNil))) (dCB (g1 gSum) (dCons (dVar 3) (dNil))))
def r_Font_width : DTS := dSeq (dAsg (dMeth "Font" "line" sp_Font_line (dVar 0) (dCons (dVar 1) (dNil))) (dgTup 2 (dgCons (dgName 2) (dgCons (dgName 3) (dgNil))))) (r_Font_width_1)
theorem p_Font_width (ds : List D) (G : Gp) (Q : DK) (E : DX) (h : sp_Font_width ds G Q E) : ds.length = 2 ∧ r_Font_width (fEnds Q E) (dstart 5 ds) G := by
  obtain ⟨p, cs, ss, ls, x, rfl, hp, ok, h⟩ := h
  refine ⟨rfl, ?_⟩
  have hp' := hp
  unfold fntG at hp'
  unfold r_Font_width
  walk_at "dx"
  rw [hp']
  refine ⟨rfl, rfl, p, cs, ss, ls, x, rfl, hp, sl_mono h (fun d G1 z => ?_) fun e G1 z => ?_⟩
  · obtain ⟨rfl, gs, ks, rfl, lg, lk, q⟩ := z
    refine dn_id ?_
    walk_at "dx"
    unfold r_Font_width_1
    walk_at "dx"
    intro a ha
    refine lc_lst (fun i acc => ∃ vs : List Int, vs.length = i ∧ (∀ (j : Nat) (g v : Int), gs[j]? = some g → vs[j]? = some v → GwR cs g v) ∧ acc = vs.map .int) ⟨[], rfl, fun j g v _ h => (by rw [List.getElem?_nil] at h; cases h), rfl⟩ ?_ ?_
    · rintro i y acc hy hl' ⟨vs, lv', hv, rfl⟩
      obtain ⟨g, hg, rfl⟩ := map_get hy
      have li := (List.getElem?_eq_some_iff.mp hg).1
      have pa : p ≠ a := gne hp ha
      have hp2 : gupd G1 a (.lst (vs.map .int)) p = some (fntG cs ss ls) := by rw [gupd_ne pa, hp]
      have hp3 := hp2
      unfold fntG at hp3
      walk_at "dx"
      rw [hp3]
      refine ⟨rfl, rfl, gw_call hp2 ok fun v gv => ?_⟩
      refine lc_push hl' (by omega) ⟨vs ++ [v], by rw [List.length_append, lv']; rfl, fun j g' v' hg' hv' => ?_, by rw [List.map_append]; rfl⟩
      by_cases e : j = i
      · rw [e, hg] at hg'
        rw [e, List.getElem?_append_right (by omega), lv', Nat.sub_self] at hv'
        cases hg'
        cases hv'
        exact gv
      · by_cases l : j < i
        · rw [List.getElem?_append_left (by omega)] at hv'
          exact hv j g' v' hg' hv'
        · rw [List.getElem?_eq_none (by rw [List.length_append]; show vs.length + 1 ≤ j; omega)] at hv'
          cases hv'
    · rintro acc hl' ⟨vs, lv', hv, rfl⟩
      rw [gdel_gupd ha]
      rw [List.length_map] at lv'
      refine ⟨vs, rfl, ⟨ks, rfl, ?_⟩⟩
      walk_at "dx"
      exact dn_id (q vs ⟨lv', hv⟩)
  · obtain ⟨rfl, z⟩ := z
    exact ⟨G1, fun _ _ h => h, ⟨G1, fun _ _ h => h, z⟩⟩
def posL (ks vs : List Int) (n : Nat) : List Int := (List.range n).map fun j => (ks.take (j + 1)).sum + (vs.take j).sum
theorem posL_app {ks vs : List Int} {v : Int} {n : Nat} (h : n ≤ vs.length + 1) : posL ks (vs ++ [v]) n = posL ks vs n := List.map_congr_left fun j hj => by
  have := List.mem_range.mp hj
  rw [List.take_append_of_le_length (by omega)]
theorem posL_succ (ks vs : List Int) (n : Nat) : posL ks vs (n + 1) = posL ks vs n ++ [(ks.take (n + 1)).sum + (vs.take n).sum] := by
  unfold posL
  rw [List.range_succ, List.map_append]
  rfl
theorem take_sum {ks : List Int} {n : Nat} {k : Int} (h : ks[n]? = some k) : (ks.take (n + 1)).sum = (ks.take n).sum + k := by
  rw [take_succ' h, List.sum_append]
  simp
def sp_Font_positions : DSp := fun ds G Q E => ∃ (p : Addr) (cs : List Mch) (ss ls x : D), ds = [.ref p, x] ∧ G p = some (fntG cs ss ls) ∧ MchOk cs ∧ sp_set_line [ss, ls, x] G (LineQ G fun gs ks => gs.length ≤ ks.length ∧ ∀ vs, GwAll cs gs vs → Q (.lst ((posL ks vs gs.length).map .int)) G) fun e G2 => G2 = G ∧ E e G
def r_Font_positions_3b_2 : DTS := dAug 4 (dMeth "Font" "glyph_width" sp_Font_glyph_width (dVar 0) (dCons (dOp gIx (dVar 2) (dVar 6)) (dNil))) gAddI
def r_Font_positions_3b_1 : DTS := dSeq (dDrop (dBM dmAppend (dVar 5) (dCons (dVar 4) (dNil)))) (r_Font_positions_3b_2)
def r_Font_positions_3b : DTS := dSeq (dAug 4 (dOp gIx (dVar 3) (dVar 6)) gAddI) (r_Font_positions_3b_1)
def r_Font_positions_4 : DTS := dRet (dFrz (dVar 5))
def r_Font_positions_3 : DTS := dSeq (dFor (dRng1 (dCons (dCB (g1 gLen) (dCons (dVar 2) (dNil))) (dNil))) (dgName 6) (r_Font_positions_3b)) (r_Font_positions_4)
def r_Font_positions_2 : DTS := dSeq (dSet 5 (dLstM (dNil))) (r_Font_positions_3)
def r_Font_positions_1 : DTS := dSeq (dSet 4 (dC (.int 0))) (r_Font_positions_2)
def r_Font_positions : DTS := dSeq (dAsg (dMeth "Font" "line" sp_Font_line (dVar 0) (dCons (dVar 1) (dNil))) (dgTup 2 (dgCons (dgName 2) (dgCons (dgName 3) (dgNil))))) (r_Font_positions_1)
theorem p_Font_positions (ds : List D) (G : Gp) (Q : DK) (E : DX) (h : sp_Font_positions ds G Q E) : ds.length = 2 ∧ r_Font_positions (fEnds Q E) (dstart 7 ds) G := by
  obtain ⟨p, cs, ss, ls, x, rfl, hp, ok, h⟩ := h
  refine ⟨rfl, ?_⟩
  have hp' := hp
  unfold fntG at hp'
  unfold r_Font_positions
  walk_at "dx"
  rw [hp']
  refine ⟨rfl, rfl, p, cs, ss, ls, x, rfl, hp, sl_mono h (fun d G1 z => ?_) fun e G1 z => ?_⟩
  · obtain ⟨rfl, gs, ks, rfl, lg, lk, gk, q⟩ := z
    refine dn_id ?_
    walk_at "dx"
    unfold r_Font_positions_1
    walk_at "dx"
    unfold r_Font_positions_2
    walk_at "dx"
    intro a ha
    have pa : p ≠ a := gne hp ha
    unfold r_Font_positions_3
    walk_at "dx"
    rw [List.length_map]
    refine ⟨⟨by omega, by omega⟩, ?_⟩
    rw [Int.toNat_natCast]
    refine for_rng (fun i s' G' => ∃ vs : List Int, vs.length = i ∧ (∀ (j : Nat) (g v : Int), gs[j]? = some g → vs[j]? = some v → GwR cs g v) ∧ G' = gupd G1 a (.lst ((posL ks vs i).map .int)) ∧ ∃ s6, s' = [some (.ref p), some x, some (.lst (gs.map .int)), some (.lst (ks.map .int)), some (.int ((ks.take i).sum + vs.sum)), some (.ref a), s6]) ⟨[], rfl, fun j g v _ h => (by rw [List.getElem?_nil] at h; cases h), rfl, _, rfl⟩ ?_ ?_
    · rintro i s' G' hi ⟨vs, lv', hv, rfl, s6, rfl⟩
      have hk := List.getElem?_eq_getElem (show i < ks.length by omega)
      have hg := List.getElem?_eq_getElem (show i < gs.length from hi)
      generalize ks[i] = k at hk
      generalize gs[i] = g at hg
      have ak : atI (ks.map D.int) (i : Int) = some (.int k) := atI_nat (by rw [List.getElem?_map, hk]; rfl)
      have ag : atI (gs.map D.int) (i : Int) = some (.int g) := atI_nat (by rw [List.getElem?_map, hg]; rfl)
      have tk := take_sum hk
      have pl : (posL ks vs i).length = i := by
        unfold posL
        rw [List.length_map, List.length_range]
      unfold r_Font_positions_3b
      walk_at "dx"
      rw [Int.zero_add, ak]
      dsimp only
      unfold r_Font_positions_3b_1
      walk_at "dx"
      refine ⟨size_lt (by rw [List.length_map]; omega), ?_⟩
      unfold r_Font_positions_3b_2
      walk_at "dx"
      have hp2 : gupd G1 a (.lst ((posL ks vs i).map .int ++ [.int ((ks.take i).sum + vs.sum + k)])) p = some (fntG cs ss ls) := by rw [gupd_ne pa, hp]
      have hp3 := hp2
      unfold fntG at hp3
      rw [hp3]
      refine ⟨rfl, rfl, ?_⟩
      rw [ag]
      dsimp only
      refine gw_call hp2 ok fun v gv => ?_
      refine ⟨vs ++ [v], by rw [List.length_append, lv']; rfl, fun j g' v' hg' hv' => ?_, ?_, some (.int i), ?_⟩
      · by_cases e : j = i
        · rw [e, hg] at hg'
          rw [e, List.getElem?_append_right (by omega), lv', Nat.sub_self] at hv'
          cases hg'
          cases hv'
          exact gv
        · by_cases l : j < i
          · rw [List.getElem?_append_left (by omega)] at hv'
            exact hv j g' v' hg' hv'
          · rw [List.getElem?_eq_none (by rw [List.length_append]; show vs.length + 1 ≤ j; omega)] at hv'
            cases hv'
      · rw [posL_app (by omega), posL_succ, tk, List.take_of_length_le (l := vs) (by omega), List.map_append]
        show gupd G1 a (.lst ((posL ks vs i).map .int ++ [.int ((ks.take i).sum + vs.sum + k)])) = gupd G1 a (.lst ((posL ks vs i).map .int ++ [.int ((ks.take i).sum + k + vs.sum)]))
        rw [show (ks.take i).sum + vs.sum + k = (ks.take i).sum + k + vs.sum by omega]
      · have sv : (vs ++ [v]).sum = vs.sum + v := by
          rw [List.sum_append]
          simp
        dsimp only
        rw [tk, sv, show (ks.take i).sum + vs.sum + k + v = (ks.take i).sum + k + (vs.sum + v) by omega]
    · rintro s' G' ⟨vs, lv', hv, rfl, s6, rfl⟩
      unfold r_Font_positions_4
      walk_at "dx"
      rw [gdel_free ha]
      exact dn_id (q vs ⟨lv', hv⟩)
  · obtain ⟨rfl, z⟩ := z
    exact ⟨G1, fun _ _ h => h, ⟨G1, fun _ _ h => h, z⟩⟩

def sp__law_too_long : DSp := fun ds G Q _ => ∃ (p : Addr) (cs : List Mch) (ss ls x : D), ds = [.ref p, x] ∧ G p = some (fntG cs ss ls) ∧ MchOk cs ∧ sp_set_line [ss, ls, x] G (fun _ _ => False) (fun e G2 => G2 = G ∧ e = ⟨"TooLong", none⟩) ∧ Q (.bl true) G
def r__law_too_long_1y : DTS := dDrop (dMeth "Font" "line" sp_Font_line (dVar 0) (dCons (dVar 1) (dNil)))
def r__law_too_long_1h0 (e : Exn) (a : Addr) : DTS := dSet 2 (dOp gAdd (dVar 2) (dCB (g1 gInt) (dCons (dCB (g2 (gIsE kitm e a)) (dCons (dVar 3) (dCons (dC (.glo "FontError")) (dNil)))) (dNil))))
def r__law_too_long_2y : DTS := dDrop (dMeth "Font" "width" sp_Font_width (dVar 0) (dCons (dVar 1) (dNil)))
def r__law_too_long_2h0 (e : Exn) (a : Addr) : DTS := dSet 2 (dOp gAdd (dVar 2) (dC (.int 1)))
def r__law_too_long_3y : DTS := dDrop (dMeth "Font" "positions" sp_Font_positions (dVar 0) (dCons (dVar 1) (dNil)))
def r__law_too_long_3h0 (e : Exn) (a : Addr) : DTS := dSet 2 (dOp gAdd (dVar 2) (dC (.int 1)))
def r__law_too_long_4 : DTS := dRet (dOp (gEq false) (dVar 2) (dC (.int 3)))
def r__law_too_long_3 : DTS := dSeq (dTry m_TooLong (r__law_too_long_3y) (fun e a => (r__law_too_long_3h0 e a))) (r__law_too_long_4)
def r__law_too_long_2 : DTS := dSeq (dTry m_TooLong (r__law_too_long_2y) (fun e a => (r__law_too_long_2h0 e a))) (r__law_too_long_3)
def r__law_too_long_1 : DTS := dSeq (dTryAs 3 m_TooLong (r__law_too_long_1y) (fun e a => (r__law_too_long_1h0 e a))) (r__law_too_long_2)
def r__law_too_long : DTS := dSeq (dSet 2 (dC (.int 0))) (r__law_too_long_1)
theorem p__law_too_long (ds : List D) (G : Gp) (Q : DK) (E : DX) (h : sp__law_too_long ds G Q E) : ds.length = 2 ∧ r__law_too_long (fEnds Q E) (dstart 4 ds) G := by
  obtain ⟨p, cs, ss, ls, x, rfl, hp, ok, hl, q⟩ := h
  refine ⟨rfl, ?_⟩
  have hp' := hp
  unfold fntG at hp'
  have three : r__law_too_long_3 (fEnds Q E) [some (.ref p), some x, some (.int 2), none] G := by
    unfold r__law_too_long_3 r__law_too_long_3y
    walk_at "dx"
    rw [hp']
    refine ⟨rfl, rfl, p, cs, ss, ls, x, rfl, hp, ok, sl_mono hl (fun _ _ z => z.elim) fun e G1 z => ?_⟩
    obtain ⟨rfl, rfl⟩ := z
    refine ⟨rfl, ?_⟩
    walk_at "dx"
    intro e he
    unfold r__law_too_long_3h0
    walk_at "dx"
    unfold r__law_too_long_4
    walk_at "dx"
    exact dn_id q
  have two : r__law_too_long_2 (fEnds Q E) [some (.ref p), some x, some (.int 1), none] G := by
    unfold r__law_too_long_2 r__law_too_long_2y
    walk_at "dx"
    rw [hp']
    refine ⟨rfl, rfl, p, cs, ss, ls, x, rfl, hp, ok, sl_mono hl (fun _ _ z => z.elim) fun e G1 z => ?_⟩
    obtain ⟨rfl, rfl⟩ := z
    refine ⟨rfl, ?_⟩
    walk_at "dx"
    intro e he
    unfold r__law_too_long_2h0
    walk_at "dx"
    exact three
  unfold r__law_too_long
  walk_at "dx"
  unfold r__law_too_long_1 r__law_too_long_1y
  walk_at "dx"
  rw [hp']
  refine ⟨rfl, rfl, p, cs, ss, ls, x, rfl, hp, sl_mono hl (fun _ _ z => z.elim) fun e G1 z => ?_⟩
  obtain ⟨rfl, rfl⟩ := z
  refine ⟨G1, fun _ _ h => h, ?_⟩
  walk_at "dx"
  intro e he
  unfold r__law_too_long_1h0
  walk_at "dx"
  exact two
/-- a step that kerns and is the last of its program -/
def kstD (s : Int × Int) : D := stpD ⟨s.1, .kern s.2, true⟩
def kernF (steps : List (Int × Int)) (left right : Int) : Labs → Int
  | [] => 0
  | l :: ls => if l.1 = left ∧ (steps.getD l.2 (0, 0)).1 = right then (steps.getD l.2 (0, 0)).2 else kernF steps left right ls
def sp__law_kern : DSp := fun ds G Q _ => ∃ (p r : Addr) (steps : List (Int × Int)) (labels : Labs) (a b : Int), ds = [.ref p, .ref r, .int a, .int b] ∧ G p = some (.lst (steps.map kstD)) ∧ G r = some (.lst (labels.map labD)) ∧ (∀ l ∈ labels, l.2 < steps.length) ∧ Q (.int (kernF steps a b labels)) G
def r__law_kern_0b_0t : DTS := dRet (dOp gIx (dOp gIx (dOp gIx (dVar 0) (dVar 5)) (dC (.int 1))) (dC (.int 1)))
def r__law_kern_0b : DTS := dIfS (dAnd (dTest (dOp (gEq false) (dVar 4) (dVar 2))) (dTest (dOp (gEq false) (dOp gIx (dOp gIx (dVar 0) (dVar 5)) (dC (.int 0))) (dVar 3)))) (r__law_kern_0b_0t) (dNext)
def r__law_kern_1 : DTS := dRet (dC (.int 0))
def r__law_kern : DTS := dSeq (dFor (dItSeq (dVar 1)) (dgTup 2 (dgCons (dgName 4) (dgCons (dgName 5) (dgNil)))) (r__law_kern_0b)) (r__law_kern_1)
theorem kst_at {steps : List (Int × Int)} {k : Nat} (h : k < steps.length) : atI (steps.map kstD) (k : Int) = some (kstD (steps.getD k (0, 0))) := atI_nat (by
  rw [List.getElem?_map, List.getD_eq_getElem?_getD, List.getElem?_eq_getElem h]
  rfl)
theorem kern_drop {steps : List (Int × Int)} {a b : Int} : ∀ {labels : Labs} {i : Nat}, (∀ l ∈ labels.take i, ¬ (l.1 = a ∧ (steps.getD l.2 (0, 0)).1 = b)) → kernF steps a b labels = kernF steps a b (labels.drop i)
  | [], i, _ => by rw [List.drop_nil]
  | l :: ls, 0, _ => rfl
  | l :: ls, i + 1, h => by
    rw [List.drop_succ_cons, ← kern_drop (labels := ls) (i := i) fun x hx => h x (by rw [List.take_succ_cons]; exact List.mem_cons_of_mem _ hx)]
    exact if_neg (h l (by rw [List.take_succ_cons]; exact List.mem_cons_self))
theorem p__law_kern (ds : List D) (G : Gp) (Q : DK) (E : DX) (h : sp__law_kern ds G Q E) : ds.length = 4 ∧ r__law_kern (fEnds Q E) (dstart 6 ds) G := by
  obtain ⟨p, r, steps, labels, a, b, rfl, hx, hy, hl, q⟩ := h
  refine ⟨rfl, ?_⟩
  unfold r__law_kern
  walk_at "dx"
  rw [hy]
  dsimp only
  refine for_ref (fun i s' G' => G' = G ∧ (∀ l ∈ labels.take i, ¬ (l.1 = a ∧ (steps.getD l.2 (0, 0)).1 = b)) ∧ ∃ s4 s5, s' = [some (.ref p), some (.ref r), some (.int a), some (.int b), s4, s5]) ⟨rfl, (fun q hq => by rw [List.take_zero] at hq; cases hq), _, _, rfl⟩ ?_ ?_ ?_
  · rintro i s' G' ⟨rfl, _⟩
    exact hy
  · rintro i d s' G' ed ⟨rfl, hn, s4, s5, rfl⟩
    obtain ⟨l, el, rfl⟩ := map_get ed
    have kd := kern_drop hn
    rw [drop_at el] at kd
    have nx : ¬ (l.1 = a ∧ (steps.getD l.2 (0, 0)).1 = b) → ∀ q ∈ labels.take (i + 1), ¬ (q.1 = a ∧ (steps.getD q.2 (0, 0)).1 = b) := fun h q hq => by
      rw [take_succ' el] at hq
      rcases List.mem_append.mp hq with z | z
      · exact hn q z
      · rw [List.mem_singleton.mp z]
        exact h
    have ks := kst_at (hl l (List.mem_of_getElem? el))
    unfold r__law_kern_0b r__law_kern_0b_0t labD
    walk_at "dx"
    by_cases c1 : l.1 = a
    · rw [if_pos c1, hx]
      dsimp only
      rw [ks]
      rw [show kstD (steps.getD l.2 (0, 0)) = .tup [.int (steps.getD l.2 (0, 0)).1, .tup [.str "kern", .int (steps.getD l.2 (0, 0)).2], .bl true] from rfl]
      walk_at "dx"
      by_cases c2 : (steps.getD l.2 (0, 0)).1 = b
      · rw [if_pos c2]
        rw [kd, show kernF steps a b (l :: labels.drop (i + 1)) = (steps.getD l.2 (0, 0)).2 from if_pos ⟨c1, c2⟩] at q
        rw [hx]
        dsimp only
        rw [ks]
        rw [show kstD (steps.getD l.2 (0, 0)) = .tup [.int (steps.getD l.2 (0, 0)).1, .tup [.str "kern", .int (steps.getD l.2 (0, 0)).2], .bl true] from rfl]
        walk_at "dx"
        exact dn_id q
      · rw [if_neg c2]
        exact ⟨nx fun z => c2 z.2, _, _, rfl⟩
    · rw [if_neg c1]
      exact ⟨nx fun z => c1 z.1, _, _, rfl⟩
  · rintro s' G' ⟨rfl, hn, s4, s5, rfl⟩
    rw [List.length_map] at hn
    have kd := kern_drop hn
    rw [List.drop_length] at kd
    rw [kd] at q
    unfold r__law_kern_1
    walk_at "dx"
    exact dn_id q
def sp_Font___init__ : DSp := fun ds G Q _ => ∃ (p : Addr) (cs : List Mch) (ss ls : List D), ds = [.ref p, .tup (cs.map mchD), .tup ss, .tup ls] ∧ G p = some (.ins "Font" []) ∧ Q .non (gupd G p (fntG cs (.tup ss) (.tup ls)))
def r_Font___init___2 : DTS := dFldSet "Font" "labels" (dVar 0) (dCB (g1 gTupOf) (dCons (dVar 3) (dNil)))
def r_Font___init___1 : DTS := dSeq (dFldSet "Font" "steps" (dVar 0) (dCB (g1 gTupOf) (dCons (dVar 2) (dNil)))) (r_Font___init___2)
def r_Font___init__ : DTS := dSeq (dFldSet "Font" "characters" (dVar 0) (dCB (g1 gTupOf) (dCons (dVar 1) (dNil)))) (r_Font___init___1)
theorem p_Font___init__ (ds : List D) (G : Gp) (Q : DK) (E : DX) (h : sp_Font___init__ ds G Q E) : ds.length = 4 ∧ r_Font___init__ (fEnds Q E) (dstart 4 ds) G := by
  obtain ⟨p, cs, ss, ls, rfl, hp, q⟩ := h
  refine ⟨rfl, ?_⟩
  unfold r_Font___init__
  walk_at "dx"
  rw [hp]
  dsimp only
  refine ⟨rfl, by show 0 < 1000; decide, ?_⟩
  unfold r_Font___init___1
  walk_at "dx"
  refine ⟨by show 1 < 1000; decide, ?_⟩
  unfold r_Font___init___2
  walk_at "dx"
  exact ⟨by show 2 < 1000; decide, dn_id q⟩
def sp_Font___len__ : DSp := fun ds G Q _ => ∃ (p : Addr) (cs : List Mch) (ss ls : D), ds = [.ref p] ∧ G p = some (fntG cs ss ls) ∧ Q (.int cs.length) G
def r_Font___len__ : DTS := dRet (dCB (g1 gLen) (dCons (dFld "Font" "characters" (dVar 0)) (dNil)))
theorem p_Font___len__ (ds : List D) (G : Gp) (Q : DK) (E : DX) (h : sp_Font___len__ ds G Q E) : ds.length = 1 ∧ r_Font___len__ (fEnds Q E) (dstart 1 ds) G := by
  obtain ⟨p, cs, ss, ls, rfl, hp, q⟩ := h
  refine ⟨rfl, ?_⟩
  unfold fntG at hp
  unfold r_Font___len__
  walk_at "dx"
  rw [hp]
  dsimp only
  refine ⟨rfl, ?_⟩
  rw [fn_c]
  walk_at "dx"
  rw [List.length_map]
  exact dn_id q
def sp_Font_table : DSp := fun ds G Q _ => ∃ (p : Addr) (cs : List Mch) (ss ls : D) (k : Nat), ds = [.ref p, .int k] ∧ G p = some (fntG cs ss ls) ∧ MchOk cs ∧ k < 4 ∧ ∀ rest t, AscOf (mvF cs k) rest → LeastT rest (limM k) t → Q (.lst ((0 :: mids (grd t rest).reverse).map .int)) G
def r_Font_table : DTS := dRet (dCall sp_table (dCons (dMeth "Font" "metric_values" sp_Font_metric_values (dVar 0) (dCons (dVar 1) (dNil))) (dCons (dOp gIx (dC (.tup [.int 8, .int 4, .int 3, .int 2])) (dVar 1)) (dNil))))
theorem p_Font_table (ds : List D) (G : Gp) (Q : DK) (E : DX) (h : sp_Font_table ds G Q E) : ds.length = 2 ∧ r_Font_table (fEnds Q E) (dstart 2 ds) G := by
  obtain ⟨p, cs, ss, ls, k, rfl, hp, ok, hk, q⟩ := h
  refine ⟨rfl, ?_⟩
  obtain ⟨l1, l2⟩ := lim_at hk
  obtain ⟨m1, m2⟩ := mv_ok ok hk
  have hp' := hp
  unfold fntG at hp'
  unfold r_Font_table
  walk_at "dx"
  rw [hp']
  refine ⟨rfl, rfl, p, cs, ss, ls, k, rfl, hp, ok, hk, ?_⟩
  walk_at "dx"
  rw [l1]
  dsimp only
  exact ⟨mvF cs k, limM k, rfl, m1, m2, l2, fun rest t hr ht => dn_id (q rest t hr ht)⟩
def r_law_2t : DTS := dSet 2 (dCall sp__law_next (dCons (dVar 1) (dCons (dC (.int 25)) (dNil))))
def r_law_6b_2 : DTS := dDrop (dBM dmAppend (dVar 6) (dCons (dTup (dCons (dOp gAdd (dVar 3) (dVar 7)) (dCons (dC (.int 0)) (dCons (dC (.int 0)) (dCons (dTup (dNil)) (dCons (dVar 9) (dNil))))))) (dNil)))
def r_law_6b_1 : DTS := dSeq (dSet 9 (dCB (g1 gTupOf) (dCons (dLc (dRng1 (dCons (dC (.int 4)) (dNil))) (dgName 5) (dYes) (dCall sp__law_next (dCons (dVar 8) (dCons (dOp gAdd (dOp gIx (dVar 4) (dVar 5)) (dC (.int 1))) (dNil)))) [5]) (dNil)))) (r_law_6b_2)
def r_law_6b : DTS := dSeq (dSet 8 (dCall sp__law_stream (dCons (dCall sp__law_cell (dCons (dVar 0) (dCons (dOp gAdd (dVar 7) (dC (.int 2))) (dNil)))) (dNil)))) (r_law_6b_1)
def r_law_9b_1 : DTS := dDrop (dBM dmAppend (dVar 11) (dCons (dTup (dCons (dOp gAdd (dVar 3) (dOp gMulA (dC (.int 2)) (dVar 7))) (dCons (dVar 7) (dNil)))) (dNil)))
def r_law_9b : DTS := dSeq (dDrop (dBM dmAppend (dVar 10) (dCons (dTup (dCons (dOp gAdd (dVar 3) (dCall sp__law_next (dCons (dVar 1) (dCons (dC (.int 8)) (dNil))))) (dCons (dTup (dCons (dC (.str "kern")) (dCons (dOp gSub (dCall sp__law_next (dCons (dVar 1) (dCons (dC (.int 200)) (dNil)))) (dC (.int 100))) (dNil)))) (dCons (dC (.bl true)) (dNil))))) (dNil)))) (r_law_9b_1)
def r_law_11t : DTS := dRet (dC (.bl false))
def r_law_13b_2t : DTS := dRet (dC (.bl false))
def r_law_13b_3b_1t : DTS := dRet (dC (.bl false))
def r_law_13b_3b_2t : DTS := dRet (dC (.bl false))
def r_law_13b_3b_2 : DTS := dIfS (dOr (dTest (dOp (gEq true) (dMeth "Font" "character" sp_Font_character (dVar 12) (dCons (dOp gIx (dVar 16) (dC (.int 0))) (dNil))) (dVar 16))) (dTest (dOp (gInO true "Font" sp_Font___contains__) (dOp gIx (dVar 16) (dC (.int 0))) (dVar 12)))) (r_law_13b_3b_2t) (dNext)
def r_law_13b_3b_1 : DTS := dSeq (dIfS (dOr (dNot (dTru (dCall sp__law_is_integer (dCons (dVar 13) (dNil))))) (dTest (dOp (gEq true) (dVar 13) (dCall sp__law_middle (dCons (dOp gIx (dVar 14) (dVar 5)) (dCons (dOp gIx (dOp gIx (dVar 16) (dC (.int 4))) (dVar 5)) (dNil))))))) (r_law_13b_3b_1t) (dNext)) (r_law_13b_3b_2)
def r_law_13b_3b : DTS := dSeq (dSet 13 (dMeth "Font" "table_value" sp_Font_table_value (dVar 12) (dCons (dOp gIx (dVar 16) (dC (.int 0))) (dCons (dVar 5) (dNil))))) (r_law_13b_3b_1)
def r_law_13b_3 : DTS := dFor (dItSeq (dVar 6)) (dgName 16) (r_law_13b_3b)
def r_law_13b_2 : DTS := dSeq (dIfS (dTest (dOp (gEq true) (dMeth "Font" "table" sp_Font_table (dVar 12) (dCons (dVar 5) (dNil))) (dOp gAdd (dLst (dCons (dC (.int 0)) (dNil))) (dLc (dItSeq (dOp gIx (dVar 14) (dVar 5))) (dgTup 2 (dgCons (dgName 17) (dgCons (dgName 18) (dgNil)))) (dYes) (dOp gDiv (dOp gAdd (dVar 17) (dVar 18)) (dC (.int 2))) [17, 18])))) (r_law_13b_2t) (dNext)) (r_law_13b_3)
def r_law_13b_1 : DTS := dSeq (dDrop (dBM dmAppend (dVar 14) (dCons (dCall sp__law_table (dCons (dVar 15) (dCons (dOp gIx (dLst (dCons (dC (.int 8)) (dCons (dC (.int 4)) (dCons (dC (.int 3)) (dCons (dC (.int 2)) (dNil)))))) (dVar 5)) (dNil)))) (dNil)))) (r_law_13b_2)
def r_law_13b : DTS := dSeq (dSet 15 (dLc (dItSeq (dVar 6)) (dgName 16) (dYes) (dOp gIx (dOp gIx (dVar 16) (dC (.int 4))) (dVar 5)) [16])) (r_law_13b_1)
def r_law_18b_2 : DTS := dSet 21 (dOp gAdd (dOp gAdd (dVar 21) (dCall sp__law_middle (dCons (dOp gIx (dVar 14) (dC (.int 0))) (dCons (dCB (g1 gSum) (dCons (dVar 8) (dNil))) (dNil))))) (dCall sp__law_kern (dCons (dVar 10) (dCons (dVar 11) (dCons (dOp gIx (dVar 20) (dVar 7)) (dCons (dOp gIx (dOp gAdd (dVar 20) (dLst (dCons (dC (.int 128)) (dNil)))) (dOp gAdd (dVar 7) (dC (.int 1)))) (dNil)))))))
def r_law_18b_1 : DTS := dSeq (dSet 8 (dLc (dItSeq (dVar 6)) (dgName 16) (dTest (dOp (gEq false) (dOp gIx (dVar 16) (dC (.int 0))) (dOp gIx (dVar 20) (dVar 7)))) (dOp gIx (dOp gIx (dVar 16) (dC (.int 4))) (dC (.int 0))) [16])) (r_law_18b_2)
def r_law_18b : DTS := dSeq (dDrop (dBM dmAppend (dVar 22) (dCons (dVar 21) (dNil)))) (r_law_18b_1)
def r_law_20t : DTS := dRet (dC (.bl false))
def r_law_21t : DTS := dRet (dC (.bl false))
def r_law_22 : DTS := dRet (dCall sp__law_refuses (dCons (dVar 12) (dCons (dOp gAdd (dVar 3) (dVar 2)) (dNil))))
def r_law_21 : DTS := dSeq (dIfS (dNot (dTru (dCall sp__law_too_long (dCons (dVar 12) (dCons (dOp gMulA (dLst (dCons (dVar 3) (dNil))) (dOp gAdd (dC (.int 399)) (dCall sp__law_next (dCons (dVar 1) (dCons (dC (.int 3)) (dNil)))))) (dNil)))))) (r_law_21t) (dNext)) (r_law_22)
def r_law_20 : DTS := dSeq (dIfS (dOr (dNot (dTru (dCall sp__law_is_integer (dCons (dVar 23) (dNil))))) (dOr (dTest (dOp (gEq true) (dVar 23) (dVar 21))) (dTest (dOp (gEq true) (dMeth "Font" "positions" sp_Font_positions (dVar 12) (dCons (dCB (g1 gListOf) (dCons (dVar 20) (dNil))) (dNil))) (dVar 22))))) (r_law_20t) (dNext)) (r_law_21)
def r_law_19 : DTS := dSeq (dSet 23 (dMeth "Font" "width" sp_Font_width (dVar 12) (dCons (dCB (g1 gListOf) (dCons (dVar 20) (dNil))) (dNil)))) (r_law_20)
def r_law_18 : DTS := dSeq (dFor (dRng1 (dCons (dCB (g1 gLen) (dCons (dVar 20) (dNil))) (dNil))) (dgName 7) (r_law_18b)) (r_law_19)
def r_law_17 : DTS := dSeq (dSet 22 (dLstM (dNil))) (r_law_18)
def r_law_16 : DTS := dSeq (dSet 21 (dCall sp__law_kern (dCons (dVar 10) (dCons (dVar 11) (dCons (dC (.int 128)) (dCons (dC (.int 128)) (dNil))))))) (r_law_17)
def r_law_15 : DTS := dSeq (dSet 20 (dLc (dRng1 (dCons (dCall sp__law_next (dCons (dVar 19) (dCons (dC (.int 11)) (dNil)))) (dNil))) (dgName 7) (dYes) (dOp gMod (dCB (g1 gInt) (dCons (dOp gAdd (dVar 3) (dCall sp__law_next (dCons (dVar 19) (dCons (dOp gAdd (dVar 2) (dC (.int 3))) (dNil))))) (dNil))) (dC (.int 128))) [7])) (r_law_16)
def r_law_14 : DTS := dSeq (dSet 19 (dCall sp__law_stream (dCons (dCall sp__law_cell (dCons (dVar 0) (dCons (dC (.int 1)) (dNil)))) (dNil)))) (r_law_15)
def r_law_13 : DTS := dSeq (dFor (dRng1 (dCons (dC (.int 4)) (dNil))) (dgName 5) (r_law_13b)) (r_law_14)
def r_law_12 : DTS := dSeq (dSet 14 (dLstM (dNil))) (r_law_13)
def r_law_11 : DTS := dSeq (dIfS (dOr (dTest (dOp (gEq true) (dCB (g1 (gLenO "Font" sp_Font___len__)) (dCons (dVar 12) (dNil))) (dVar 2))) (dOr (dTest (dOp (gEq true) (dLc (dItOwn "Font" "characters" (dVar 12)) (dgName 13) (dYes) (dVar 13) [13]) (dVar 6))) (dTest (dOp (gInO false "Font" sp_Font___contains__) (dOp gAdd (dVar 3) (dVar 2)) (dVar 12))))) (r_law_11t) (dNext)) (r_law_12)
def r_law_10 : DTS := dSeq (dSet 12 (dMake "Font" sp_Font___init__ (dCons (dCB (g1 gTupOf) (dCons (dVar 6) (dNil))) (dCons (dCB (g1 gTupOf) (dCons (dVar 10) (dNil))) (dCons (dCB (g1 gTupOf) (dCons (dVar 11) (dNil))) (dNil)))))) (r_law_11)
def r_law_9 : DTS := dSeq (dFor (dRng1 (dCons (dCall sp__law_next (dCons (dVar 1) (dCons (dC (.int 5)) (dNil)))) (dNil))) (dgName 7) (r_law_9b)) (r_law_10)
def r_law_8 : DTS := dSeq (dSet 11 (dLstM (dNil))) (r_law_9)
def r_law_7 : DTS := dSeq (dSet 10 (dLstM (dNil))) (r_law_8)
def r_law_6 : DTS := dSeq (dFor (dRng1 (dCons (dVar 2) (dNil))) (dgName 7) (r_law_6b)) (r_law_7)
def r_law_5 : DTS := dSeq (dSet 6 (dLstM (dNil))) (r_law_6)
def r_law_4 : DTS := dSeq (dSet 4 (dLc (dRng1 (dCons (dC (.int 4)) (dNil))) (dgName 5) (dYes) (dOp gIx (dLst (dCons (dC (.int 20)) (dCons (dC (.int 6400)) (dNil)))) (dCall sp__law_next (dCons (dVar 1) (dCons (dC (.int 2)) (dNil))))) [5])) (r_law_5)
def r_law_3 : DTS := dSeq (dSet 3 (dCall sp__law_next (dCons (dVar 1) (dCons (dC (.int 100)) (dNil))))) (r_law_4)
def r_law_2 : DTS := dSeq (dIfS (dTest (dOp (gEq false) (dCall sp__law_next (dCons (dVar 1) (dCons (dC (.int 3)) (dNil)))) (dC (.int 0)))) (r_law_2t) (dNext)) (r_law_3)
def r_law_1 : DTS := dSeq (dSet 2 (dCall sp__law_next (dCons (dVar 1) (dCons (dC (.int 9)) (dNil))))) (r_law_2)
def r_law : DTS := dSeq (dSet 1 (dCall sp__law_stream (dCons (dCall sp__law_cell (dCons (dVar 0) (dCons (dC (.int 0)) (dNil)))) (dNil)))) (r_law_1)
def stpK (s : Int × Int) : Stp := ⟨s.1, .kern s.2, true⟩
theorem kst_map (sts : List (Int × Int)) : sts.map kstD = (sts.map stpK).map stpD := by
  rw [List.map_map]
  rfl
theorem kern_no {sts : List (Int × Int)} {a b : Int} : ∀ {labels : Labs}, (∀ l ∈ labels, l.1 ≠ a) → kernF sts a b labels = 0
  | [], _ => rfl
  | l :: ls, h => by
    unfold kernF
    rw [if_neg (fun z => h l List.mem_cons_self z.1)]
    exact kern_no fun x hx => h x (List.mem_cons_of_mem _ hx)
theorem rule_k {sts : List (Int × Int)} {a b : Int} : ∀ {labels : Labs}, (∀ l ∈ labels, l.2 < sts.length) → (labels.map (·.1)).Nodup → (ruleF (sts.map stpK) labels a b = none ∧ kernF sts a b labels = 0) ∨ ∃ x, ruleF (sts.map stpK) labels a b = some (.kern x) ∧ kernF sts a b labels = x
  | [], _, _ => .inl ⟨rfl, rfl⟩
  | (c, i) :: ls, h, nd => by
    have ih := rule_k (labels := ls) (a := a) (b := b) (fun x hx => h x (List.mem_cons_of_mem _ hx)) (List.nodup_cons.mp nd).2
    have hl : i < sts.length := h (c, i) List.mem_cons_self
    have no : c = a → kernF sts a b ls = 0 := fun e => kern_no fun l hl' z => (List.nodup_cons.mp nd).1 (List.mem_map.mpr ⟨l, hl', by rw [z, ← e]⟩)
    have dr : (sts.map stpK).drop i = stpK (sts.getD i (0, 0)) :: (sts.map stpK).drop (i + 1) := drop_at (by
      rw [List.getElem?_map, List.getD_eq_getElem?_getD, List.getElem?_eq_getElem hl]
      rfl)
    unfold ruleF kernF
    rw [dr]
    unfold scan
    show (((if c = a then _ else _) = none ∧ (if c = a ∧ (sts.getD i (0, 0)).1 = b then (sts.getD i (0, 0)).2 else _) = 0) ∨ ∃ x, (if c = a then _ else _) = _ ∧ (if c = a ∧ (sts.getD i (0, 0)).1 = b then (sts.getD i (0, 0)).2 else _) = x)
    by_cases e : c = a
    · rw [if_pos e]
      by_cases e2 : (sts.getD i (0, 0)).1 = b
      · right
        refine ⟨(sts.getD i (0, 0)).2, ?_, if_pos ⟨e, e2⟩⟩
        rw [if_pos (show (stpK (sts.getD i (0, 0))).right = b from e2)]
        rfl
      · left
        rw [if_neg (show ¬ (stpK (sts.getD i (0, 0))).right = b from e2), if_pos (show (stpK (sts.getD i (0, 0))).last = true from rfl), if_neg (fun z => e2 z.2)]
        exact ⟨rfl, no e⟩
    · rw [if_neg e, if_neg (fun z => e z.1)]
      exact ih
def amt (a : Option Act) : Int := match a with
  | some (.kern x) => x
  | _ => 0
def amsN (f : Int → Int → Option Act) (row : List Int) (n : Nat) : List Int := (List.range n).map fun i => amt (f (row.getD i 0) (row.getD (i + 1) 0))
theorem amsN_succ (f : Int → Int → Option Act) (row : List Int) (n : Nat) : amsN f row (n + 1) = amsN f row n ++ [amt (f (row.getD n 0) (row.getD (n + 1) 0))] := by
  unfold amsN
  rw [List.range_succ, List.map_append]
  rfl
theorem amsN_len (f : Int → Int → Option Act) (row : List Int) (n : Nat) : (amsN f row n).length = n := by
  unfold amsN
  rw [List.length_map, List.length_range]
def KernOnly (f : Int → Int → Option Act) : Prop := ∀ a b, f a b = none ∨ ∃ x, f a b = some (.kern x)
theorem kern_ends {f : Int → Int → Option Act} (h : KernOnly f) (a b : Int) : ∃ e, Ev f a b e := by
  rcases h a b with h | ⟨x, h⟩ <;> exact ⟨b, .plain (by rw [h]; rfl)⟩
theorem kern_run {f : Int → Int → Option Act} (h : KernOnly f) (row : List Int) : ∀ (n k : Nat), n + k + 1 = row.length → RunN f n row (amsN f row k ++ List.replicate n 0) k (some (row, amsN f row (n + k)))
  | 0, k, e => by
    rw [List.replicate_zero, List.append_nil, Nat.zero_add]
    exact .done (by omega)
  | n + 1, k, e => by
    have ha : row[k]? = some (row.getD k 0) := by
      rw [List.getD_eq_getElem?_getD, List.getElem?_eq_getElem (show k < row.length by omega)]
      rfl
    have hb : row[k + 1]? = some (row.getD (k + 1) 0) := by
      rw [List.getD_eq_getElem?_getD, List.getElem?_eq_getElem (show k + 1 < row.length by omega)]
      rfl
    have ih := kern_run h row n (k + 1) (by omega)
    rw [amsN_succ, show n + (k + 1) = n + 1 + k by omega] at ih
    rcases h (row.getD k 0) (row.getD (k + 1) 0) with e1 | ⟨x, e1⟩
    · refine .skip ha hb e1 ?_
      rw [e1, show amt none = 0 from rfl, List.append_assoc] at ih
      exact ih
    · refine .kern (y := 0) ha hb e1 ?_ ?_
      · rw [List.getElem?_append_right (by rw [amsN_len]; exact Nat.le_refl _), amsN_len, Nat.sub_self]
        rfl
      · rw [List.set_append_right _ _ (by rw [amsN_len]; exact Nat.le_refl _), amsN_len, Nat.sub_self, List.replicate_succ, List.set_cons_zero, Int.zero_add]
        rw [e1, show amt (some (.kern x)) = x from rfl, List.append_assoc] at ih
        exact ih
theorem gk_line : ∀ (cs gs gl ks : List Int) (x : Int), (∀ c ∈ cs, c ≠ 128) → gs.length = cs.length → gkF (cs ++ [128]) gs gl ks x = (gl ++ cs, ks ++ x :: gs)
  | [], [], gl, ks, x, _, _ => by
    show (gl, ks ++ [x]) = _
    rw [List.append_nil]
  | c :: cs, g :: gs, gl, ks, x, h, e => by
    show (if c = 128 then _ else gkF (cs ++ [128]) gs (gl ++ [c]) (ks ++ [x]) (0 + g)) = _
    rw [if_neg (h c List.mem_cons_self), gk_line cs gs _ _ _ (fun d hd => h d (List.mem_cons_of_mem _ hd)) (Nat.succ.inj e), Int.zero_add, List.append_assoc, List.append_assoc]
    rfl
theorem gk_row {cs gs : List Int} (h : ∀ c ∈ cs, c ≠ 128) (e : gs.length = cs.length + 1) : gkF (128 :: cs ++ [128]) gs [] [] 0 = (cs, gs) := by
  cases gs with
  | nil => cases e
  | cons g gs =>
    show gkF (cs ++ [128]) gs [] [] (0 + g) = _
    rw [gk_line cs gs _ _ _ h (Nat.succ.inj e), Int.zero_add]
    rfl
theorem law_amt {sts : List (Int × Int)} {labels : Labs} (hl : ∀ l ∈ labels, l.2 < sts.length) (nd : (labels.map (·.1)).Nodup) (a b : Int) : amt (ruleF (sts.map stpK) labels a b) = kernF sts a b labels := by
  rcases rule_k (a := a) (b := b) hl nd with ⟨e, e2⟩ | ⟨x, e, e2⟩ <;> rw [e, e2] <;> rfl
/-- what the law's font is made of -/
structure FtOk (f : Int) (cs : List Mch) (sts : List (Int × Int)) (labels : Labs) : Prop where
  f0 : 0 ≤ f
  f1 : f ≤ 99
  n : cs.length ≤ 24
  co : ∀ (i : Nat) (c : Mch), cs[i]? = some c → c.code = f + i
  m : ∀ c ∈ cs, c.mets.length = 4 ∧ ∀ v ∈ c.mets, 0 ≤ v ∧ v ≤ 6400
  s : sts.length ≤ 4
  st : ∀ s ∈ sts, 0 ≤ s.1 ∧ s.1 ≤ 110
  l : labels.length = sts.length
  la : ∀ (i : Nat) (l : Int × Nat), labels[i]? = some l → l = (f + 2 * i, i)
theorem FtOk.mch {f : Int} {cs : List Mch} {sts : List (Int × Int)} {labels : Labs} (h : FtOk f cs sts labels) : MchOk cs := ⟨by have := h.n; omega, fun c hc => ⟨(h.m c hc).1, fun v hv => by
  have := (h.m c hc).2 v hv
  exact ⟨this.1, by omega⟩⟩⟩
theorem FtOk.lab {f : Int} {cs : List Mch} {sts : List (Int × Int)} {labels : Labs} (h : FtOk f cs sts labels) : (∀ l ∈ labels, l.2 < sts.length ∧ 0 ≤ l.1 ∧ l.1 < 128) ∧ (labels.map (·.1)).Nodup := by
  have fl := h.l
  have fs := h.s
  have f0 := h.f0
  have f1 := h.f1
  refine ⟨fun l hl => ?_, List.pairwise_iff_getElem.mpr fun i j hi hj lt => ?_⟩
  · obtain ⟨i, hi⟩ := List.mem_iff_getElem?.mp hl
    have li := (List.getElem?_eq_some_iff.mp hi).1
    have := h.la i l hi
    rw [this]
    exact ⟨by show i < _; omega, by show 0 ≤ f + 2 * (i : Int); omega, by show f + 2 * (i : Int) < 128; omega⟩
  · rw [List.length_map] at hi hj
    rw [List.getElem_map, List.getElem_map, h.la i _ (List.getElem?_eq_getElem hi), h.la j _ (List.getElem?_eq_getElem hj)]
    show f + 2 * (i : Int) ≠ f + 2 * (j : Int)
    omega
theorem FtOk.lig {f : Int} {cs : List Mch} {sts : List (Int × Int)} {labels : Labs} (h : FtOk f cs sts labels) : LigOk (labels.map (·.1) ++ sts.map (·.1)) (sts.map stpK) labels := by
  have fl := h.l
  have fs := h.s
  refine ⟨by rw [List.length_append, List.length_map, List.length_map]; omega, by rw [List.length_map]; omega, by omega, fun s hs => ?_, fun l hl => List.mem_append_left _ (List.mem_map.mpr ⟨l, hl, rfl⟩)⟩
  obtain ⟨t, ht, rfl⟩ := List.mem_map.mp hs
  exact ⟨List.mem_append_right _ (List.mem_map.mpr ⟨t, ht, rfl⟩), fun c l r v e => nomatch e⟩
theorem FtOk.kern {f : Int} {cs : List Mch} {sts : List (Int × Int)} {labels : Labs} (h : FtOk f cs sts labels) : KernOnly (ruleF (sts.map stpK) labels) := fun a b => by
  rcases rule_k (a := a) (b := b) (fun l hl => (h.lab.1 l hl).1) h.lab.2 with ⟨e, _⟩ | ⟨x, e, _⟩
  · exact .inl e
  · exact .inr ⟨x, e⟩
/-- the kerns of a line -/
def kesF (sts : List (Int × Int)) (labels : Labs) (row : List Int) (n : Nat) : List Int := (List.range n).map fun i => kernF sts (row.getD i 0) (row.getD (i + 1) 0) labels
theorem kes_succ (sts : List (Int × Int)) (labels : Labs) (row : List Int) (n : Nat) : kesF sts labels row (n + 1) = kesF sts labels row n ++ [kernF sts (row.getD n 0) (row.getD (n + 1) 0) labels] := by
  unfold kesF
  rw [List.range_succ, List.map_append]
  rfl
theorem kes_len (sts : List (Int × Int)) (labels : Labs) (row : List Int) (n : Nat) : (kesF sts labels row n).length = n := by
  unfold kesF
  rw [List.length_map, List.length_range]
theorem kes_take (sts : List (Int × Int)) (labels : Labs) (row : List Int) {n m : Nat} (h : m ≤ n) : (kesF sts labels row n).take m = kesF sts labels row m := by
  unfold kesF
  rw [← List.map_take, List.take_range, Nat.min_eq_left h]
/-- the line is set -/
theorem FtOk.line {f : Int} {cs : List Mch} {sts : List (Int × Int)} {labels : Labs} (h : FtOk f cs sts labels) {codes : List Int} {G : Gp} {Q : DK} {E : DX} (hl : codes.length ≤ 1000) (hc : ∀ c ∈ codes, c ≠ 128)
    (h1 : 398 < codes.length → E ⟨"TooLong", none⟩ G) (h2 : codes.length ≤ 398 → Q (.tup [.lst (codes.map .int), .lst ((kesF sts labels (128 :: codes ++ [128]) (codes.length + 1)).map .int)]) G) :
    sp_set_line [.tup (sts.map kstD), .tup (labels.map labD), .lst (codes.map .int)] G Q E := by
  have kn := h.kern
  refine ⟨sts.map stpK, labels, _, codes, by rw [kst_map], h.lig, hl, fun ⟨p, _, z⟩ => absurd (kern_ends kn _ _) z, fun _ => ⟨h1, fun l => ?_⟩⟩
  have lr : (128 :: codes ++ [128]).length = codes.length + 2 := by
    rw [List.length_append]
    rfl
  have run := kern_run kn (128 :: codes ++ [128]) (codes.length + 1) 0 (by omega)
  refine ⟨_, _, run, fun row gaps e => ?_, fun e => nomatch e⟩
  cases e
  have ee : amsN (ruleF (sts.map stpK) labels) (128 :: codes ++ [128]) (codes.length + 1 + 0) = kesF sts labels (128 :: codes ++ [128]) (codes.length + 1) :=
    List.map_congr_left fun i _ => law_amt (fun l hl => (h.lab.1 l hl).1) h.lab.2 _ _
  rw [ee, gk_row hc (by rw [kes_len])]
  exact h2 l
theorem first_uniq {cs : List Mch} {g : Int} {c d : Mch} (h : FirstC cs g c) (k : FirstC cs g d) : c = d := by
  obtain ⟨i, h1, h2, h3⟩ := h
  obtain ⟨j, k1, k2, k3⟩ := k
  rcases (by omega : i < j ∨ j < i ∨ i = j) with z | z | z
  · exact absurd h2 (k3 i c z h1)
  · exact absurd k2 (h3 j d z k1)
  · rw [z, k1] at h1
    exact (Option.some.inj h1).symm
theorem gw_uniq {cs : List Mch} {g v w : Int} (h : GwR cs g v) (k : GwR cs g w) : v = w := by
  have mem : ∀ {c : Mch}, FirstC cs g c → c ∈ cs ∧ c.code = g := fun ⟨i, h1, h2, _⟩ => ⟨List.mem_of_getElem? h1, h2⟩
  rcases h with ⟨c, hc, rest, t, hr, ht, rfl⟩ | ⟨no, rfl⟩
  · rcases k with ⟨c', hc', rest', t', hr', ht', rfl⟩ | ⟨no', rfl⟩
    · have e := asc_uniq hr.1 hr'.1 fun k => (hr.2 k).trans (hr'.2 k).symm
      subst e
      rw [least_uniq hr.1 ht ht', first_uniq hc hc']
    · exact absurd (mem hc).2 (no' _ (mem hc).1)
  · rcases k with ⟨c', hc', _⟩ | ⟨no', rfl⟩
    · exact absurd (mem hc').2 (no _ (mem hc').1)
    · rfl
theorem gwall_uniq {cs : List Mch} {gs vs ws : List Int} (h : GwAll cs gs vs) (k : GwAll cs gs ws) : vs = ws := by
  refine List.ext_getElem? fun i => ?_
  by_cases l : i < gs.length
  · have l1 : i < vs.length := by rw [h.1]; exact l
    have l2 : i < ws.length := by rw [k.1]; exact l
    rw [List.getElem?_eq_getElem l1, List.getElem?_eq_getElem l2]
    exact congrArg some (gw_uniq (h.2 i _ _ (List.getElem?_eq_getElem l) (List.getElem?_eq_getElem l1)) (k.2 i _ _ (List.getElem?_eq_getElem l) (List.getElem?_eq_getElem l2)))
  · rw [List.getElem?_eq_none (by rw [h.1]; omega), List.getElem?_eq_none (by rw [k.1]; omega)]
def ownF (cs : List Mch) (g : Int) : List Int := (cs.filter fun c => decide (c.code = g)).map fun c => c.mets.getD 0 0
theorem own_sum {f : Int} {cs : List Mch} {sts : List (Int × Int)} {labels : Labs} (h : FtOk f cs sts labels) (g : Int) : (∃ c, FirstC cs g c ∧ (ownF cs g).sum = c.mets.getD 0 0) ∨ ((∀ c ∈ cs, c.code ≠ g) ∧ (ownF cs g).sum = 0) := by
  by_cases z : ∃ c ∈ cs, c.code = g
  · obtain ⟨c, hc, e⟩ := z
    obtain ⟨i, hi⟩ := List.mem_iff_getElem?.mp hc
    have ci := h.co i c hi
    have off : ∀ (j : Nat) d, j ≠ i → cs[j]? = some d → d.code ≠ g := fun j d hj hd => by
      have := h.co j d hd
      omega
    refine .inl ⟨c, ⟨i, hi, e, fun j d hj hd => off j d (by omega) hd⟩, ?_⟩
    have sp : cs = cs.take i ++ c :: cs.drop (i + 1) := by
      rw [← drop_at hi, List.take_append_drop]
    have f1 : (cs.take i).filter (fun c => decide (c.code = g)) = [] := List.filter_eq_nil_iff.mpr fun d hd => by
      obtain ⟨j, hj⟩ := List.mem_iff_getElem?.mp hd
      have lj := (List.getElem?_eq_some_iff.mp hj).1
      rw [List.length_take] at lj
      rw [List.getElem?_take, if_pos (by omega)] at hj
      rw [decide_eq_false (off j d (by omega) hj)]
      decide
    have f2 : (cs.drop (i + 1)).filter (fun c => decide (c.code = g)) = [] := List.filter_eq_nil_iff.mpr fun d hd => by
      obtain ⟨j, hj⟩ := List.mem_iff_getElem?.mp hd
      rw [List.getElem?_drop] at hj
      rw [decide_eq_false (off _ d (by omega) hj)]
      decide
    unfold ownF
    rw [sp, List.filter_append, List.filter_cons, f1, f2, if_pos (decide_eq_true e)]
    simp
  · refine .inr ⟨fun c hc e => z ⟨c, hc, e⟩, ?_⟩
    unfold ownF
    rw [List.filter_eq_nil_iff.mpr fun d hd => by
      rw [decide_eq_false (fun e => z ⟨d, hd, e⟩)]
      decide]
    rfl
/-- the groups of a metric -/
def Fnd (cs : List Mch) (k : Nat) (acc : List Pt) : Prop := ∃ rest t, AscOf (mvF cs k) rest ∧ LeastT rest (limM k) t ∧ acc = (grd t rest).reverse
theorem fnd_same {cs : List Mch} {k : Nat} {acc : List Pt} (h : Fnd cs k acc) {rest : List Int} {t : Int} (hr : AscOf (mvF cs k) rest) (ht : LeastT rest (limM k) t) : (grd t rest).reverse = acc := by
  obtain ⟨rest', t', hr', ht', rfl⟩ := h
  have e := asc_uniq hr.1 hr'.1 fun k => (hr.2 k).trans (hr'.2 k).symm
  subst e
  rw [least_uniq hr.1 ht ht']
theorem fnd_grps {cs : List Mch} {k : Nat} {acc : List Pt} (ok : MchOk cs) (hk : k < 4) (h : Fnd cs k acc) : ∃ t, Grps (mvF cs k) t acc := by
  obtain ⟨rest, t, hr, ht, rfl⟩ := h
  obtain ⟨h1, h2⟩ := mv_ok ok hk
  exact ⟨t, grps_of ht.1 hr h1 h2⟩
theorem fnd_gw {f : Int} {cs : List Mch} {sts : List (Int × Int)} {labels : Labs} (h : FtOk f cs sts labels) {acc : List Pt} (ha : Fnd cs 0 acc) (g : Int) : GwR cs g (tval acc (ownF cs g).sum) := by
  obtain ⟨t, gr⟩ := fnd_grps h.mch (by decide) ha
  rcases own_sum h g with ⟨c, hc, e⟩ | ⟨no, e⟩
  · obtain ⟨rest, t, hr, ht, rfl⟩ := ha
    exact .inl ⟨c, hc, rest, t, hr, ht, by rw [e]⟩
  · exact .inr ⟨no, by rw [e]; exact gr.zero⟩
theorem flat_rep (n : Nat) (f : Int) : (List.replicate n [D.int f]).flatten = (List.replicate n f).map .int := by
  induction n with
  | zero => rfl
  | succ n ih => rw [List.replicate_succ, List.replicate_succ, List.flatten_cons, ih]; rfl
abbrev ftG (cs : List Mch) (sts : List (Int × Int)) (labels : Labs) : GO := fntG cs (.tup (sts.map kstD)) (.tup (labels.map labD))
theorem law_21 {Q : DK} {E : DX} {G : Gp} {f : Int} {cs : List Mch} {sts : List (Int × Int)} {labels : Labs} {p : Addr} {s0 s4 s5 s6 s7 s8 s9 s10 s11 s13 s14 s15 s16 s17 s18 s19 s20 s21 s22 s23 : Option D} (h : FtOk f cs sts labels) (hp : G p = some (ftG cs sts labels)) (q : ∀ G' : Gp, Q (.bl true) G') :
    r_law_21 (fEnds Q E) [s0, some .strm, some (.int cs.length), some (.int f), s4, s5, s6, s7, s8, s9, s10, s11, some (.ref p), s13, s14, s15, s16, s17, s18, s19, s20, s21, s22, s23] G := by
  have f0 := h.f0
  have f1 := h.f1
  unfold r_law_21 r_law_21t
  walk_at "dx"
  refine ⟨3, rfl, cdiv_s (by decide) (by decide), fun r r0 r1 => ?_⟩
  walk_at "dx"
  refine ⟨⟨by omega, by omega⟩, size_le (by omega), ?_⟩
  rw [flat_rep]
  refine ⟨p, cs, _, _, _, rfl, hp, h.mch, ?_, ?_⟩
  · exact h.line (by rw [List.length_replicate]; omega) (fun c hc => by rw [(List.mem_replicate.mp hc).2]; omega) (fun _ => ⟨rfl, rfl⟩) fun z => by
      rw [List.length_replicate] at z
      omega
  · walk_at "dx"
    unfold r_law_22
    walk_at "dx"
    refine ⟨p, cs, _, _, _, rfl, hp, h.mch, fun c hc e => ?_, dn_id (q _)⟩
    obtain ⟨i, hi⟩ := List.mem_iff_getElem?.mp hc
    have := h.co i c hi
    have := (List.getElem?_eq_some_iff.mp hi).1
    omega
theorem kes_z {f : Int} {cs : List Mch} {sts : List (Int × Int)} {labels : Labs} (h : FtOk f cs sts labels) (b : Int) : kernF sts 128 b labels = 0 := kern_no fun l hl e => by
  have := (h.lab.1 l hl).2.2
  omega
theorem law_19 {Q : DK} {E : DX} {G : Gp} {f : Int} {cs : List Mch} {sts : List (Int × Int)} {labels : Labs} {codes vs : List Int} {p pp : Addr} {s0 s4 s5 s6 s7 s8 s9 s10 s11 s13 s14 s15 s16 s17 s18 s19 : Option D} (h : FtOk f cs sts labels) (hp : G p = some (ftG cs sts labels)) (hl : codes.length ≤ 10) (hc : ∀ c ∈ codes, c ≠ 128)
    (hv : GwAll cs codes vs) (hpp : G pp = some (.lst ((posL (kesF sts labels (128 :: codes ++ [128]) (codes.length + 1)) vs codes.length).map .int))) (q : ∀ G' : Gp, Q (.bl true) G') :
    r_law_19 (fEnds Q E) [s0, some .strm, some (.int cs.length), some (.int f), s4, s5, s6, s7, s8, s9, s10, s11, some (.ref p), s13, s14, s15, s16, s17, s18, s19, some (.lst (codes.map .int)), some (.int (vs.sum + (kesF sts labels (128 :: codes ++ [128]) (codes.length + 1)).sum)), some (.ref pp), none] G := by
  have hp' := hp
  unfold ftG fntG at hp'
  unfold r_law_19
  walk_at "dx"
  rw [hp']
  refine ⟨rfl, rfl, p, cs, _, _, _, rfl, hp, h.mch, h.line (by omega) hc (fun z => by omega) fun _ => ⟨rfl, codes, _, rfl, by omega, by rw [kes_len]; omega, fun vs' hv' => ?_⟩⟩
  rw [gwall_uniq hv' hv]
  unfold r_law_20 r_law_20t
  walk_at "dx"
  refine ⟨_, rfl, ?_⟩
  walk_at "dx"
  rw [hp']
  refine ⟨rfl, rfl, p, cs, _, _, _, rfl, hp, h.mch, h.line (by omega) hc (fun z => by omega) fun _ => ⟨rfl, codes, _, rfl, by omega, by rw [kes_len]; omega, by rw [kes_len]; omega, fun vs' hv' => ?_⟩⟩
  rw [gwall_uniq hv' hv]
  walk_at "dx"
  refine self_ne2 rfl ?_ (eqn_ints _) (by decide) (law_21 h hp q)
  rw [hpp]
  rfl
theorem law_18 {Q : DK} {E : DX} {G : Gp} {f : Int} {cs : List Mch} {sts : List (Int × Int)} {labels : Labs} {codes : List Int} {acc0 : List Pt} {fo : List D} {p pc ps pl pf pp : Addr} {s0 s4 s5 s7 s8 s9 s13 s15 s16 s17 s18 s19 : Option D} (h : FtOk f cs sts labels) (hp : G p = some (ftG cs sts labels)) (hl : codes.length ≤ 10) (hc : ∀ c ∈ codes, c ≠ 128)
    (h6 : G pc = some (.lst (cs.map mchD))) (h10 : G ps = some (.lst (sts.map kstD))) (h11 : G pl = some (.lst (labels.map labD))) (h14 : G pf = some (.lst fo)) (hf : atI fo 0 = some (.lst (acc0.map pt))) (ha : Fnd cs 0 acc0) (hpp : G pp = none) (q : ∀ G' : Gp, Q (.bl true) G') :
    r_law_18 (fEnds Q E) [s0, some .strm, some (.int cs.length), some (.int f), s4, s5, some (.ref pc), s7, s8, s9, some (.ref ps), some (.ref pl), some (.ref p), s13, some (.ref pf), s15, s16, s17, s18, s19, some (.lst (codes.map .int)), some (.int (kernF sts 128 128 labels)), some (.ref pp), none] (gupd G pp (.lst [])) := by
  have e1 : p ≠ pp := gne hp hpp
  have e2 : pc ≠ pp := gne h6 hpp
  have e3 : ps ≠ pp := gne h10 hpp
  have e4 : pl ≠ pp := gne h11 hpp
  have e5 : pf ≠ pp := gne h14 hpp
  unfold r_law_18
  walk_at "dx"
  rw [List.length_map]
  refine ⟨⟨by omega, by omega⟩, ?_⟩
  rw [Int.toNat_natCast]
  generalize hks : kesF sts labels (128 :: codes ++ [128]) (codes.length + 1) = ks
  have kl : ks.length = codes.length + 1 := by rw [← hks, kes_len]
  have kat : ∀ i : Nat, i < codes.length + 1 → ks[i]? = some (kernF sts ((128 :: codes ++ [128]).getD i 0) ((128 :: codes ++ [128]).getD (i + 1) 0) labels) := fun i hi => by
    rw [← hks]
    unfold kesF
    rw [List.getElem?_map, List.getElem?_range hi]
    rfl
  have k0 : (ks.take 1).sum = kernF sts 128 128 labels := by
    rw [take_sum (kat 0 (by omega))]
    show ([] : List Int).sum + kernF sts 128 _ labels = _
    rw [kes_z h, kes_z h]
    rfl
  refine for_rng (fun i s' G' => ∃ vs : List Int, vs.length = i ∧ (∀ (j : Nat) (g v : Int), codes[j]? = some g → vs[j]? = some v → GwR cs g v) ∧ G' = gupd G pp (.lst ((posL ks vs i).map .int)) ∧ ∃ s7 s8 s16, s' = [s0, some .strm, some (.int cs.length), some (.int f), s4, s5, some (.ref pc), s7, s8, s9, some (.ref ps), some (.ref pl), some (.ref p), s13, some (.ref pf), s15, s16, s17, s18, s19, some (.lst (codes.map .int)), some (.int (vs.sum + (ks.take (i + 1)).sum)), some (.ref pp), none]) ⟨[], rfl, fun j g v _ h => (by rw [List.getElem?_nil] at h; cases h), rfl, _, _, _, by rw [k0, show ([] : List Int).sum + kernF sts 128 128 labels = kernF sts 128 128 labels from Int.zero_add _]⟩ ?_ ?_
  · rintro i s' G' hi ⟨vs, lv, hv, rfl, s7, s8, s16, rfl⟩
    have hg := List.getElem?_eq_getElem (show i < codes.length from hi)
    generalize codes[i] = g at hg
    have ag : atI (codes.map D.int) (i : Int) = some (.int g) := atI_nat (by rw [List.getElem?_map, hg]; rfl)
    have g1 : (128 :: codes ++ [128]).getD (i + 1) 0 = g := by
      rw [List.getD_eq_getElem?_getD, List.cons_append, List.getElem?_cons_succ, List.getElem?_append_left hi, hg]
      rfl
    have ag2 : atI (codes.map D.int ++ [D.int 128]) ((i : Int) + 1) = some (.int ((128 :: codes ++ [128]).getD (i + 2) 0)) := atI_nat (j := i + 1) (by
      have z : (codes ++ [128])[i + 1]? = some ((128 :: codes ++ [128]).getD (i + 2) 0) := by
        rw [List.getD_eq_getElem?_getD, List.cons_append, List.getElem?_cons_succ, List.getElem?_eq_getElem (by rw [List.length_append]; show i + 1 < codes.length + 1; omega)]
        rfl
      rw [show codes.map D.int ++ [D.int 128] = (codes ++ [128]).map .int by rw [List.map_append]; rfl, List.getElem?_map, z]
      rfl)
    have ki := kat (i + 1) (by omega)
    rw [g1] at ki
    generalize (128 :: codes ++ [128]).getD (i + 2) 0 = g2 at ag2 ki
    have pl2 : (posL ks vs i).length = i := by
      unfold posL
      rw [List.length_map, List.length_range]
    unfold r_law_18b
    walk_at "dx"
    refine ⟨size_lt (by rw [List.length_map]; omega), ?_⟩
    unfold r_law_18b_1
    walk_at "dx"
    have up : ∀ {a : Addr} {o : GO} {u : GO}, a ≠ pp → G a = some o → gupd G pp u a = some o := fun n e => by rw [gupd_ne n, e]
    rw [up e2 h6]
    dsimp only
    intro a ha'
    have ea : ∀ {b : Addr} {o : GO}, b ≠ pp → G b = some o → b ≠ a := fun n e => gne (up n e) ha'
    refine lc_ref (fun j acc => acc = (ownF (cs.take j) g).map .int) (up e2 h6) ha' rfl ?_ ?_
    · rintro j x acc hx hl' rfl
      obtain ⟨c, ec, rfl⟩ := map_get hx
      have jl := (List.getElem?_eq_some_iff.mp ec).1
      have cm := List.mem_of_getElem? ec
      have tk : ownF (cs.take (j + 1)) g = ownF (cs.take j) g ++ if c.code = g then [c.mets.getD 0 0] else [] := by
        unfold ownF
        rw [take_succ' ec, List.filter_append, List.map_append, List.filter_cons]
        by_cases z : c.code = g
        · rw [if_pos z, decide_eq_true z]
          rfl
        · rw [if_neg z, decide_eq_false z]
          rfl
      have nn := h.n
      unfold mchD
      walk_at "dx"
      rw [Int.zero_add, ag]
      walk_at "dx"
      have ma : atI (c.mets.map D.int) 0 = some (.int (c.mets.getD 0 0)) := met_at (k := 0) (h.m c cm).1 (by decide)
      by_cases z : c.code = g
      · rw [if_pos z, ma]
        rw [if_pos z] at tk
        dsimp only
        refine lc_push' hl' (by omega) ?_
        show _ = (ownF (cs.take (j + 1)) g).map D.int
        rw [tk, List.map_append]
        rfl
      · rw [if_neg z]
        rw [if_neg z, List.append_nil] at tk
        exact ⟨rfl, Nat.le_succ_of_le hl', show _ = (ownF (cs.take (j + 1)) g).map D.int by rw [tk]⟩
    · rintro acc hl' rfl
      rw [gdel_gupd ha', List.length_map, List.take_length]
      unfold r_law_18b_2
      walk_at "dx"
      rw [up e5 h14]
      dsimp only
      rw [hf]
      refine ⟨_, rfl, _, _, rfl, ?_⟩
      rw [Int.zero_add, ag]
      dsimp only
      refine ⟨size_le (by rw [List.length_map]; omega), ?_⟩
      rw [ag2]
      dsimp only
      refine ⟨ps, pl, sts, labels, g, g2, rfl, up e3 h10, up e4 h11, fun l hl => (h.lab.1 l hl).1, ?_⟩
      have gw := fnd_gw h ha g
      generalize tval acc0 (ownF cs g).sum = v at gw
      have tk := take_sum ki
      refine ⟨vs ++ [v], by rw [List.length_append, lv]; rfl, fun j g' v' hg' hv' => ?_, ?_, some (.int i), some (.lst ((ownF cs g).map .int)), s16, ?_⟩
      · by_cases e : j = i
        · rw [e, hg] at hg'
          rw [e, List.getElem?_append_right (by omega), lv, Nat.sub_self] at hv'
          cases hg'
          cases hv'
          exact gw
        · by_cases l : j < i
          · rw [List.getElem?_append_left (by omega)] at hv'
            exact hv j g' v' hg' hv'
          · rw [List.getElem?_eq_none (by rw [List.length_append]; show vs.length + 1 ≤ j; omega)] at hv'
            cases hv'
      · rw [posL_app (by omega), posL_succ, List.take_of_length_le (l := vs) (by omega), List.map_append]
        show gupd G pp (.lst ((posL ks vs i).map .int ++ [.int (vs.sum + (ks.take (i + 1)).sum)])) = gupd G pp (.lst ((posL ks vs i).map .int ++ [.int ((ks.take (i + 1)).sum + vs.sum)]))
        rw [Int.add_comm]
      · have sv : (vs ++ [v]).sum = vs.sum + v := by
          rw [List.sum_append]
          simp
        rw [tk, sv, show vs.sum + (ks.take (i + 1)).sum + v + kernF sts g g2 labels = vs.sum + v + ((ks.take (i + 1)).sum + kernF sts g g2 labels) by omega]
  · rintro s' G' ⟨vs, lv, hv, rfl, s7, s8, s16, rfl⟩
    rw [List.take_of_length_le (by omega)]
    subst hks
    exact law_19 h (by rw [gupd_ne e1]; exact hp) hl hc ⟨lv, hv⟩ gupd_same q
theorem eqn_mch (c : Mch) : EqN 2 (mchD c) := eqn_tup fun d h => by
  simp only [List.mem_cons, List.not_mem_nil, or_false] at h
  rcases h with rfl | rfl | rfl | rfl | rfl
  · exact (eqn_int _).mono (by decide)
  · exact (eqn_int _).mono (by decide)
  · exact (eqn_int _).mono (by decide)
  · exact ⟨rfl, rfl, by decide⟩
  · refine eqn_tup fun d hd => ?_
    obtain ⟨v, _, rfl⟩ := List.mem_map.mp hd
    exact eqn_int v
theorem law_14 {Q : DK} {E : DX} {G : Gp} {f : Int} {cs : List Mch} {sts : List (Int × Int)} {labels : Labs} {acc0 : List Pt} {fo : List D} {ns : List Int} {p pc ps pl pf : Addr} {s4 s5 s7 s8 s9 s13 s15 s16 s17 s18 : Option D} (h : FtOk f cs sts labels) (hp : G p = some (ftG cs sts labels))
    (h6 : G pc = some (.lst (cs.map mchD))) (h10 : G ps = some (.lst (sts.map kstD))) (h11 : G pl = some (.lst (labels.map labD))) (h14 : G pf = some (.lst fo)) (hf : atI fo 0 = some (.lst (acc0.map pt))) (ha : Fnd cs 0 acc0) (q : ∀ G' : Gp, Q (.bl true) G') :
    r_law_14 (fEnds Q E) [some (.scr ns), some .strm, some (.int cs.length), some (.int f), s4, s5, some (.ref pc), s7, s8, s9, some (.ref ps), some (.ref pl), some (.ref p), s13, some (.ref pf), s15, s16, s17, s18, none, none, none, none, none] G := by
  have f0 := h.f0
  have f1 := h.f1
  have n0 := h.n
  unfold r_law_14
  walk_at "dx"
  refine ⟨ns, 1, rfl, by decide, fun c1 => ⟨c1, rfl, ?_⟩⟩
  unfold r_law_15
  walk_at "dx"
  refine ⟨11, rfl, cdiv_s (by decide) (by decide), fun m m0 m1 => ?_⟩
  walk_at "dx"
  refine ⟨⟨by omega, by omega⟩, fun a ha' => ?_⟩
  refine lc_rng (fun i acc => ∃ codes : List Int, acc = codes.map .int ∧ codes.length = i ∧ ∀ c ∈ codes, c ≠ 128) ⟨[], rfl, rfl, fun _ h => nomatch h⟩ ?_ ?_
  · rintro i acc hi hl2 ⟨codes, rfl, l1, l2⟩
    walk_at "dx"
    refine ⟨_, rfl, cdiv_s (by omega) (by omega), fun r r0 r1 => ?_⟩
    dsimp only
    refine lc_push hl2 (by omega) ⟨codes ++ [(f + r) % 128], by rw [List.map_append]; rfl, by rw [List.length_append, l1]; rfl, fun c hc => ?_⟩
    rcases List.mem_append.mp hc with hc | hc
    · exact l2 c hc
    · rw [List.mem_singleton.mp hc]
      omega
  · rintro acc hl2 ⟨codes, rfl, l1, l2⟩
    rw [gdel_gupd ha']
    unfold r_law_16
    walk_at "dx"
    refine ⟨ps, pl, sts, labels, 128, 128, rfl, h10, h11, fun l hl => (h.lab.1 l hl).1, ?_⟩
    unfold r_law_17
    walk_at "dx"
    intro pp hpp
    exact law_18 h hp (by omega) l2 h6 h10 h11 h14 hf ha hpp q
theorem law_13 {Q : DK} {E : DX} {G : Gp} {f : Int} {cs : List Mch} {sts : List (Int × Int)} {labels : Labs} {ns : List Int} {p pc ps pl pf : Addr} {s4 s5 s7 s8 s9 s13 : Option D} (h : FtOk f cs sts labels) (hp : G p = some (ftG cs sts labels))
    (h6 : G pc = some (.lst (cs.map mchD))) (h10 : G ps = some (.lst (sts.map kstD))) (h11 : G pl = some (.lst (labels.map labD))) (hpf : G pf = none) (q : ∀ G' : Gp, Q (.bl true) G') :
    r_law_13 (fEnds Q E) [some (.scr ns), some .strm, some (.int cs.length), some (.int f), s4, s5, some (.ref pc), s7, s8, s9, some (.ref ps), some (.ref pl), some (.ref p), s13, some (.ref pf), none, none, none, none, none, none, none, none, none] (gupd G pf (.lst [])) := by
  have e1 : p ≠ pf := gne hp hpf
  have e2 : pc ≠ pf := gne h6 hpf
  have e3 : ps ≠ pf := gne h10 hpf
  have e4 : pl ≠ pf := gne h11 hpf
  have up : ∀ {a : Addr} {o : GO} {u : GO}, a ≠ pf → G a = some o → gupd G pf u a = some o := fun n e => by rw [gupd_ne n, e]
  have n0 := h.n
  unfold r_law_13
  walk_at "dx"
  refine for_rng (fun i s' G' => ∃ fo : List D, fo.length = i ∧ G' = gupd G pf (.lst fo) ∧ (∀ k < i, ∃ acc : List Pt, fo[k]? = some (.lst (acc.map pt)) ∧ Fnd cs k acc) ∧ ∃ s5 s13 s15 s16 s17 s18, s' = [some (.scr ns), some .strm, some (.int cs.length), some (.int f), s4, s5, some (.ref pc), s7, s8, s9, some (.ref ps), some (.ref pl), some (.ref p), s13, some (.ref pf), s15, s16, s17, s18, none, none, none, none, none]) ⟨[], rfl, rfl, fun k hk => absurd hk (Nat.not_lt_zero _), _, _, _, _, _, _, rfl⟩ ?_ ?_
  · rintro i s' G' hi ⟨fo, lf, rfl, hfo, s5, s13, s15, s16, s17, s18, rfl⟩
    have hi : i < 4 := hi
    unfold r_law_13b
    walk_at "dx"
    rw [up e2 h6]
    dsimp only
    intro a ha'
    refine lc_ref (fun j acc => acc = ((cs.take j).map fun c => c.mets.getD i 0).map .int) (up e2 h6) ha' rfl ?_ ?_
    · rintro j x acc hx hl' rfl
      obtain ⟨c, ec, rfl⟩ := map_get hx
      have jl := (List.getElem?_eq_some_iff.mp ec).1
      unfold mchD
      walk_at "dx"
      rw [Int.zero_add, met_at (h.m c (List.mem_of_getElem? ec)).1 hi]
      dsimp only
      refine lc_push' hl' (by omega) ?_
      show _ = ((cs.take (j + 1)).map _).map D.int
      rw [take_succ' ec, List.map_append, List.map_append]
      rfl
    · rintro acc hl' rfl
      rw [gdel_gupd ha', List.length_map, List.take_length]
      obtain ⟨m1, m2⟩ := mv_ok h.mch hi
      obtain ⟨l1, l2⟩ := lim_at hi
      unfold r_law_13b_1
      walk_at "dx"
      rw [Int.zero_add, l1]
      dsimp only
      refine ⟨mvF cs i, limM i, rfl, m1, m2, l2, fun rest t hr ht => ?_⟩
      have fd : Fnd cs i (grd t rest).reverse := ⟨rest, t, hr, ht, rfl⟩
      generalize (grd t rest).reverse = acc at fd
      walk_at "dx"
      refine ⟨size_lt (by omega), ?_⟩
      have at_ : atI (fo ++ [D.lst (acc.map pt)]) (i : Int) = some (.lst (acc.map pt)) := atI_nat (by
        rw [List.getElem?_append_right (by omega), lf, Nat.sub_self]
        rfl)
      have hp2 : gupd G pf (.lst (fo ++ [.lst (acc.map pt)])) p = some (ftG cs sts labels) := up e1 hp
      have hp3 := hp2
      unfold ftG fntG at hp3
      unfold r_law_13b_2 r_law_13b_2t
      walk_at "dx"
      rw [hp3]
      refine ⟨rfl, rfl, p, cs, _, _, i, rfl, hp2, h.mch, hi, fun rest' t' hr' ht' => ?_⟩
      rw [fnd_same fd hr' ht']
      walk_at "dx"
      rw [at_]
      dsimp only
      intro b hb
      obtain ⟨tt, gr⟩ := fnd_grps h.mch hi fd
      have gl := gr.len
      refine lc_lst (fun j a => a = (mids (acc.take j)).map .int) (by rw [List.take_zero]; rfl) ?_ ?_
      · rintro j x a ej hl' rfl
        obtain ⟨u, eu, rfl⟩ := map_get ej
        have j1 := (List.getElem?_eq_some_iff.mp eu).1
        unfold pt
        walk_at "dx"
        refine ⟨cdiv_s (by decide) (by decide), lc_push' hl' (by omega) ?_⟩
        show _ = (mids (acc.take (j + 1))).map D.int
        unfold mids
        rw [take_succ' eu, List.map_append, List.map_append]
        rfl
      rintro a hl' rfl
      rw [show (acc.map pt).length = acc.length from List.length_map .., List.take_length, gdel_gupd hb]
      have ml : (mids acc).length = acc.length := List.length_map ..
      refine ⟨size_le (by rw [List.length_map]; show 1 + _ ≤ _; omega), ?_⟩
      refine self_ne2 (d := .lst (.int 0 :: (mids acc).map .int)) rfl rfl (eqn_ints (0 :: mids acc)) (by decide) ?_
      unfold r_law_13b_3
      walk_at "dx"
      rw [up e2 h6]
      dsimp only
      refine for_ref (fun j s' G' => G' = gupd G pf (.lst (fo ++ [.lst (acc.map pt)])) ∧ ∃ s13 s16 s17 s18, s' = [some (.scr ns), some .strm, some (.int cs.length), some (.int f), s4, some (.int i), some (.ref pc), s7, s8, s9, some (.ref ps), some (.ref pl), some (.ref p), s13, some (.ref pf), some (.lst ((mvF cs i).map .int)), s16, s17, s18, none, none, none, none, none]) ⟨rfl, _, _, _, _, rfl⟩ ?_ ?_ ?_
      · rintro j s' G' ⟨rfl, _⟩
        exact up e2 h6
      · rintro j x s' G' ed ⟨rfl, s13, s16, s17, s18, rfl⟩
        obtain ⟨c, ec, rfl⟩ := map_get ed
        have cj := h.co j c ec
        have cm := List.mem_of_getElem? ec
        have fc : FirstC cs c.code c := ⟨j, ec, rfl, fun k d lt ed => by
          have := h.co k d ed
          omega⟩
        have em : mchD c = .tup [.int c.code, .int 0, .int 0, .tup [], .tup (c.mets.map .int)] := rfl
        have mt := met_at (k := i) (h.m c cm).1 hi
        unfold r_law_13b_3b
        rw [em]
        walk_at "dx"
        rw [hp3]
        refine ⟨rfl, rfl, p, cs, _, _, i, c.code, rfl, hp2, h.mch, hi, fun d hd rest' t' hr' ht' => ?_, fun no => absurd rfl (no c cm)⟩
        rw [fnd_same fd hr' ht', first_uniq hd fc]
        unfold r_law_13b_3b_1 r_law_13b_3b_1t
        walk_at "dx"
        refine ⟨_, rfl, ?_⟩
        walk_at "dx"
        rw [at_]
        dsimp only
        rw [mt]
        dsimp only
        refine ⟨acc, _, rfl, ?_⟩
        walk_at "dx"
        unfold r_law_13b_3b_2 r_law_13b_3b_2t
        walk_at "dx"
        rw [hp3]
        refine ⟨rfl, rfl, p, cs, _, _, c.code, rfl, hp2, fun k d ed e _ => ?_, fun no => absurd rfl (no c cm)⟩
        have dc : d = c := by
          have := h.co k d ed
          have : k = j := by omega
          rw [this, ec] at ed
          exact (Option.some.inj ed).symm
        rw [dc, em]
        walk_at "dx"
        refine self_ne2 (d := mchD c) rfl rfl (eqn_mch c) (by decide) ?_
        unfold gInO gIns
        dsimp only
        rw [hp3]
        refine ⟨rfl, p, cs, _, _, c.code, rfl, hp2, by omega, ?_⟩
        dsimp only
        have any : (cs.any fun x => decide (x.code = c.code)) = true := List.any_eq_true.mpr ⟨c, cm, decide_eq_true rfl⟩
        rw [any]
        walk_at "dx"
        exact ⟨_, _, _, _, rfl⟩
      · rintro s' G' ⟨rfl, s13, s16, s17, s18, rfl⟩
        refine ⟨fo ++ [.lst (acc.map pt)], by rw [List.length_append, lf]; rfl, rfl, fun k hk => ?_, _, _, _, _, _, _, rfl⟩
        by_cases e : k = i
        · exact ⟨acc, by rw [e, List.getElem?_append_right (by omega), lf, Nat.sub_self]; rfl, by rw [e]; exact fd⟩
        · obtain ⟨ac, h1, h2⟩ := hfo k (by omega)
          exact ⟨ac, by rw [List.getElem?_append_left (by omega)]; exact h1, h2⟩
  · rintro s' G' ⟨fo, lf, rfl, hfo, s5, s13, s15, s16, s17, s18, rfl⟩
    obtain ⟨acc0, h1, h2⟩ := hfo 0 (by decide)
    exact law_14 h (up e1 hp) (up e2 h6) (up e3 h10) (up e4 h11) gupd_same (atI_nat (j := 0) h1) h2 q
theorem law_10 {Q : DK} {E : DX} {G : Gp} {f : Int} {cs : List Mch} {sts : List (Int × Int)} {labels : Labs} {ns : List Int} {pc ps pl : Addr} {s4 s5 s7 s8 s9 : Option D} (h : FtOk f cs sts labels)
    (h6 : G pc = some (.lst (cs.map mchD))) (h10 : G ps = some (.lst (sts.map kstD))) (h11 : G pl = some (.lst (labels.map labD))) (q : ∀ G' : Gp, Q (.bl true) G') :
    r_law_10 (fEnds Q E) [some (.scr ns), some .strm, some (.int cs.length), some (.int f), s4, s5, some (.ref pc), s7, s8, s9, some (.ref ps), some (.ref pl), none, none, none, none, none, none, none, none, none, none, none, none] G := by
  have n0 := h.n
  unfold r_law_10
  walk_at "dx"
  rw [h6]
  dsimp only
  rw [h10]
  dsimp only
  rw [h11]
  dsimp only
  intro p hp
  refine ⟨p, cs, _, _, rfl, gupd_same, rfl, ?_⟩
  rw [gupd_gupd]
  have e2 : pc ≠ p := gne h6 hp
  have e3 : ps ≠ p := gne h10 hp
  have e4 : pl ≠ p := gne h11 hp
  have up : ∀ {a : Addr} {o : GO} {u : GO}, a ≠ p → G a = some o → gupd G p u a = some o := fun n e => by rw [gupd_ne n, e]
  unfold r_law_11 r_law_11t
  walk_at "dx"
  unfold gLenO gIns
  dsimp only
  rw [gupd_same]
  unfold fntG
  dsimp only
  refine ⟨rfl, p, cs, _, _, rfl, gupd_same, ⟨by omega, by omega⟩, ?_⟩
  walk_at "dx"
  unfold dItOwn gIns
  walk_at "dx"
  rw [fn_c]
  dsimp only
  intro a ha
  have hpa : p ≠ a := gne gupd_same ha
  refine lc_lst (fun j acc => acc = (cs.take j).map mchD) rfl ?_ ?_
  · rintro j x acc hx hl' rfl
    obtain ⟨c, ec, rfl⟩ := map_get hx
    have jl := (List.getElem?_eq_some_iff.mp ec).1
    walk_at "dx"
    refine lc_push' hl' (by omega) ?_
    show _ = (cs.take (j + 1)).map mchD
    rw [take_succ' ec, List.map_append]
    rfl
  rintro acc hl' rfl
  rw [gdel_gupd ha, List.length_map, List.take_length]
  refine self_ne2 (n := 3) rfl ?_ (eqn_lst fun d hd => ?_) (by decide) ?_
  · rw [up e2 h6]
  · obtain ⟨c, _, rfl⟩ := List.mem_map.mp hd
    exact eqn_mch c
  unfold gInO gIns
  dsimp only
  rw [gupd_same]
  dsimp only
  refine ⟨rfl, p, cs, _, _, _, rfl, gupd_same, by omega, ?_⟩
  dsimp only
  have any : (cs.any fun x => decide (x.code = f + cs.length)) = false := List.any_eq_false.mpr fun c hc => by
    obtain ⟨i, hi⟩ := List.mem_iff_getElem?.mp hc
    have := h.co i c hi
    have := (List.getElem?_eq_some_iff.mp hi).1
    rw [decide_eq_false (by omega)]
    decide
  rw [any]
  walk_at "dx"
  unfold r_law_12
  walk_at "dx"
  intro pf hpf
  exact law_13 h gupd_same (up e2 h6) (up e3 h10) (up e4 h11) hpf q
theorem law_7 {Q : DK} {E : DX} {G : Gp} {f : Int} {cs : List Mch} {ns : List Int} {pc : Addr} {s4 s5 s7 s8 s9 : Option D} (f0 : 0 ≤ f) (f1 : f ≤ 99) (n0 : cs.length ≤ 24) (co : ∀ (i : Nat) (c : Mch), cs[i]? = some c → c.code = f + i) (hm : ∀ c ∈ cs, c.mets.length = 4 ∧ ∀ v ∈ c.mets, 0 ≤ v ∧ v ≤ 6400)
    (h6 : G pc = some (.lst (cs.map mchD))) (q : ∀ G' : Gp, Q (.bl true) G') :
    r_law_7 (fEnds Q E) [some (.scr ns), some .strm, some (.int cs.length), some (.int f), s4, s5, some (.ref pc), s7, s8, s9, none, none, none, none, none, none, none, none, none, none, none, none, none, none] G := by
  unfold r_law_7
  walk_at "dx"
  intro ps hps
  unfold r_law_8
  walk_at "dx"
  intro pl hpl
  have e2 : pc ≠ ps := gne h6 hps
  have e3 : ps ≠ pl := gne gupd_same hpl
  have e4 : pc ≠ pl := gne (show gupd G ps (.lst []) pc = some (.lst (cs.map mchD)) by rw [gupd_ne e2, h6]) hpl
  unfold r_law_9
  walk_at "dx"
  refine ⟨5, rfl, cdiv_s (by decide) (by decide), fun m m0 m1 => ?_⟩
  walk_at "dx"
  refine ⟨⟨by omega, by omega⟩, ?_⟩
  obtain ⟨m, rfl⟩ := Int.eq_ofNat_of_zero_le m0
  rw [Int.toNat_natCast]
  refine for_rng (fun i s' G' => ∃ (sts : List (Int × Int)) (labels : Labs), sts.length = i ∧ labels.length = i ∧ (∀ s ∈ sts, 0 ≤ s.1 ∧ s.1 ≤ 110) ∧ (∀ (i : Nat) (l : Int × Nat), labels[i]? = some l → l = (f + 2 * i, i)) ∧ G' = gupd (gupd G ps (.lst (sts.map kstD))) pl (.lst (labels.map labD)) ∧ ∃ s7, s' = [some (.scr ns), some .strm, some (.int cs.length), some (.int f), s4, s5, some (.ref pc), s7, s8, s9, some (.ref ps), some (.ref pl), none, none, none, none, none, none, none, none, none, none, none, none]) ⟨[], [], rfl, rfl, (fun _ h => nomatch h), fun i l h => (by rw [List.getElem?_nil] at h; cases h), rfl, _, rfl⟩ ?_ ?_
  · rintro i s' G' hi ⟨sts, labels, ls, ll, hs, hl, rfl, s7, rfl⟩
    unfold r_law_9b
    walk_at "dx"
    rw [gupd_ne e3, gupd_same]
    refine ⟨trivial, 8, rfl, cdiv_s (by decide) (by decide), fun a a0 a1 => ?_⟩
    dsimp only
    refine ⟨200, rfl, cdiv_s (by decide) (by decide), fun b b0 b1 => ?_⟩
    unfold Dl.gSub
    walk_at "dx"
    rw [gupd_ne e3, gupd_same]
    refine ⟨size_lt (by rw [List.length_map]; omega), ?_⟩
    unfold r_law_9b_1
    walk_at "dx"
    have swap : ∀ {o u v : GO}, gupd (gupd (gupd G ps o) pl u) ps v = gupd (gupd G ps v) pl u := fun {o u v} => by
      funext b
      unfold gupd
      by_cases z : b = ps
      · rw [if_pos z, z, if_neg e3, if_pos rfl]
      · rw [if_neg z, if_neg z, if_neg z]
    rw [swap]
    walk_at "dx"
    refine ⟨cmul_b ⟨by omega, by omega⟩ ⟨by omega, by omega⟩, ?_⟩
    refine ⟨size_lt (by rw [List.length_map]; omega), ?_⟩
    refine ⟨sts ++ [(f + a, b - 100)], labels ++ [(f + 2 * i, i)], by rw [List.length_append, ls]; rfl, by rw [List.length_append, ll]; rfl, fun s h => ?_, fun j l h => ?_, ?_, some (.int (0 + i)), rfl⟩
    · rcases List.mem_append.mp h with h | h
      · exact hs s h
      · rw [List.mem_singleton.mp h]
        exact ⟨by show 0 ≤ f + a; omega, by show f + a ≤ 110; omega⟩
    · by_cases e : j < i
      · rw [List.getElem?_append_left (by omega)] at h
        exact hl j l h
      · rw [List.getElem?_append_right (by omega)] at h
        have z := (List.getElem?_eq_some_iff.mp h).1
        have : j = i := by
          have : j - labels.length < 1 := z
          omega
        subst this
        rw [ll, Nat.sub_self] at h
        exact (Option.some.inj h).symm
    · rw [List.map_append, List.map_append, Int.zero_add]
      rfl
  · rintro s' G' ⟨sts, labels, ls, ll, hs, hl, rfl, s7, rfl⟩
    refine law_10 ⟨f0, f1, n0, co, hm, by omega, hs, by omega, hl⟩ ?_ ?_ gupd_same q
    · rw [gupd_ne e4, gupd_ne e2, h6]
    · rw [gupd_ne e3, gupd_same]
theorem law_3 {Q : DK} {E : DX} {G : Gp} {ns : List Int} {n : Nat} (hn : n ≤ 24) (q : ∀ G' : Gp, Q (.bl true) G') :
    r_law_3 (fEnds Q E) [some (.scr ns), some .strm, some (.int n), none, none, none, none, none, none, none, none, none, none, none, none, none, none, none, none, none, none, none, none, none] G := by
  unfold r_law_3
  walk_at "dx"
  refine ⟨100, rfl, cdiv_s (by decide) (by decide), fun f f0 f1 => ?_⟩
  unfold r_law_4
  walk_at "dx"
  intro a ha
  refine lc_rng (fun i acc => ∃ tops : List Int, acc = tops.map .int ∧ tops.length = i ∧ ∀ c ∈ tops, 20 ≤ c ∧ c ≤ 6400) ⟨[], rfl, rfl, (fun _ h => nomatch h)⟩ ?_ ?_
  · rintro i acc hi hl2 ⟨tops, rfl, l1, l2⟩
    have hi : i < 4 := hi
    walk_at "dx"
    refine ⟨2, rfl, cdiv_s (by decide) (by decide), fun r r0 r1 => ?_⟩
    have push : ∀ c : Int, 20 ≤ c → c ≤ 6400 → ((gupd G a (.lst (tops.map .int))) a = some (.lst (tops.map .int)) ∧ (tops.map D.int).length < sizeLine ∧ LcV G a (fun i acc => ∃ tops : List Int, acc = tops.map .int ∧ tops.length = i ∧ ∀ c ∈ tops, 20 ≤ c ∧ c ≤ 6400) (i + 1) (tops.map .int ++ [.int c]) (gupd (gupd G a (.lst (tops.map .int))) a (.lst (tops.map .int ++ [.int c])))) := fun c h1 h2 =>
      lc_push hl2 (by omega) ⟨tops ++ [c], by rw [List.map_append]; rfl, by rw [List.length_append, l1]; rfl, fun x hx => by
        rcases List.mem_append.mp hx with hx | hx
        · exact l2 x hx
        · rw [List.mem_singleton.mp hx]
          exact ⟨h1, h2⟩⟩
    rcases (by omega : r = 0 ∨ r = 1) with rfl | rfl
    · exact push 20 (by decide) (by decide)
    · exact push 6400 (by decide) (by decide)
  · rintro acc hl2 ⟨tops, rfl, l1, l2⟩
    have l1 : tops.length = 4 := l1
    rw [gdel_gupd ha]
    unfold r_law_5
    walk_at "dx"
    intro pc hpc
    unfold r_law_6
    walk_at "dx"
    refine ⟨⟨by omega, by omega⟩, ?_⟩
    rw [Int.toNat_natCast]
    refine for_rng (fun i s' G' => ∃ cs : List Mch, cs.length = i ∧ (∀ (i : Nat) (c : Mch), cs[i]? = some c → c.code = f + i) ∧ (∀ c ∈ cs, c.mets.length = 4 ∧ ∀ v ∈ c.mets, 0 ≤ v ∧ v ≤ 6400) ∧ G' = gupd G pc (.lst (cs.map mchD)) ∧ ∃ s5 s7 s8 s9, s' = [some (.scr ns), some .strm, some (.int n), some (.int f), some (.lst (tops.map .int)), s5, some (.ref pc), s7, s8, s9, none, none, none, none, none, none, none, none, none, none, none, none, none, none]) ⟨[], rfl, fun i l h => (by rw [List.getElem?_nil] at h; cases h), (fun _ h => nomatch h), rfl, _, _, _, _, rfl⟩ ?_ ?_
    · rintro i s' G' hi ⟨cs, lc, co, hm, rfl, s5, s7, s8, s9, rfl⟩
      unfold r_law_6b
      walk_at "dx"
      refine ⟨ns, _, rfl, by omega, fun c0 => ⟨c0, rfl, ?_⟩⟩
      unfold r_law_6b_1
      walk_at "dx"
      intro b hb
      refine lc_rng (fun i acc => ∃ ms : List Int, acc = ms.map .int ∧ ms.length = i ∧ ∀ c ∈ ms, 0 ≤ c ∧ c ≤ 6400) ⟨[], rfl, rfl, (fun _ h => nomatch h)⟩ ?_ ?_
      · rintro j acc hj hl3 ⟨ms, rfl, k1, k2⟩
        have hj : j < 4 := hj
        have ht := List.getElem?_eq_getElem (show j < tops.length by omega)
        have b := l2 _ (List.getElem_mem (show j < tops.length by omega))
        generalize tops[j] = t at ht b
        walk_at "dx"
        rw [Int.zero_add, show atI (tops.map D.int) (j : Int) = some (.int t) from atI_nat (by rw [List.getElem?_map, ht]; rfl)]
        dsimp only
        refine ⟨_, rfl, cdiv_s (by omega) (by omega), fun r r0 r1 => ?_⟩
        refine lc_push hl3 (by omega) ⟨ms ++ [r], by rw [List.map_append]; rfl, by rw [List.length_append, k1]; rfl, fun x hx => ?_⟩
        rcases List.mem_append.mp hx with hx | hx
        · exact k2 x hx
        · rw [List.mem_singleton.mp hx]
          exact ⟨by omega, by omega⟩
      · rintro acc hl3 ⟨ms, rfl, k1, k2⟩
        rw [gdel_gupd hb]
        unfold r_law_6b_2
        walk_at "dx"
        refine ⟨size_lt (by rw [List.length_map]; omega), ?_⟩
        refine ⟨cs ++ [⟨f + i, ms⟩], by rw [List.length_append, lc]; rfl, fun j c h => ?_, fun c h => ?_, ?_, s5, some (.int (0 + i)), some .strm, some (.tup (ms.map .int)), rfl⟩
        · by_cases e : j < i
          · rw [List.getElem?_append_left (by omega)] at h
            exact co j c h
          · rw [List.getElem?_append_right (by omega)] at h
            have z := (List.getElem?_eq_some_iff.mp h).1
            have : j = i := by
              have : j - cs.length < 1 := z
              omega
            subst this
            rw [lc, Nat.sub_self] at h
            rw [← Option.some.inj h]
        · rcases List.mem_append.mp h with h | h
          · exact hm c h
          · rw [List.mem_singleton.mp h]
            exact ⟨k1, k2⟩
        · rw [List.map_append, Int.zero_add]
          rfl
    · rintro s' G' ⟨cs, rfl, co, hm, rfl, s5, s7, s8, s9, rfl⟩
      exact law_7 f0 (by omega) hn co hm gupd_same q
theorem p_law (ds : List D) (G : Gp) (Q : DK) (E : DX) (h : spLaw ds G Q E) : ds.length = 1 ∧ r_law (fEnds Q E) (dstart 24 ds) G := by
  obtain ⟨ns, rfl, _, _, q⟩ := h
  refine ⟨rfl, ?_⟩
  unfold r_law
  walk_at "dx"
  refine ⟨ns, 0, rfl, by decide, fun c0 => ⟨c0, rfl, ?_⟩⟩
  unfold r_law_1
  walk_at "dx"
  refine ⟨9, rfl, cdiv_s (by decide) (by decide), fun m m0 m1 => ?_⟩
  obtain ⟨m, rfl⟩ := Int.eq_ofNat_of_zero_le m0
  unfold r_law_2 r_law_2t
  walk_at "dx"
  refine ⟨3, rfl, cdiv_s (by decide) (by decide), fun z z0 z1 => ?_⟩
  walk_at "dx"
  by_cases e : z = 0
  · rw [if_pos e]
    refine ⟨25, rfl, cdiv_s (by decide) (by decide), fun m2 m20 m21 => ?_⟩
    obtain ⟨m2, rfl⟩ := Int.eq_ofNat_of_zero_le m20
    exact law_3 (by omega) q
  · rw [if_neg e]
    exact law_3 (by omega) q

end Lk65
set_option Elab.async false
set_option linter.all false
set_option maxRecDepth 100000
set_option maxHeartbeats 4000000
open PySem PySem.Spec PyProof.Rows L2 Dl
namespace Lk65
set_option autoImplicit false
def topS (i : Nat) : Stmt := PySem.Challenge.pw_fontwinding_k65_widths_and_positions.main.body.getD i (.Pass ⟨0, 0, 0, 0⟩)
def N_ascending : List Str := ["values", "value"]
abbrev s_ascending : Stmt := topS 7
theorem sc_ascending : FnScope ["values", "value"] ["values"] (defScope s_ascending) := ⟨rfl, rfl, rfl, by decide +kernel, rfl, by decide +kernel, by decide +kernel⟩
def N_groups : List Str := ["values", "tolerance", "found", "value"]
abbrev s_groups : Stmt := topS 8
theorem sc_groups : FnScope ["values", "tolerance", "found", "value"] ["values", "tolerance"] (defScope s_groups) := ⟨rfl, rfl, rfl, by decide +kernel, rfl, by decide +kernel, by decide +kernel⟩
def N_least_tolerance : List Str := ["values", "limit", "distinct", "low", "high", "middle"]
abbrev s_least_tolerance : Stmt := topS 9
theorem sc_least_tolerance : FnScope ["values", "limit", "distinct", "low", "high", "middle"] ["values", "limit"] (defScope s_least_tolerance) := ⟨rfl, rfl, rfl, by decide +kernel, rfl, by decide +kernel, by decide +kernel⟩
def N_table : List Str := ["values", "limit", "tolerance", "least", "greatest"]
abbrev s_table : Stmt := topS 10
theorem sc_table : FnScope ["values", "limit", "tolerance", "least", "greatest"] ["values", "limit"] (defScope s_table) := ⟨rfl, rfl, rfl, by decide +kernel, rfl, by decide +kernel, by decide +kernel⟩
def N_table_value : List Str := ["values", "limit", "value", "tolerance", "least", "greatest"]
abbrev s_table_value : Stmt := topS 12
theorem sc_table_value : FnScope ["values", "limit", "value", "tolerance", "least", "greatest"] ["values", "limit", "value"] (defScope s_table_value) := ⟨rfl, rfl, rfl, by decide +kernel, rfl, by decide +kernel, by decide +kernel⟩
def N_rule : List Str := ["steps", "labels", "left", "right", "code", "index", "step"]
abbrev s_rule : Stmt := topS 16
theorem sc_rule : FnScope ["steps", "labels", "left", "right", "code", "index", "step"] ["steps", "labels", "left", "right"] (defScope s_rule) := ⟨rfl, rfl, rfl, by decide +kernel, rfl, by decide +kernel, by decide +kernel⟩
def N_plain_end : List Str := ["action", "right", "_", "code", "left_stays", "right_stays", "advance"]
abbrev s_plain_end : Stmt := topS 17
theorem sc_plain_end : FnScope ["action", "right", "_", "code", "left_stays", "right_stays", "advance"] ["action", "right"] (defScope s_plain_end) := ⟨rfl, rfl, rfl, by decide +kernel, rfl, by decide +kernel, by decide +kernel⟩
def N_settle : List Str := ["action", "ends", "left", "right", "end", "_", "code", "left_stays", "right_stays", "advance", "needed"]
abbrev s_settle : Stmt := topS 18
theorem sc_settle : FnScope ["action", "ends", "left", "right", "end", "_", "code", "left_stays", "right_stays", "advance", "needed"] ["action", "ends", "left", "right"] (defScope s_settle) := ⟨rfl, rfl, rfl, by decide +kernel, rfl, by decide +kernel, by decide +kernel⟩
def N_settled_ends : List Str := ["steps", "labels", "pairs", "ends", "waiting", "known", "pair", "changed", "left_over", "left", "right", "end", "needed"]
abbrev s_settled_ends : Stmt := topS 19
theorem sc_settled_ends : FnScope ["steps", "labels", "pairs", "ends", "waiting", "known", "pair", "changed", "left_over", "left", "right", "end", "needed"] ["steps", "labels", "pairs"] (defScope s_settled_ends) := ⟨rfl, rfl, rfl, by decide +kernel, rfl, by decide +kernel, by decide +kernel⟩
def N_ruled_pairs : List Str := ["steps", "labels", "pairs", "code", "index", "step"]
abbrev s_ruled_pairs : Stmt := topS 20
theorem sc_ruled_pairs : FnScope ["steps", "labels", "pairs", "code", "index", "step"] ["steps", "labels"] (defScope s_ruled_pairs) := ⟨rfl, rfl, rfl, by decide +kernel, rfl, by decide +kernel, by decide +kernel⟩
def N_endless_pairs : List Str := ["steps", "labels", "pairs", "ends", "pair"]
abbrev s_endless_pairs : Stmt := topS 21
theorem sc_endless_pairs : FnScope ["steps", "labels", "pairs", "ends", "pair"] ["steps", "labels"] (defScope s_endless_pairs) := ⟨rfl, rfl, rfl, by decide +kernel, rfl, by decide +kernel, by decide +kernel⟩
def N_Row___init__ : List Str := ["self", "codes"]
abbrev s_Row___init__ : Stmt := inC (topS 24) 0
theorem sc_Row___init__ : FnScope ["self", "codes"] ["self", "codes"] (defScope s_Row___init__) := ⟨rfl, rfl, rfl, by decide +kernel, rfl, by decide +kernel, by decide +kernel⟩
def N_Row_glyphs_and_kerns : List Str := ["self", "glyphs", "kerns", "index"]
abbrev s_Row_glyphs_and_kerns : Stmt := inC (topS 24) 4
theorem sc_Row_glyphs_and_kerns : FnScope ["self", "glyphs", "kerns", "index"] ["self"] (defScope s_Row_glyphs_and_kerns) := ⟨rfl, rfl, rfl, by decide +kernel, rfl, by decide +kernel, by decide +kernel⟩
def N_Row_is_done : List Str := ["self"]
abbrev s_Row_is_done : Stmt := inC (topS 24) 1
theorem sc_Row_is_done : FnScope ["self"] ["self"] (defScope s_Row_is_done) := ⟨rfl, rfl, rfl, by decide +kernel, rfl, by decide +kernel, by decide +kernel⟩
def N_Row_kern : List Str := ["self", "amount"]
abbrev s_Row_kern : Stmt := inC (topS 24) 2
theorem sc_Row_kern : FnScope ["self", "amount"] ["self", "amount"] (defScope s_Row_kern) := ⟨rfl, rfl, rfl, by decide +kernel, rfl, by decide +kernel, by decide +kernel⟩
def N_Row_ligature : List Str := ["self", "code", "left_stays", "right_stays", "advance", "at", "items"]
abbrev s_Row_ligature : Stmt := inC (topS 24) 3
theorem sc_Row_ligature : FnScope ["self", "code", "left_stays", "right_stays", "advance", "at", "items"] ["self", "code", "left_stays", "right_stays", "advance"] (defScope s_Row_ligature) := ⟨rfl, rfl, rfl, by decide +kernel, rfl, by decide +kernel, by decide +kernel⟩
def N_set_line : List Str := ["steps", "labels", "codes", "row", "action"]
abbrev s_set_line : Stmt := topS 25
theorem sc_set_line : FnScope ["steps", "labels", "codes", "row", "action"] ["steps", "labels", "codes"] (defScope s_set_line) := ⟨rfl, rfl, rfl, by decide +kernel, rfl, by decide +kernel, by decide +kernel⟩
def N__law_cell : List Str := ["_law_script", "_law_k"]
abbrev s__law_cell : Stmt := topS 30
theorem sc__law_cell : FnScope ["_law_script", "_law_k"] ["_law_script", "_law_k"] (defScope s__law_cell) := ⟨rfl, rfl, rfl, by decide +kernel, rfl, by decide +kernel, by decide +kernel⟩
def N__law_stream : List Str := ["_law_cell_here"]
abbrev s__law_stream : Stmt := topS 31
theorem sc__law_stream : FnScope ["_law_cell_here"] ["_law_cell_here"] (defScope s__law_stream) := ⟨rfl, rfl, rfl, by decide +kernel, rfl, by decide +kernel, by decide +kernel⟩
def N__law_next : List Str := ["_law_stream_here", "_law_size", "_law_drawn", "_law_mixed"]
abbrev s__law_next : Stmt := topS 32
theorem sc__law_next : FnScope ["_law_stream_here", "_law_size", "_law_drawn", "_law_mixed"] ["_law_stream_here", "_law_size"] (defScope s__law_next) := ⟨rfl, rfl, rfl, by decide +kernel, rfl, by decide +kernel, by decide +kernel⟩
def N__law_is_integer : List Str := ["_law_actual"]
abbrev s__law_is_integer : Stmt := topS 33
theorem sc__law_is_integer : FnScope ["_law_actual"] ["_law_actual"] (defScope s__law_is_integer) := ⟨rfl, rfl, rfl, by decide +kernel, rfl, by decide +kernel, by decide +kernel⟩
def N__law_ascending : List Str := ["_law_values_here", "_law_told", "_law_value"]
abbrev s__law_ascending : Stmt := topS 35
theorem sc__law_ascending : FnScope ["_law_values_here", "_law_told", "_law_value"] ["_law_values_here"] (defScope s__law_ascending) := ⟨rfl, rfl, rfl, by decide +kernel, rfl, by decide +kernel, by decide +kernel⟩
def N__law_greedy : List Str := ["_law_rest", "_law_e", "_law_found", "_law_value"]
abbrev s__law_greedy : Stmt := topS 36
theorem sc__law_greedy : FnScope ["_law_rest", "_law_e", "_law_found", "_law_value"] ["_law_rest", "_law_e"] (defScope s__law_greedy) := ⟨rfl, rfl, rfl, by decide +kernel, rfl, by decide +kernel, by decide +kernel⟩
def N__law_table : List Str := ["_law_values_here", "_law_limit", "_law_rest", "_law_differences", "_law_k", "_law_value", "_law_e"]
abbrev s__law_table : Stmt := topS 37
theorem sc__law_table : FnScope ["_law_values_here", "_law_limit", "_law_rest", "_law_differences", "_law_k", "_law_value", "_law_e"] ["_law_values_here", "_law_limit"] (defScope s__law_table) := ⟨rfl, rfl, rfl, by decide +kernel, rfl, by decide +kernel, by decide +kernel⟩
def N__law_middle : List Str := ["_law_found", "_law_value", "_law_least", "_law_greatest"]
abbrev s__law_middle : Stmt := topS 38
theorem sc__law_middle : FnScope ["_law_found", "_law_value", "_law_least", "_law_greatest"] ["_law_found", "_law_value"] (defScope s__law_middle) := ⟨rfl, rfl, rfl, by decide +kernel, rfl, by decide +kernel, by decide +kernel⟩
def N_Font_character : List Str := ["self", "code", "character"]
abbrev s_Font_character : Stmt := inC (topS 28) 4
theorem sc_Font_character : FnScope ["self", "code", "character"] ["self", "code"] (defScope s_Font_character) := ⟨rfl, rfl, rfl, by decide +kernel, rfl, by decide +kernel, by decide +kernel⟩
def N_Font_metric_values : List Str := ["self", "metric", "character"]
abbrev s_Font_metric_values : Stmt := inC (topS 28) 6
theorem sc_Font_metric_values : FnScope ["self", "metric", "character"] ["self", "metric"] (defScope s_Font_metric_values) := ⟨rfl, rfl, rfl, by decide +kernel, rfl, by decide +kernel, by decide +kernel⟩
def N_Font_table_value : List Str := ["self", "code", "metric", "own"]
abbrev s_Font_table_value : Stmt := inC (topS 28) 8
theorem sc_Font_table_value : FnScope ["self", "code", "metric", "own"] ["self", "code", "metric"] (defScope s_Font_table_value) := ⟨rfl, rfl, rfl, by decide +kernel, rfl, by decide +kernel, by decide +kernel⟩
def N_Font_pixel : List Str := ["self", "code", "i", "j", "_", "left", "bottom", "rows", "row"]
abbrev s_Font_pixel : Stmt := inC (topS 28) 5
theorem sc_Font_pixel : FnScope ["self", "code", "i", "j", "_", "left", "bottom", "rows", "row"] ["self", "code", "i", "j"] (defScope s_Font_pixel) := ⟨rfl, rfl, rfl, by decide +kernel, rfl, by decide +kernel, by decide +kernel⟩
def N__law_refuses : List Str := ["_law_font", "_law_code", "_law_found", "_law_e"]
abbrev s__law_refuses : Stmt := topS 39
theorem sc__law_refuses : FnScope ["_law_font", "_law_code", "_law_found", "_law_e"] ["_law_font", "_law_code"] (defScope s__law_refuses) := ⟨rfl, rfl, rfl, by decide +kernel, rfl, by decide +kernel, by decide +kernel⟩
def N_Font_line : List Str := ["self", "codes"]
abbrev s_Font_line : Stmt := inC (topS 28) 9
theorem sc_Font_line : FnScope ["self", "codes"] ["self", "codes"] (defScope s_Font_line) := ⟨rfl, rfl, rfl, by decide +kernel, rfl, by decide +kernel, by decide +kernel⟩
def N_Font___contains__ : List Str := ["self", "code", "character"]
abbrev s_Font___contains__ : Stmt := inC (topS 28) 2
theorem sc_Font___contains__ : FnScope ["self", "code", "character"] ["self", "code"] (defScope s_Font___contains__) := ⟨rfl, rfl, rfl, by decide +kernel, rfl, by decide +kernel, by decide +kernel⟩
def N_Font_glyph_width : List Str := ["self", "code"]
abbrev s_Font_glyph_width : Stmt := inC (topS 28) 10
theorem sc_Font_glyph_width : FnScope ["self", "code"] ["self", "code"] (defScope s_Font_glyph_width) := ⟨rfl, rfl, rfl, by decide +kernel, rfl, by decide +kernel, by decide +kernel⟩
def N_Font_width : List Str := ["self", "codes", "glyphs", "kerns", "code"]
abbrev s_Font_width : Stmt := inC (topS 28) 11
theorem sc_Font_width : FnScope ["self", "codes", "glyphs", "kerns", "code"] ["self", "codes"] (defScope s_Font_width) := ⟨rfl, rfl, rfl, by decide +kernel, rfl, by decide +kernel, by decide +kernel⟩
def N_Font_positions : List Str := ["self", "codes", "glyphs", "kerns", "at", "positions", "index"]
abbrev s_Font_positions : Stmt := inC (topS 28) 12
theorem sc_Font_positions : FnScope ["self", "codes", "glyphs", "kerns", "at", "positions", "index"] ["self", "codes"] (defScope s_Font_positions) := ⟨rfl, rfl, rfl, by decide +kernel, rfl, by decide +kernel, by decide +kernel⟩
def N__law_too_long : List Str := ["_law_font", "_law_codes", "_law_found", "_law_e"]
abbrev s__law_too_long : Stmt := topS 40
theorem sc__law_too_long : FnScope ["_law_font", "_law_codes", "_law_found", "_law_e"] ["_law_font", "_law_codes"] (defScope s__law_too_long) := ⟨rfl, rfl, rfl, by decide +kernel, rfl, by decide +kernel, by decide +kernel⟩
def N__law_kern : List Str := ["_law_steps", "_law_labels", "_law_left", "_law_right", "_law_code", "_law_index"]
abbrev s__law_kern : Stmt := topS 41
theorem sc__law_kern : FnScope ["_law_steps", "_law_labels", "_law_left", "_law_right", "_law_code", "_law_index"] ["_law_steps", "_law_labels", "_law_left", "_law_right"] (defScope s__law_kern) := ⟨rfl, rfl, rfl, by decide +kernel, rfl, by decide +kernel, by decide +kernel⟩
def N_Font___init__ : List Str := ["self", "characters", "steps", "labels"]
abbrev s_Font___init__ : Stmt := inC (topS 28) 0
theorem sc_Font___init__ : FnScope ["self", "characters", "steps", "labels"] ["self", "characters", "steps", "labels"] (defScope s_Font___init__) := ⟨rfl, rfl, rfl, by decide +kernel, rfl, by decide +kernel, by decide +kernel⟩
def N_Font___len__ : List Str := ["self"]
abbrev s_Font___len__ : Stmt := inC (topS 28) 1
theorem sc_Font___len__ : FnScope ["self"] ["self"] (defScope s_Font___len__) := ⟨rfl, rfl, rfl, by decide +kernel, rfl, by decide +kernel, by decide +kernel⟩
def N_Font_table : List Str := ["self", "metric"]
abbrev s_Font_table : Stmt := inC (topS 28) 7
theorem sc_Font_table : FnScope ["self", "metric"] ["self", "metric"] (defScope s_Font_table) := ⟨rfl, rfl, rfl, by decide +kernel, rfl, by decide +kernel, by decide +kernel⟩
def N_law : List Str := ["_law_script", "_law_stream_here", "_law_count", "_law_first", "_law_tops", "_law_metric", "_law_characters", "_law_k", "_law_own", "_law_metrics", "_law_steps", "_law_labels", "_law_font", "_law_told", "_law_found", "_law_values_here", "_law_character", "_law_least", "_law_greatest", "_law_line", "_law_codes", "_law_at", "_law_positions", "_law_width"]
abbrev s_law : Stmt := topS 42
theorem sc_law : FnScope ["_law_script", "_law_stream_here", "_law_count", "_law_first", "_law_tops", "_law_metric", "_law_characters", "_law_k", "_law_own", "_law_metrics", "_law_steps", "_law_labels", "_law_font", "_law_told", "_law_found", "_law_values_here", "_law_character", "_law_least", "_law_greatest", "_law_line", "_law_codes", "_law_at", "_law_positions", "_law_width"] ["_law_script"] (defScope s_law) := ⟨rfl, rfl, rfl, by decide +kernel, rfl, by decide +kernel, by decide +kernel⟩
abbrev s_Font___iter__ : Stmt := inC (topS 28) 3
theorem sc_Font___iter__ : FnScope ["self"] ["self"] (defScope s_Font___iter__) := ⟨rfl, rfl, rfl, by decide +kernel, rfl, by decide +kernel, by decide +kernel⟩
def fas : List Fc := [
  .he (.free "any"),
  .he (.free "bool"),
  .he (.free "int"),
  .he (.free "isinstance"),
  .he (.free "iter"),
  .he (.free "len"),
  .he (.free "list"),
  .he (.free "range"),
  .he (.free "sorted"),
  .he (.free "sum"),
  .he (.free "tuple"),
  .con "EDGE" (.int 128),
  .con "LIMITS" (.tup [.int 8, .int 4, .int 3, .int 2]),
  .con "ROW_LIMIT" (.int 400),
  .con "WIDTH" (.int 0),
  .he (.glo "EndlessPair"),
  .he (.exc "EndlessPair"),
  .he (.glo "OutOfRange"),
  .he (.exc "OutOfRange"),
  .he (.glo "TooLong"),
  .he (.exc "TooLong"),
  .he (.glo "OutOfRange"),
  .catch_ "OutOfRange" [("EndlessPair", false), ("OutOfRange", true), ("TooLong", false)],
  .he (.glo "TooLong"),
  .catch_ "TooLong" [("EndlessPair", false), ("OutOfRange", false), ("TooLong", true)],
  .con "FontError" (.glo "FontError"),
  .kits [(("EndlessPair", .inl "FontError"), true), (("OutOfRange", .inl "FontError"), true), (("TooLong", .inl "FontError"), true)],
  .he (.cls "Font"),
  .he (.glo "Font"),
  .he (.cls "Row"),
  .he (.glo "Row"),
  .he (.noat "Font" "characters"),
  .he (.noat "Font" "labels"),
  .he (.noat "Font" "steps"),
  .he (.noat "Row" "codes"),
  .he (.noat "Row" "gaps"),
  .he (.noat "Row" "place"),
  .he (.meth "Font" "__contains__"),
  .he (.meth "Font" "__iter__"),
  .he (.meth "Font" "__len__"),
  .he (.meth "Font" "character"),
  .he (.meth "Font" "glyph_width"),
  .he (.meth "Font" "line"),
  .he (.meth "Font" "metric_values"),
  .he (.meth "Font" "pixel"),
  .he (.meth "Font" "positions"),
  .he (.meth "Font" "table"),
  .he (.meth "Font" "table_value"),
  .he (.meth "Font" "width"),
  .he (.meth "Row" "glyphs_and_kerns"),
  .he (.meth "Row" "is_done"),
  .he (.meth "Row" "kern"),
  .he (.meth "Row" "ligature"),
  .he (.mkr "Font"),
  .he (.mkr "Row"),
  .con "table_metrics" (.glo "table"),
  .con "table_value_metrics" (.glo "table_value"),
  .he (.glo "ascending"),
  .he (.glo "groups"),
  .he (.glo "least_tolerance"),
  .he (.glo "table"),
  .he (.glo "table_value"),
  .he (.glo "rule"),
  .he (.glo "plain_end"),
  .he (.glo "settle"),
  .he (.glo "settled_ends"),
  .he (.glo "ruled_pairs"),
  .he (.glo "endless_pairs"),
  .he (.glo "set_line"),
  .he (.glo "_law_cell"),
  .he (.glo "_law_stream"),
  .he (.glo "_law_next"),
  .he (.glo "_law_is_integer"),
  .he (.glo "_law_ascending"),
  .he (.glo "_law_greedy"),
  .he (.glo "_law_table"),
  .he (.glo "_law_middle"),
  .he (.glo "_law_refuses"),
  .he (.glo "_law_too_long"),
  .he (.glo "_law_kern"),
  .he (.glo "law")]
def fns : List He.DefD := [
  ⟨("ascending", none), "ascending", "ascending", defArgs s_ascending, defBody s_ascending, defScope s_ascending, [], []⟩,
  ⟨("groups", none), "groups", "groups", defArgs s_groups, defBody s_groups, defScope s_groups, [], []⟩,
  ⟨("least_tolerance", none), "least_tolerance", "least_tolerance", defArgs s_least_tolerance, defBody s_least_tolerance, defScope s_least_tolerance, [], []⟩,
  ⟨("table", none), "table", "table", defArgs s_table, defBody s_table, defScope s_table, [], []⟩,
  ⟨("table_value", none), "table_value", "table_value", defArgs s_table_value, defBody s_table_value, defScope s_table_value, [], []⟩,
  ⟨("rule", none), "rule", "rule", defArgs s_rule, defBody s_rule, defScope s_rule, [], []⟩,
  ⟨("plain_end", none), "plain_end", "plain_end", defArgs s_plain_end, defBody s_plain_end, defScope s_plain_end, [], []⟩,
  ⟨("settle", none), "settle", "settle", defArgs s_settle, defBody s_settle, defScope s_settle, [], []⟩,
  ⟨("settled_ends", none), "settled_ends", "settled_ends", defArgs s_settled_ends, defBody s_settled_ends, defScope s_settled_ends, [], []⟩,
  ⟨("ruled_pairs", none), "ruled_pairs", "ruled_pairs", defArgs s_ruled_pairs, defBody s_ruled_pairs, defScope s_ruled_pairs, [], []⟩,
  ⟨("endless_pairs", none), "endless_pairs", "endless_pairs", defArgs s_endless_pairs, defBody s_endless_pairs, defScope s_endless_pairs, [], []⟩,
  ⟨("Row", some "__init__"), "__init__", "Row.__init__", defArgs s_Row___init__, defBody s_Row___init__, defScope s_Row___init__, [], []⟩,
  ⟨("Row", some "glyphs_and_kerns"), "glyphs_and_kerns", "Row.glyphs_and_kerns", defArgs s_Row_glyphs_and_kerns, defBody s_Row_glyphs_and_kerns, defScope s_Row_glyphs_and_kerns, [], []⟩,
  ⟨("Row", some "is_done"), "is_done", "Row.is_done", defArgs s_Row_is_done, defBody s_Row_is_done, defScope s_Row_is_done, [], []⟩,
  ⟨("Row", some "kern"), "kern", "Row.kern", defArgs s_Row_kern, defBody s_Row_kern, defScope s_Row_kern, [], []⟩,
  ⟨("Row", some "ligature"), "ligature", "Row.ligature", defArgs s_Row_ligature, defBody s_Row_ligature, defScope s_Row_ligature, [], []⟩,
  ⟨("set_line", none), "set_line", "set_line", defArgs s_set_line, defBody s_set_line, defScope s_set_line, [], []⟩,
  ⟨("_law_cell", none), "_law_cell", "_law_cell", defArgs s__law_cell, defBody s__law_cell, defScope s__law_cell, [], []⟩,
  ⟨("_law_stream", none), "_law_stream", "_law_stream", defArgs s__law_stream, defBody s__law_stream, defScope s__law_stream, [], []⟩,
  ⟨("_law_next", none), "_law_next", "_law_next", defArgs s__law_next, defBody s__law_next, defScope s__law_next, [], []⟩,
  ⟨("_law_is_integer", none), "_law_is_integer", "_law_is_integer", defArgs s__law_is_integer, defBody s__law_is_integer, defScope s__law_is_integer, [], []⟩,
  ⟨("_law_ascending", none), "_law_ascending", "_law_ascending", defArgs s__law_ascending, defBody s__law_ascending, defScope s__law_ascending, [], []⟩,
  ⟨("_law_greedy", none), "_law_greedy", "_law_greedy", defArgs s__law_greedy, defBody s__law_greedy, defScope s__law_greedy, [], []⟩,
  ⟨("_law_table", none), "_law_table", "_law_table", defArgs s__law_table, defBody s__law_table, defScope s__law_table, [], []⟩,
  ⟨("_law_middle", none), "_law_middle", "_law_middle", defArgs s__law_middle, defBody s__law_middle, defScope s__law_middle, [], []⟩,
  ⟨("Font", some "character"), "character", "Font.character", defArgs s_Font_character, defBody s_Font_character, defScope s_Font_character, [], []⟩,
  ⟨("Font", some "metric_values"), "metric_values", "Font.metric_values", defArgs s_Font_metric_values, defBody s_Font_metric_values, defScope s_Font_metric_values, [], []⟩,
  ⟨("Font", some "table_value"), "table_value", "Font.table_value", defArgs s_Font_table_value, defBody s_Font_table_value, defScope s_Font_table_value, [], []⟩,
  ⟨("Font", some "pixel"), "pixel", "Font.pixel", defArgs s_Font_pixel, defBody s_Font_pixel, defScope s_Font_pixel, [], []⟩,
  ⟨("_law_refuses", none), "_law_refuses", "_law_refuses", defArgs s__law_refuses, defBody s__law_refuses, defScope s__law_refuses, [], []⟩,
  ⟨("Font", some "line"), "line", "Font.line", defArgs s_Font_line, defBody s_Font_line, defScope s_Font_line, [], []⟩,
  ⟨("Font", some "__contains__"), "__contains__", "Font.__contains__", defArgs s_Font___contains__, defBody s_Font___contains__, defScope s_Font___contains__, [], []⟩,
  ⟨("Font", some "glyph_width"), "glyph_width", "Font.glyph_width", defArgs s_Font_glyph_width, defBody s_Font_glyph_width, defScope s_Font_glyph_width, [], []⟩,
  ⟨("Font", some "width"), "width", "Font.width", defArgs s_Font_width, defBody s_Font_width, defScope s_Font_width, [], []⟩,
  ⟨("Font", some "positions"), "positions", "Font.positions", defArgs s_Font_positions, defBody s_Font_positions, defScope s_Font_positions, [], []⟩,
  ⟨("_law_too_long", none), "_law_too_long", "_law_too_long", defArgs s__law_too_long, defBody s__law_too_long, defScope s__law_too_long, [], []⟩,
  ⟨("_law_kern", none), "_law_kern", "_law_kern", defArgs s__law_kern, defBody s__law_kern, defScope s__law_kern, [], []⟩,
  ⟨("Font", some "__init__"), "__init__", "Font.__init__", defArgs s_Font___init__, defBody s_Font___init__, defScope s_Font___init__, [], []⟩,
  ⟨("Font", some "__len__"), "__len__", "Font.__len__", defArgs s_Font___len__, defBody s_Font___len__, defScope s_Font___len__, [], []⟩,
  ⟨("Font", some "table"), "table", "Font.table", defArgs s_Font_table, defBody s_Font_table, defScope s_Font_table, [], []⟩,
  ⟨("law", none), "law", "law", defArgs s_law, defBody s_law, defScope s_law, [], []⟩,
  ⟨("Font", some "__iter__"), "__iter__", "Font.__iter__", defArgs s_Font___iter__, defBody s_Font___iter__, defScope s_Font___iter__, [], []⟩]
structure Tx (K : PySem.W.Frag) (mg : Str → Option Value) : Prop where
  m_any : mg "any" = none
  m_bool : mg "bool" = none
  m_int : mg "int" = none
  m_isinstance : mg "isinstance" = none
  m_iter : mg "iter" = none
  m_len : mg "len" = none
  m_list : mg "list" = none
  m_range : mg "range" = none
  m_sorted : mg "sorted" = none
  m_sum : mg "sum" = none
  m_tuple : mg "tuple" = none
  c_EDGE : ∃ u, mg "EDGE" = some u ∧ GloV K u (.int 128)
  c_LIMITS : ∃ u, mg "LIMITS" = some u ∧ GloV K u (.tup [.int 8, .int 4, .int 3, .int 2])
  c_ROW_LIMIT : ∃ u, mg "ROW_LIMIT" = some u ∧ GloV K u (.int 400)
  c_WIDTH : ∃ u, mg "WIDTH" = some u ∧ GloV K u (.int 0)
  e_EndlessPair : ExcF K mg "EndlessPair"
  e_OutOfRange : ExcF K mg "OutOfRange"
  e_TooLong : ExcF K mg "TooLong"
  k_OutOfRange : mg "OutOfRange" = some (.ref (He.ga K "OutOfRange"))
  x_OutOfRange : Catch K (.ref (He.ga K "OutOfRange")) m_OutOfRange
  k_TooLong : mg "TooLong" = some (.ref (He.ga K "TooLong"))
  x_TooLong : Catch K (.ref (He.ga K "TooLong")) m_TooLong
  v_FontError : ∃ u, mg "FontError" = some u ∧ GloV K u (.glo "FontError")
  kt : KitE K kitm
  o_Font : Cls K (He.ga K "Font")
  k_Font : mg "Font" = some (.ref (He.ga K "Font"))
  o_Row : Cls K (He.ga K "Row")
  k_Row : mg "Row" = some (.ref (He.ga K "Row"))
  n_Font_characters : NoAttr K (He.ga K "Font") "characters"
  n_Font_labels : NoAttr K (He.ga K "Font") "labels"
  n_Font_steps : NoAttr K (He.ga K "Font") "steps"
  n_Row_codes : NoAttr K (He.ga K "Row") "codes"
  n_Row_gaps : NoAttr K (He.ga K "Row") "gaps"
  n_Row_place : NoAttr K (He.ga K "Row") "place"
  me_Font___contains__ : Meth K (He.ga K "Font") "__contains__" (He.ma K (He.ga K "Font") "__contains__")
  me_Font___iter__ : Meth K (He.ga K "Font") "__iter__" (He.ma K (He.ga K "Font") "__iter__")
  me_Font___len__ : Meth K (He.ga K "Font") "__len__" (He.ma K (He.ga K "Font") "__len__")
  me_Font_character : Meth K (He.ga K "Font") "character" (He.ma K (He.ga K "Font") "character")
  me_Font_glyph_width : Meth K (He.ga K "Font") "glyph_width" (He.ma K (He.ga K "Font") "glyph_width")
  me_Font_line : Meth K (He.ga K "Font") "line" (He.ma K (He.ga K "Font") "line")
  me_Font_metric_values : Meth K (He.ga K "Font") "metric_values" (He.ma K (He.ga K "Font") "metric_values")
  me_Font_pixel : Meth K (He.ga K "Font") "pixel" (He.ma K (He.ga K "Font") "pixel")
  me_Font_positions : Meth K (He.ga K "Font") "positions" (He.ma K (He.ga K "Font") "positions")
  me_Font_table : Meth K (He.ga K "Font") "table" (He.ma K (He.ga K "Font") "table")
  me_Font_table_value : Meth K (He.ga K "Font") "table_value" (He.ma K (He.ga K "Font") "table_value")
  me_Font_width : Meth K (He.ga K "Font") "width" (He.ma K (He.ga K "Font") "width")
  me_Row_glyphs_and_kerns : Meth K (He.ga K "Row") "glyphs_and_kerns" (He.ma K (He.ga K "Row") "glyphs_and_kerns")
  me_Row_is_done : Meth K (He.ga K "Row") "is_done" (He.ma K (He.ga K "Row") "is_done")
  me_Row_kern : Meth K (He.ga K "Row") "kern" (He.ma K (He.ga K "Row") "kern")
  me_Row_ligature : Meth K (He.ga K "Row") "ligature" (He.ma K (He.ga K "Row") "ligature")
  mk_Font : Mk K (He.ga K "Font") (He.ma K (He.ga K "Font") "__init__")
  mk_Row : Mk K (He.ga K "Row") (He.ma K (He.ga K "Row") "__init__")
  al_table_metrics : ∃ u, mg "table_metrics" = some u ∧ GloV K u (.glo "table")
  al_table_value_metrics : ∃ u, mg "table_value_metrics" = some u ∧ GloV K u (.glo "table_value")
  F_ascending : ∃ fd, FunD K "ascending" "ascending" (defArgs s_ascending) (defBody s_ascending) (defScope s_ascending) [] [] (He.ga K "ascending") fd
  g_ascending : mg "ascending" = some (.ref (He.ga K "ascending"))
  F_groups : ∃ fd, FunD K "groups" "groups" (defArgs s_groups) (defBody s_groups) (defScope s_groups) [] [] (He.ga K "groups") fd
  g_groups : mg "groups" = some (.ref (He.ga K "groups"))
  F_least_tolerance : ∃ fd, FunD K "least_tolerance" "least_tolerance" (defArgs s_least_tolerance) (defBody s_least_tolerance) (defScope s_least_tolerance) [] [] (He.ga K "least_tolerance") fd
  g_least_tolerance : mg "least_tolerance" = some (.ref (He.ga K "least_tolerance"))
  F_table : ∃ fd, FunD K "table" "table" (defArgs s_table) (defBody s_table) (defScope s_table) [] [] (He.ga K "table") fd
  g_table : mg "table" = some (.ref (He.ga K "table"))
  F_table_value : ∃ fd, FunD K "table_value" "table_value" (defArgs s_table_value) (defBody s_table_value) (defScope s_table_value) [] [] (He.ga K "table_value") fd
  g_table_value : mg "table_value" = some (.ref (He.ga K "table_value"))
  F_rule : ∃ fd, FunD K "rule" "rule" (defArgs s_rule) (defBody s_rule) (defScope s_rule) [] [] (He.ga K "rule") fd
  g_rule : mg "rule" = some (.ref (He.ga K "rule"))
  F_plain_end : ∃ fd, FunD K "plain_end" "plain_end" (defArgs s_plain_end) (defBody s_plain_end) (defScope s_plain_end) [] [] (He.ga K "plain_end") fd
  g_plain_end : mg "plain_end" = some (.ref (He.ga K "plain_end"))
  F_settle : ∃ fd, FunD K "settle" "settle" (defArgs s_settle) (defBody s_settle) (defScope s_settle) [] [] (He.ga K "settle") fd
  g_settle : mg "settle" = some (.ref (He.ga K "settle"))
  F_settled_ends : ∃ fd, FunD K "settled_ends" "settled_ends" (defArgs s_settled_ends) (defBody s_settled_ends) (defScope s_settled_ends) [] [] (He.ga K "settled_ends") fd
  g_settled_ends : mg "settled_ends" = some (.ref (He.ga K "settled_ends"))
  F_ruled_pairs : ∃ fd, FunD K "ruled_pairs" "ruled_pairs" (defArgs s_ruled_pairs) (defBody s_ruled_pairs) (defScope s_ruled_pairs) [] [] (He.ga K "ruled_pairs") fd
  g_ruled_pairs : mg "ruled_pairs" = some (.ref (He.ga K "ruled_pairs"))
  F_endless_pairs : ∃ fd, FunD K "endless_pairs" "endless_pairs" (defArgs s_endless_pairs) (defBody s_endless_pairs) (defScope s_endless_pairs) [] [] (He.ga K "endless_pairs") fd
  g_endless_pairs : mg "endless_pairs" = some (.ref (He.ga K "endless_pairs"))
  F_Row___init__ : ∃ fd, FunD K "__init__" "Row.__init__" (defArgs s_Row___init__) (defBody s_Row___init__) (defScope s_Row___init__) [] [] (He.ma K (He.ga K "Row") "__init__") fd
  F_Row_glyphs_and_kerns : ∃ fd, FunD K "glyphs_and_kerns" "Row.glyphs_and_kerns" (defArgs s_Row_glyphs_and_kerns) (defBody s_Row_glyphs_and_kerns) (defScope s_Row_glyphs_and_kerns) [] [] (He.ma K (He.ga K "Row") "glyphs_and_kerns") fd
  F_Row_is_done : ∃ fd, FunD K "is_done" "Row.is_done" (defArgs s_Row_is_done) (defBody s_Row_is_done) (defScope s_Row_is_done) [] [] (He.ma K (He.ga K "Row") "is_done") fd
  F_Row_kern : ∃ fd, FunD K "kern" "Row.kern" (defArgs s_Row_kern) (defBody s_Row_kern) (defScope s_Row_kern) [] [] (He.ma K (He.ga K "Row") "kern") fd
  F_Row_ligature : ∃ fd, FunD K "ligature" "Row.ligature" (defArgs s_Row_ligature) (defBody s_Row_ligature) (defScope s_Row_ligature) [] [] (He.ma K (He.ga K "Row") "ligature") fd
  F_set_line : ∃ fd, FunD K "set_line" "set_line" (defArgs s_set_line) (defBody s_set_line) (defScope s_set_line) [] [] (He.ga K "set_line") fd
  g_set_line : mg "set_line" = some (.ref (He.ga K "set_line"))
  F__law_cell : ∃ fd, FunD K "_law_cell" "_law_cell" (defArgs s__law_cell) (defBody s__law_cell) (defScope s__law_cell) [] [] (He.ga K "_law_cell") fd
  g__law_cell : mg "_law_cell" = some (.ref (He.ga K "_law_cell"))
  F__law_stream : ∃ fd, FunD K "_law_stream" "_law_stream" (defArgs s__law_stream) (defBody s__law_stream) (defScope s__law_stream) [] [] (He.ga K "_law_stream") fd
  g__law_stream : mg "_law_stream" = some (.ref (He.ga K "_law_stream"))
  F__law_next : ∃ fd, FunD K "_law_next" "_law_next" (defArgs s__law_next) (defBody s__law_next) (defScope s__law_next) [] [] (He.ga K "_law_next") fd
  g__law_next : mg "_law_next" = some (.ref (He.ga K "_law_next"))
  F__law_is_integer : ∃ fd, FunD K "_law_is_integer" "_law_is_integer" (defArgs s__law_is_integer) (defBody s__law_is_integer) (defScope s__law_is_integer) [] [] (He.ga K "_law_is_integer") fd
  g__law_is_integer : mg "_law_is_integer" = some (.ref (He.ga K "_law_is_integer"))
  F__law_ascending : ∃ fd, FunD K "_law_ascending" "_law_ascending" (defArgs s__law_ascending) (defBody s__law_ascending) (defScope s__law_ascending) [] [] (He.ga K "_law_ascending") fd
  g__law_ascending : mg "_law_ascending" = some (.ref (He.ga K "_law_ascending"))
  F__law_greedy : ∃ fd, FunD K "_law_greedy" "_law_greedy" (defArgs s__law_greedy) (defBody s__law_greedy) (defScope s__law_greedy) [] [] (He.ga K "_law_greedy") fd
  g__law_greedy : mg "_law_greedy" = some (.ref (He.ga K "_law_greedy"))
  F__law_table : ∃ fd, FunD K "_law_table" "_law_table" (defArgs s__law_table) (defBody s__law_table) (defScope s__law_table) [] [] (He.ga K "_law_table") fd
  g__law_table : mg "_law_table" = some (.ref (He.ga K "_law_table"))
  F__law_middle : ∃ fd, FunD K "_law_middle" "_law_middle" (defArgs s__law_middle) (defBody s__law_middle) (defScope s__law_middle) [] [] (He.ga K "_law_middle") fd
  g__law_middle : mg "_law_middle" = some (.ref (He.ga K "_law_middle"))
  F_Font_character : ∃ fd, FunD K "character" "Font.character" (defArgs s_Font_character) (defBody s_Font_character) (defScope s_Font_character) [] [] (He.ma K (He.ga K "Font") "character") fd
  F_Font_metric_values : ∃ fd, FunD K "metric_values" "Font.metric_values" (defArgs s_Font_metric_values) (defBody s_Font_metric_values) (defScope s_Font_metric_values) [] [] (He.ma K (He.ga K "Font") "metric_values") fd
  F_Font_table_value : ∃ fd, FunD K "table_value" "Font.table_value" (defArgs s_Font_table_value) (defBody s_Font_table_value) (defScope s_Font_table_value) [] [] (He.ma K (He.ga K "Font") "table_value") fd
  F_Font_pixel : ∃ fd, FunD K "pixel" "Font.pixel" (defArgs s_Font_pixel) (defBody s_Font_pixel) (defScope s_Font_pixel) [] [] (He.ma K (He.ga K "Font") "pixel") fd
  F__law_refuses : ∃ fd, FunD K "_law_refuses" "_law_refuses" (defArgs s__law_refuses) (defBody s__law_refuses) (defScope s__law_refuses) [] [] (He.ga K "_law_refuses") fd
  g__law_refuses : mg "_law_refuses" = some (.ref (He.ga K "_law_refuses"))
  F_Font_line : ∃ fd, FunD K "line" "Font.line" (defArgs s_Font_line) (defBody s_Font_line) (defScope s_Font_line) [] [] (He.ma K (He.ga K "Font") "line") fd
  F_Font___contains__ : ∃ fd, FunD K "__contains__" "Font.__contains__" (defArgs s_Font___contains__) (defBody s_Font___contains__) (defScope s_Font___contains__) [] [] (He.ma K (He.ga K "Font") "__contains__") fd
  F_Font_glyph_width : ∃ fd, FunD K "glyph_width" "Font.glyph_width" (defArgs s_Font_glyph_width) (defBody s_Font_glyph_width) (defScope s_Font_glyph_width) [] [] (He.ma K (He.ga K "Font") "glyph_width") fd
  F_Font_width : ∃ fd, FunD K "width" "Font.width" (defArgs s_Font_width) (defBody s_Font_width) (defScope s_Font_width) [] [] (He.ma K (He.ga K "Font") "width") fd
  F_Font_positions : ∃ fd, FunD K "positions" "Font.positions" (defArgs s_Font_positions) (defBody s_Font_positions) (defScope s_Font_positions) [] [] (He.ma K (He.ga K "Font") "positions") fd
  F__law_too_long : ∃ fd, FunD K "_law_too_long" "_law_too_long" (defArgs s__law_too_long) (defBody s__law_too_long) (defScope s__law_too_long) [] [] (He.ga K "_law_too_long") fd
  g__law_too_long : mg "_law_too_long" = some (.ref (He.ga K "_law_too_long"))
  F__law_kern : ∃ fd, FunD K "_law_kern" "_law_kern" (defArgs s__law_kern) (defBody s__law_kern) (defScope s__law_kern) [] [] (He.ga K "_law_kern") fd
  g__law_kern : mg "_law_kern" = some (.ref (He.ga K "_law_kern"))
  F_Font___init__ : ∃ fd, FunD K "__init__" "Font.__init__" (defArgs s_Font___init__) (defBody s_Font___init__) (defScope s_Font___init__) [] [] (He.ma K (He.ga K "Font") "__init__") fd
  F_Font___len__ : ∃ fd, FunD K "__len__" "Font.__len__" (defArgs s_Font___len__) (defBody s_Font___len__) (defScope s_Font___len__) [] [] (He.ma K (He.ga K "Font") "__len__") fd
  F_Font_table : ∃ fd, FunD K "table" "Font.table" (defArgs s_Font_table) (defBody s_Font_table) (defScope s_Font_table) [] [] (He.ma K (He.ga K "Font") "table") fd
  F_law : ∃ fd, FunD K "law" "law" (defArgs s_law) (defBody s_law) (defScope s_law) [] [] (He.ga K "law") fd
  g_law : mg "law" = some (.ref (He.ga K "law"))
  F_Font___iter__ : ∃ fd, FunD K "__iter__" "Font.__iter__" (defArgs s_Font___iter__) (defBody s_Font___iter__) (defScope s_Font___iter__) [] [] (He.ma K (He.ga K "Font") "__iter__") fd
theorem tx_of {K : PySem.W.Frag} {h : Heap} {mg : Str → Option Value} (X : K.In h) (G : h.Ns mainGlobals mg) (c : SaysM fas fns K) : Tx K mg where
  m_any := free_ok X G (c.fact 0 (f := .he (.free "any")) rfl)
  m_bool := free_ok X G (c.fact 1 (f := .he (.free "bool")) rfl)
  m_int := free_ok X G (c.fact 2 (f := .he (.free "int")) rfl)
  m_isinstance := free_ok X G (c.fact 3 (f := .he (.free "isinstance")) rfl)
  m_iter := free_ok X G (c.fact 4 (f := .he (.free "iter")) rfl)
  m_len := free_ok X G (c.fact 5 (f := .he (.free "len")) rfl)
  m_list := free_ok X G (c.fact 6 (f := .he (.free "list")) rfl)
  m_range := free_ok X G (c.fact 7 (f := .he (.free "range")) rfl)
  m_sorted := free_ok X G (c.fact 8 (f := .he (.free "sorted")) rfl)
  m_sum := free_ok X G (c.fact 9 (f := .he (.free "sum")) rfl)
  m_tuple := free_ok X G (c.fact 10 (f := .he (.free "tuple")) rfl)
  c_EDGE := con_ok X G (c.fact 11 (f := .con "EDGE" (.int 128)) rfl)
  c_LIMITS := con_ok X G (c.fact 12 (f := .con "LIMITS" (.tup [.int 8, .int 4, .int 3, .int 2])) rfl)
  c_ROW_LIMIT := con_ok X G (c.fact 13 (f := .con "ROW_LIMIT" (.int 400)) rfl)
  c_WIDTH := con_ok X G (c.fact 14 (f := .con "WIDTH" (.int 0)) rfl)
  e_EndlessPair := exc_ok X G (c.fact 15 (f := .he (.glo "EndlessPair")) rfl) (c.fact 16 (f := .he (.exc "EndlessPair")) rfl)
  e_OutOfRange := exc_ok X G (c.fact 17 (f := .he (.glo "OutOfRange")) rfl) (c.fact 18 (f := .he (.exc "OutOfRange")) rfl)
  e_TooLong := exc_ok X G (c.fact 19 (f := .he (.glo "TooLong")) rfl) (c.fact 20 (f := .he (.exc "TooLong")) rfl)
  k_OutOfRange := glo_ok X G (c.fact 21 (f := .he (.glo "OutOfRange")) rfl)
  x_OutOfRange := catch_of (c.fact 22 (f := .catch_ "OutOfRange" [("EndlessPair", false), ("OutOfRange", true), ("TooLong", false)]) rfl)
  k_TooLong := glo_ok X G (c.fact 23 (f := .he (.glo "TooLong")) rfl)
  x_TooLong := catch_of (c.fact 24 (f := .catch_ "TooLong" [("EndlessPair", false), ("OutOfRange", false), ("TooLong", true)]) rfl)
  v_FontError := con_ok X G (c.fact 25 (f := .con "FontError" (.glo "FontError")) rfl)
  kt := kits_of (c.fact 26 (f := .kits [(("EndlessPair", .inl "FontError"), true), (("OutOfRange", .inl "FontError"), true), (("TooLong", .inl "FontError"), true)]) rfl)
  o_Font := He.cls_ok (c.fact 27 (f := .he (.cls "Font")) rfl)
  k_Font := glo_ok X G (c.fact 28 (f := .he (.glo "Font")) rfl)
  o_Row := He.cls_ok (c.fact 29 (f := .he (.cls "Row")) rfl)
  k_Row := glo_ok X G (c.fact 30 (f := .he (.glo "Row")) rfl)
  n_Font_characters := He.noat_ok (c.fact 31 (f := .he (.noat "Font" "characters")) rfl)
  n_Font_labels := He.noat_ok (c.fact 32 (f := .he (.noat "Font" "labels")) rfl)
  n_Font_steps := He.noat_ok (c.fact 33 (f := .he (.noat "Font" "steps")) rfl)
  n_Row_codes := He.noat_ok (c.fact 34 (f := .he (.noat "Row" "codes")) rfl)
  n_Row_gaps := He.noat_ok (c.fact 35 (f := .he (.noat "Row" "gaps")) rfl)
  n_Row_place := He.noat_ok (c.fact 36 (f := .he (.noat "Row" "place")) rfl)
  me_Font___contains__ := He.meth_ok (c.fact 37 (f := .he (.meth "Font" "__contains__")) rfl)
  me_Font___iter__ := He.meth_ok (c.fact 38 (f := .he (.meth "Font" "__iter__")) rfl)
  me_Font___len__ := He.meth_ok (c.fact 39 (f := .he (.meth "Font" "__len__")) rfl)
  me_Font_character := He.meth_ok (c.fact 40 (f := .he (.meth "Font" "character")) rfl)
  me_Font_glyph_width := He.meth_ok (c.fact 41 (f := .he (.meth "Font" "glyph_width")) rfl)
  me_Font_line := He.meth_ok (c.fact 42 (f := .he (.meth "Font" "line")) rfl)
  me_Font_metric_values := He.meth_ok (c.fact 43 (f := .he (.meth "Font" "metric_values")) rfl)
  me_Font_pixel := He.meth_ok (c.fact 44 (f := .he (.meth "Font" "pixel")) rfl)
  me_Font_positions := He.meth_ok (c.fact 45 (f := .he (.meth "Font" "positions")) rfl)
  me_Font_table := He.meth_ok (c.fact 46 (f := .he (.meth "Font" "table")) rfl)
  me_Font_table_value := He.meth_ok (c.fact 47 (f := .he (.meth "Font" "table_value")) rfl)
  me_Font_width := He.meth_ok (c.fact 48 (f := .he (.meth "Font" "width")) rfl)
  me_Row_glyphs_and_kerns := He.meth_ok (c.fact 49 (f := .he (.meth "Row" "glyphs_and_kerns")) rfl)
  me_Row_is_done := He.meth_ok (c.fact 50 (f := .he (.meth "Row" "is_done")) rfl)
  me_Row_kern := He.meth_ok (c.fact 51 (f := .he (.meth "Row" "kern")) rfl)
  me_Row_ligature := He.meth_ok (c.fact 52 (f := .he (.meth "Row" "ligature")) rfl)
  mk_Font := He.mkr_ok (c.fact 53 (f := .he (.mkr "Font")) rfl)
  mk_Row := He.mkr_ok (c.fact 54 (f := .he (.mkr "Row")) rfl)
  al_table_metrics := con_ok X G (c.fact 55 (f := .con "table_metrics" (.glo "table")) rfl)
  al_table_value_metrics := con_ok X G (c.fact 56 (f := .con "table_value_metrics" (.glo "table_value")) rfl)
  F_ascending := c.def_ 0 (d := ⟨("ascending", none), "ascending", "ascending", defArgs s_ascending, defBody s_ascending, defScope s_ascending, [], []⟩) rfl
  g_ascending := glo_ok X G (c.fact 57 (f := .he (.glo "ascending")) rfl)
  F_groups := c.def_ 1 (d := ⟨("groups", none), "groups", "groups", defArgs s_groups, defBody s_groups, defScope s_groups, [], []⟩) rfl
  g_groups := glo_ok X G (c.fact 58 (f := .he (.glo "groups")) rfl)
  F_least_tolerance := c.def_ 2 (d := ⟨("least_tolerance", none), "least_tolerance", "least_tolerance", defArgs s_least_tolerance, defBody s_least_tolerance, defScope s_least_tolerance, [], []⟩) rfl
  g_least_tolerance := glo_ok X G (c.fact 59 (f := .he (.glo "least_tolerance")) rfl)
  F_table := c.def_ 3 (d := ⟨("table", none), "table", "table", defArgs s_table, defBody s_table, defScope s_table, [], []⟩) rfl
  g_table := glo_ok X G (c.fact 60 (f := .he (.glo "table")) rfl)
  F_table_value := c.def_ 4 (d := ⟨("table_value", none), "table_value", "table_value", defArgs s_table_value, defBody s_table_value, defScope s_table_value, [], []⟩) rfl
  g_table_value := glo_ok X G (c.fact 61 (f := .he (.glo "table_value")) rfl)
  F_rule := c.def_ 5 (d := ⟨("rule", none), "rule", "rule", defArgs s_rule, defBody s_rule, defScope s_rule, [], []⟩) rfl
  g_rule := glo_ok X G (c.fact 62 (f := .he (.glo "rule")) rfl)
  F_plain_end := c.def_ 6 (d := ⟨("plain_end", none), "plain_end", "plain_end", defArgs s_plain_end, defBody s_plain_end, defScope s_plain_end, [], []⟩) rfl
  g_plain_end := glo_ok X G (c.fact 63 (f := .he (.glo "plain_end")) rfl)
  F_settle := c.def_ 7 (d := ⟨("settle", none), "settle", "settle", defArgs s_settle, defBody s_settle, defScope s_settle, [], []⟩) rfl
  g_settle := glo_ok X G (c.fact 64 (f := .he (.glo "settle")) rfl)
  F_settled_ends := c.def_ 8 (d := ⟨("settled_ends", none), "settled_ends", "settled_ends", defArgs s_settled_ends, defBody s_settled_ends, defScope s_settled_ends, [], []⟩) rfl
  g_settled_ends := glo_ok X G (c.fact 65 (f := .he (.glo "settled_ends")) rfl)
  F_ruled_pairs := c.def_ 9 (d := ⟨("ruled_pairs", none), "ruled_pairs", "ruled_pairs", defArgs s_ruled_pairs, defBody s_ruled_pairs, defScope s_ruled_pairs, [], []⟩) rfl
  g_ruled_pairs := glo_ok X G (c.fact 66 (f := .he (.glo "ruled_pairs")) rfl)
  F_endless_pairs := c.def_ 10 (d := ⟨("endless_pairs", none), "endless_pairs", "endless_pairs", defArgs s_endless_pairs, defBody s_endless_pairs, defScope s_endless_pairs, [], []⟩) rfl
  g_endless_pairs := glo_ok X G (c.fact 67 (f := .he (.glo "endless_pairs")) rfl)
  F_Row___init__ := c.def_ 11 (d := ⟨("Row", some "__init__"), "__init__", "Row.__init__", defArgs s_Row___init__, defBody s_Row___init__, defScope s_Row___init__, [], []⟩) rfl
  F_Row_glyphs_and_kerns := c.def_ 12 (d := ⟨("Row", some "glyphs_and_kerns"), "glyphs_and_kerns", "Row.glyphs_and_kerns", defArgs s_Row_glyphs_and_kerns, defBody s_Row_glyphs_and_kerns, defScope s_Row_glyphs_and_kerns, [], []⟩) rfl
  F_Row_is_done := c.def_ 13 (d := ⟨("Row", some "is_done"), "is_done", "Row.is_done", defArgs s_Row_is_done, defBody s_Row_is_done, defScope s_Row_is_done, [], []⟩) rfl
  F_Row_kern := c.def_ 14 (d := ⟨("Row", some "kern"), "kern", "Row.kern", defArgs s_Row_kern, defBody s_Row_kern, defScope s_Row_kern, [], []⟩) rfl
  F_Row_ligature := c.def_ 15 (d := ⟨("Row", some "ligature"), "ligature", "Row.ligature", defArgs s_Row_ligature, defBody s_Row_ligature, defScope s_Row_ligature, [], []⟩) rfl
  F_set_line := c.def_ 16 (d := ⟨("set_line", none), "set_line", "set_line", defArgs s_set_line, defBody s_set_line, defScope s_set_line, [], []⟩) rfl
  g_set_line := glo_ok X G (c.fact 68 (f := .he (.glo "set_line")) rfl)
  F__law_cell := c.def_ 17 (d := ⟨("_law_cell", none), "_law_cell", "_law_cell", defArgs s__law_cell, defBody s__law_cell, defScope s__law_cell, [], []⟩) rfl
  g__law_cell := glo_ok X G (c.fact 69 (f := .he (.glo "_law_cell")) rfl)
  F__law_stream := c.def_ 18 (d := ⟨("_law_stream", none), "_law_stream", "_law_stream", defArgs s__law_stream, defBody s__law_stream, defScope s__law_stream, [], []⟩) rfl
  g__law_stream := glo_ok X G (c.fact 70 (f := .he (.glo "_law_stream")) rfl)
  F__law_next := c.def_ 19 (d := ⟨("_law_next", none), "_law_next", "_law_next", defArgs s__law_next, defBody s__law_next, defScope s__law_next, [], []⟩) rfl
  g__law_next := glo_ok X G (c.fact 71 (f := .he (.glo "_law_next")) rfl)
  F__law_is_integer := c.def_ 20 (d := ⟨("_law_is_integer", none), "_law_is_integer", "_law_is_integer", defArgs s__law_is_integer, defBody s__law_is_integer, defScope s__law_is_integer, [], []⟩) rfl
  g__law_is_integer := glo_ok X G (c.fact 72 (f := .he (.glo "_law_is_integer")) rfl)
  F__law_ascending := c.def_ 21 (d := ⟨("_law_ascending", none), "_law_ascending", "_law_ascending", defArgs s__law_ascending, defBody s__law_ascending, defScope s__law_ascending, [], []⟩) rfl
  g__law_ascending := glo_ok X G (c.fact 73 (f := .he (.glo "_law_ascending")) rfl)
  F__law_greedy := c.def_ 22 (d := ⟨("_law_greedy", none), "_law_greedy", "_law_greedy", defArgs s__law_greedy, defBody s__law_greedy, defScope s__law_greedy, [], []⟩) rfl
  g__law_greedy := glo_ok X G (c.fact 74 (f := .he (.glo "_law_greedy")) rfl)
  F__law_table := c.def_ 23 (d := ⟨("_law_table", none), "_law_table", "_law_table", defArgs s__law_table, defBody s__law_table, defScope s__law_table, [], []⟩) rfl
  g__law_table := glo_ok X G (c.fact 75 (f := .he (.glo "_law_table")) rfl)
  F__law_middle := c.def_ 24 (d := ⟨("_law_middle", none), "_law_middle", "_law_middle", defArgs s__law_middle, defBody s__law_middle, defScope s__law_middle, [], []⟩) rfl
  g__law_middle := glo_ok X G (c.fact 76 (f := .he (.glo "_law_middle")) rfl)
  F_Font_character := c.def_ 25 (d := ⟨("Font", some "character"), "character", "Font.character", defArgs s_Font_character, defBody s_Font_character, defScope s_Font_character, [], []⟩) rfl
  F_Font_metric_values := c.def_ 26 (d := ⟨("Font", some "metric_values"), "metric_values", "Font.metric_values", defArgs s_Font_metric_values, defBody s_Font_metric_values, defScope s_Font_metric_values, [], []⟩) rfl
  F_Font_table_value := c.def_ 27 (d := ⟨("Font", some "table_value"), "table_value", "Font.table_value", defArgs s_Font_table_value, defBody s_Font_table_value, defScope s_Font_table_value, [], []⟩) rfl
  F_Font_pixel := c.def_ 28 (d := ⟨("Font", some "pixel"), "pixel", "Font.pixel", defArgs s_Font_pixel, defBody s_Font_pixel, defScope s_Font_pixel, [], []⟩) rfl
  F__law_refuses := c.def_ 29 (d := ⟨("_law_refuses", none), "_law_refuses", "_law_refuses", defArgs s__law_refuses, defBody s__law_refuses, defScope s__law_refuses, [], []⟩) rfl
  g__law_refuses := glo_ok X G (c.fact 77 (f := .he (.glo "_law_refuses")) rfl)
  F_Font_line := c.def_ 30 (d := ⟨("Font", some "line"), "line", "Font.line", defArgs s_Font_line, defBody s_Font_line, defScope s_Font_line, [], []⟩) rfl
  F_Font___contains__ := c.def_ 31 (d := ⟨("Font", some "__contains__"), "__contains__", "Font.__contains__", defArgs s_Font___contains__, defBody s_Font___contains__, defScope s_Font___contains__, [], []⟩) rfl
  F_Font_glyph_width := c.def_ 32 (d := ⟨("Font", some "glyph_width"), "glyph_width", "Font.glyph_width", defArgs s_Font_glyph_width, defBody s_Font_glyph_width, defScope s_Font_glyph_width, [], []⟩) rfl
  F_Font_width := c.def_ 33 (d := ⟨("Font", some "width"), "width", "Font.width", defArgs s_Font_width, defBody s_Font_width, defScope s_Font_width, [], []⟩) rfl
  F_Font_positions := c.def_ 34 (d := ⟨("Font", some "positions"), "positions", "Font.positions", defArgs s_Font_positions, defBody s_Font_positions, defScope s_Font_positions, [], []⟩) rfl
  F__law_too_long := c.def_ 35 (d := ⟨("_law_too_long", none), "_law_too_long", "_law_too_long", defArgs s__law_too_long, defBody s__law_too_long, defScope s__law_too_long, [], []⟩) rfl
  g__law_too_long := glo_ok X G (c.fact 78 (f := .he (.glo "_law_too_long")) rfl)
  F__law_kern := c.def_ 36 (d := ⟨("_law_kern", none), "_law_kern", "_law_kern", defArgs s__law_kern, defBody s__law_kern, defScope s__law_kern, [], []⟩) rfl
  g__law_kern := glo_ok X G (c.fact 79 (f := .he (.glo "_law_kern")) rfl)
  F_Font___init__ := c.def_ 37 (d := ⟨("Font", some "__init__"), "__init__", "Font.__init__", defArgs s_Font___init__, defBody s_Font___init__, defScope s_Font___init__, [], []⟩) rfl
  F_Font___len__ := c.def_ 38 (d := ⟨("Font", some "__len__"), "__len__", "Font.__len__", defArgs s_Font___len__, defBody s_Font___len__, defScope s_Font___len__, [], []⟩) rfl
  F_Font_table := c.def_ 39 (d := ⟨("Font", some "table"), "table", "Font.table", defArgs s_Font_table, defBody s_Font_table, defScope s_Font_table, [], []⟩) rfl
  F_law := c.def_ 40 (d := ⟨("law", none), "law", "law", defArgs s_law, defBody s_law, defScope s_law, [], []⟩) rfl
  g_law := glo_ok X G (c.fact 80 (f := .he (.glo "law")) rfl)
  F_Font___iter__ := c.def_ 41 (d := ⟨("Font", some "__iter__"), "__iter__", "Font.__iter__", defArgs s_Font___iter__, defBody s_Font___iter__, defScope s_Font___iter__, [], []⟩) rfl
theorem it_Font {P : Program} {w : World} {K : PySem.W.Frag} {mg : Str → Option Value} {base : Heap} (T : Tx K mg) : CalleeIt P w K mg base "Font" "characters" 2 := by
  obtain ⟨fd, F⟩ := T.F_Font___iter__
  refine ⟨⟨fd, ["self"], fnN_of (k := 1) F sc_Font___iter__ (fun n vs H Q E h => ?_) (fun cdv A outer s H vs Q E hr h => ⟨_, ds_iter (f := "characters") T.o_Font T.n_Font_characters T.m_iter rfl (.inl rfl) rfl, it_run (D := { nx := fun _ H' => Q .non H', rt := Q }) T.o_Font T.n_Font_characters h rfl⟩), bindsD F fun _ _ _ _ _ _ us hl => match us, hl with | [_], _ => rfl, rfl⟩, T.o_Font, T.me_Font___iter__⟩
  obtain ⟨_, _, _, _, _, rfl, _⟩ := h
  rfl
set_option maxHeartbeats 40000000
theorem ok_ascending {P : Program} {w : World} {K : PySem.W.Frag} {mg : Str → Option Value} {base : Heap} (T : Tx K mg) :
    Callee P w K mg base "ascending" 1 ["values"] sp_ascending := by
  obtain ⟨fd, F⟩ := T.F_ascending
  refine ⟨⟨fd, fn_ok F sc_ascending (d := r_ascending) (fun cdv A outer s H E hr tk po => ?_) p_ascending, bindsD F fun _ _ _ _ _ _ us hl => match us, hl with | [_], _ => rfl⟩, T.g_ascending, F.kp⟩
  delta r_ascending
  exact dss_one (ds_ret (de_sortScI (own := [("value", 1)]) rfl hr.units sc_ascending.nd T.m_sorted (di_seq (dv 0)) (L2.blkOk_by (N := N_ascending) (sc := defScope s_ascending) (by decide +kernel)) (fun _ _ _ _ _ => dgv_name 1 sc_ascending.nd) (fun _ _ _ _ _ => dts_one (dt_cmp (do_ne hr.units) (dv 1) (de_int))) (fun _ _ _ _ _ => dv 1)))
theorem ok_groups {P : Program} {w : World} {K : PySem.W.Frag} {mg : Str → Option Value} {base : Heap} (T : Tx K mg) (c_ascending : Callee P w K mg base "ascending" 1 ["values"] sp_ascending) :
    Callee P w K mg base "groups" 2 ["values", "tolerance"] sp_groups := by
  obtain ⟨fd, F⟩ := T.F_groups
  refine ⟨⟨fd, fn_ok F sc_groups (d := r_groups) (fun cdv A outer s H E hr tk po => ?_) p_groups, bindsD F fun _ _ _ _ _ _ us hl => match us, hl with | [_, _], _ => rfl⟩, T.g_groups, F.kp⟩
  have hrc_ascending := hr.mono (j := 1) (by decide)
  delta r_groups r_groups_1 r_groups_2 r_groups_1b r_groups_1b_0e r_groups_1b_0t
  exact dss_cons (ds_set 2 sc_groups.nd (de_lstM (da_nil))) (dss_cons (ds_for po (di_seq (de_call c_ascending hrc_ascending tk (da_cons (dv 0) (da_nil)))) (dg_name 3 sc_groups.nd) (dss_one (ds_if (DW.dt (dw_and (dt_cmp do_gt (de_callB dc_len T.m_len boot_len (da_cons (dv 2) (da_nil))) (de_int)) (dw_and1 (dt_cmp do_le (dv 3) (de_op do_add (de_ix (de_ix (dv 2) (de_neg (de_int))) (de_int)) (dv 1)))))) (dss_one (ds_asg (de_tup (da_cons (de_ix (de_ix (dv 2) (de_neg (de_int))) (de_int)) (da_cons (dv 3) (da_nil)))) (dg_sub (dv 2) (de_neg (de_int))))) (dss_one (ds_expr (de_bm PySem.F.plainAttrs_list PySem.F.slot_list_append PySem.F.type_list_append dm_append (dv 2) (da_cons (de_tup (da_cons (dv 3) (da_cons (dv 3) (da_nil)))) (da_nil)))))))) (dss_one (ds_ret (de_frz (dv 2)))))
theorem ok_least_tolerance {P : Program} {w : World} {K : PySem.W.Frag} {mg : Str → Option Value} {base : Heap} (T : Tx K mg) (c_ascending : Callee P w K mg base "ascending" 1 ["values"] sp_ascending) (c_groups : Callee P w K mg base "groups" 2 ["values", "tolerance"] sp_groups) :
    Callee P w K mg base "least_tolerance" 3 ["values", "limit"] sp_least_tolerance := by
  obtain ⟨fd, F⟩ := T.F_least_tolerance
  refine ⟨⟨fd, fn_ok F sc_least_tolerance (d := r_least_tolerance) (fun cdv A outer s H E hr tk po => ?_) p_least_tolerance, bindsD F fun _ _ _ _ _ _ us hl => match us, hl with | [_, _], _ => rfl⟩, T.g_least_tolerance, F.kp⟩
  have hrc_ascending := hr.mono (j := 1) (by decide)
  have hrc_groups := hr.mono (j := 2) (by decide)
  delta r_least_tolerance r_least_tolerance_1 r_least_tolerance_2 r_least_tolerance_3 r_least_tolerance_4 r_least_tolerance_5 r_least_tolerance_4b r_least_tolerance_4b_1 r_least_tolerance_4b_1e r_least_tolerance_4b_1t r_least_tolerance_1t
  exact dss_cons (ds_set 2 sc_least_tolerance.nd (de_call c_ascending hrc_ascending tk (da_cons (dv 0) (da_nil)))) (dss_cons (ds_if (dt_cmp (do_eq hr.units) (de_callB dc_len T.m_len boot_len (da_cons (dv 2) (da_nil))) (de_int)) (dss_one (ds_ret (de_int))) (dss_nil)) (dss_cons (ds_set 3 sc_least_tolerance.nd (de_int)) (dss_cons (ds_set 4 sc_least_tolerance.nd (de_op do_sub (de_ix (dv 2) (de_neg (de_int))) (de_ix (dv 2) (de_int)))) (dss_cons (ds_while po (dt_cmp do_lt (dv 3) (dv 4)) (dss_cons (ds_set 5 sc_least_tolerance.nd (de_op do_div (de_op do_add (dv 3) (dv 4)) (de_int))) (dss_one (ds_if (dt_cmp do_le (de_callB dc_len T.m_len boot_len (da_cons (de_call c_groups hrc_groups tk (da_cons (dv 2) (da_cons (dv 5) (da_nil)))) (da_nil))) (dv 1)) (dss_one (ds_set 4 sc_least_tolerance.nd (dv 5))) (dss_one (ds_set 3 sc_least_tolerance.nd (de_op do_add (dv 5) (de_int)))))))) (dss_one (ds_ret (dv 3)))))))
theorem ok_table {P : Program} {w : World} {K : PySem.W.Frag} {mg : Str → Option Value} {base : Heap} (T : Tx K mg) (c_least_tolerance : Callee P w K mg base "least_tolerance" 3 ["values", "limit"] sp_least_tolerance) (c_groups : Callee P w K mg base "groups" 2 ["values", "tolerance"] sp_groups) :
    Callee P w K mg base "table" 4 ["values", "limit"] sp_table := by
  obtain ⟨fd, F⟩ := T.F_table
  refine ⟨⟨fd, fn_ok F sc_table (d := r_table) (fun cdv A outer s H E hr tk po => ?_) p_table, bindsD F fun _ _ _ _ _ _ us hl => match us, hl with | [_, _], _ => rfl⟩, T.g_table, F.kp⟩
  have hrc_least_tolerance := hr.mono (j := 3) (by decide)
  have hrc_groups := hr.mono (j := 2) (by decide)
  delta r_table r_table_1
  exact dss_cons (ds_set 2 sc_table.nd (de_call c_least_tolerance hrc_least_tolerance tk (da_cons (dv 0) (da_cons (dv 1) (da_nil))))) (dss_one (ds_ret (de_op do_add (de_lst (da_cons (de_int) (da_nil))) (de_lc (own := [("least", 3), ("greatest", 4)]) rfl sc_table.nd (di_seq (de_call c_groups hrc_groups tk (da_cons (dv 0) (da_cons (dv 2) (da_nil))))) (L2.blkOk_by (N := N_table) (sc := defScope s_table) (by decide +kernel)) (fun _ _ _ _ _ => dgv_tup rfl (dgvs_cons (dgv_name 3 sc_table.nd) (dgvs_cons (dgv_name 4 sc_table.nd) (dgvs_nil)))) (fun _ _ _ _ _ => dts_nil) (fun _ _ _ _ _ => de_op do_div (de_op do_add (dv 3) (dv 4)) (de_int))))))
theorem ok_table_value {P : Program} {w : World} {K : PySem.W.Frag} {mg : Str → Option Value} {base : Heap} (T : Tx K mg) (c_least_tolerance : Callee P w K mg base "least_tolerance" 3 ["values", "limit"] sp_least_tolerance) (c_groups : Callee P w K mg base "groups" 2 ["values", "tolerance"] sp_groups) :
    Callee P w K mg base "table_value" 4 ["values", "limit", "value"] sp_table_value := by
  obtain ⟨fd, F⟩ := T.F_table_value
  refine ⟨⟨fd, fn_ok F sc_table_value (d := r_table_value) (fun cdv A outer s H E hr tk po => ?_) p_table_value, bindsD F fun _ _ _ _ _ _ us hl => match us, hl with | [_, _, _], _ => rfl⟩, T.g_table_value, F.kp⟩
  have hrc_least_tolerance := hr.mono (j := 3) (by decide)
  have hrc_groups := hr.mono (j := 2) (by decide)
  delta r_table_value r_table_value_1 r_table_value_2 r_table_value_1b r_table_value_1b_0t
  exact dss_cons (ds_set 3 sc_table_value.nd (de_call c_least_tolerance hrc_least_tolerance tk (da_cons (dv 0) (da_cons (dv 1) (da_nil))))) (dss_cons (ds_for po (di_seq (de_call c_groups hrc_groups tk (da_cons (dv 0) (da_cons (dv 3) (da_nil))))) (dg_tup rfl (dgs_cons (dg_name 4 sc_table_value.nd) (dgs_cons (dg_name 5 sc_table_value.nd) (dgs_nil)))) (dss_one (ds_if (dt_chain do_le do_le (dv 4) (dv 2) (dv 5)) (dss_one (ds_ret (de_op do_div (de_op do_add (dv 4) (dv 5)) (de_int)))) (dss_nil)))) (dss_one (ds_ret (de_int))))
theorem ok_rule {P : Program} {w : World} {K : PySem.W.Frag} {mg : Str → Option Value} {base : Heap} (T : Tx K mg) :
    Callee P w K mg base "rule" 1 ["steps", "labels", "left", "right"] sp_rule := by
  obtain ⟨fd, F⟩ := T.F_rule
  refine ⟨⟨fd, fn_ok F sc_rule (d := r_rule) (fun cdv A outer s H E hr tk po => ?_) p_rule, bindsD F fun _ _ _ _ _ _ us hl => match us, hl with | [_, _, _, _], _ => rfl⟩, T.g_rule, F.kp⟩
  delta r_rule r_rule_1 r_rule_0b r_rule_0b_0t r_rule_0b_0t_0b r_rule_0b_0t_0b_1 r_rule_0b_0t_0b_1t r_rule_0b_0t_0b_0t
  exact dss_cons (ds_for po (di_seq (dv 1)) (dg_tup rfl (dgs_cons (dg_name 4 sc_rule.nd) (dgs_cons (dg_name 5 sc_rule.nd) (dgs_nil)))) (dss_one (ds_if (dt_cmp (do_eq hr.units) (dv 4) (dv 2)) (dss_one (ds_for po (di_seq (de_slice (dv 0) (do_some (dv 5)) (do_none))) (dg_name 6 sc_rule.nd) (dss_cons (ds_if (dt_cmp (do_eq hr.units) (de_ix (dv 6) (de_int)) (dv 3)) (dss_one (ds_ret (de_ix (dv 6) (de_int)))) (dss_nil)) (dss_one (ds_if (dt_tru (de_ix (dv 6) (de_int))) (dss_one (ds_ret (de_non))) (dss_nil)))))) (dss_nil)))) (dss_one (ds_ret (de_non)))
theorem ok_plain_end {P : Program} {w : World} {K : PySem.W.Frag} {mg : Str → Option Value} {base : Heap} (T : Tx K mg) :
    Callee P w K mg base "plain_end" 1 ["action", "right"] sp_plain_end := by
  obtain ⟨fd, F⟩ := T.F_plain_end
  refine ⟨⟨fd, fn_ok F sc_plain_end (d := r_plain_end) (fun cdv A outer s H E hr tk po => ?_) p_plain_end, bindsD F fun _ _ _ _ _ _ us hl => match us, hl with | [_, _], _ => rfl⟩, T.g_plain_end, F.kp⟩
  delta r_plain_end r_plain_end_1 r_plain_end_2 r_plain_end_3 r_plain_end_4 r_plain_end_3t r_plain_end_2t r_plain_end_0t
  exact dss_cons (ds_if (DW.dt (dw_or (dt_isN (dv 0)) (dw_or1 (dt_cmp (do_eq hr.units) (de_ix (dv 0) (de_int)) (de_str))))) (dss_one (ds_ret (dv 1))) (dss_nil)) (dss_cons (ds_asg (dv 0) (dg_tup rfl (dgs_cons (dg_name 2 sc_plain_end.nd) (dgs_cons (dg_name 3 sc_plain_end.nd) (dgs_cons (dg_name 4 sc_plain_end.nd) (dgs_cons (dg_name 5 sc_plain_end.nd) (dgs_cons (dg_name 6 sc_plain_end.nd) (dgs_nil)))))))) (dss_cons (ds_if (DW.dt (dw_and (dt_not (dt_tru (dv 5))) (dw_and1 (DW.dt (dw_or (dt_not (dt_tru (dv 4))) (dw_or1 (dt_cmp (do_eq hr.units) (dv 6) (de_int)))))))) (dss_one (ds_ret (dv 3))) (dss_nil)) (dss_cons (ds_if (DW.dt (dw_or (dt_cmp (do_eq hr.units) (dv 6) (de_int)) (dw_or1 (DW.dt (dw_and (dt_tru (dv 5)) (dw_and (dt_not (dt_tru (dv 4))) (dw_and1 (dt_cmp (do_eq hr.units) (dv 6) (de_int))))))))) (dss_one (ds_ret (dv 1))) (dss_nil)) (dss_one (ds_ret (de_non))))))
theorem ok_settle {P : Program} {w : World} {K : PySem.W.Frag} {mg : Str → Option Value} {base : Heap} (T : Tx K mg) (c_plain_end : Callee P w K mg base "plain_end" 1 ["action", "right"] sp_plain_end) :
    Callee P w K mg base "settle" 2 ["action", "ends", "left", "right"] sp_settle := by
  obtain ⟨fd, F⟩ := T.F_settle
  refine ⟨⟨fd, fn_ok F sc_settle (d := r_settle) (fun cdv A outer s H E hr tk po => ?_) p_settle, bindsD F fun _ _ _ _ _ _ us hl => match us, hl with | [_, _, _, _], _ => rfl⟩, T.g_settle, F.kp⟩
  have hrc_plain_end := hr.mono (j := 1) (by decide)
  delta r_settle r_settle_1 r_settle_2 r_settle_3 r_settle_4 r_settle_5 r_settle_4t r_settle_3e r_settle_3e_0e r_settle_3e_0e_1 r_settle_3e_0e_0t r_settle_3e_0t r_settle_3t r_settle_1t
  exact dss_cons (ds_set 4 sc_settle.nd (de_call c_plain_end hrc_plain_end tk (da_cons (dv 0) (da_cons (dv 3) (da_nil))))) (dss_cons (ds_if (dt_notN (dv 4)) (dss_one (ds_ret (de_tup (da_cons (dv 4) (da_cons (de_non) (da_nil)))))) (dss_nil)) (dss_cons (ds_asg (dv 0) (dg_tup rfl (dgs_cons (dg_name 5 sc_settle.nd) (dgs_cons (dg_name 6 sc_settle.nd) (dgs_cons (dg_name 7 sc_settle.nd) (dgs_cons (dg_name 8 sc_settle.nd) (dgs_cons (dg_name 9 sc_settle.nd) (dgs_nil)))))))) (dss_cons (ds_if (dt_not (dt_tru (dv 8))) (dss_one (ds_set 10 sc_settle.nd (de_tup (da_cons (dv 2) (da_cons (dv 6) (da_nil)))))) (dss_one (ds_if (DW.dt (dw_or (dt_not (dt_tru (dv 7))) (dw_or1 (dt_cmp (do_eq hr.units) (dv 9) (de_int))))) (dss_one (ds_set 10 sc_settle.nd (de_tup (da_cons (dv 6) (da_cons (dv 3) (da_nil)))))) (dss_cons (ds_if (dt_cmp (do_notInD (room1 hr)) (de_tup (da_cons (dv 2) (da_cons (dv 6) (da_nil)))) (dv 1)) (dss_one (ds_ret (de_tup (da_cons (de_non) (da_cons (de_tup (da_cons (dv 2) (da_cons (dv 6) (da_nil)))) (da_nil)))))) (dss_nil)) (dss_one (ds_set 10 sc_settle.nd (de_tup (da_cons (de_dix (room1 hr) (dv 1) (de_tup (da_cons (dv 2) (da_cons (dv 6) (da_nil))))) (da_cons (dv 3) (da_nil)))))))))) (dss_cons (ds_if (dt_cmp (do_inD (room1 hr)) (dv 10) (dv 1)) (dss_one (ds_ret (de_tup (da_cons (de_dix (room1 hr) (dv 1) (dv 10)) (da_cons (de_non) (da_nil)))))) (dss_nil)) (dss_one (ds_ret (de_tup (da_cons (de_non) (da_cons (dv 10) (da_nil))))))))))
theorem ok_settled_ends {P : Program} {w : World} {K : PySem.W.Frag} {mg : Str → Option Value} {base : Heap} (T : Tx K mg) (c_settle : Callee P w K mg base "settle" 2 ["action", "ends", "left", "right"] sp_settle) (c_rule : Callee P w K mg base "rule" 1 ["steps", "labels", "left", "right"] sp_rule) :
    Callee P w K mg base "settled_ends" 3 ["steps", "labels", "pairs"] sp_settled_ends := by
  obtain ⟨fd, F⟩ := T.F_settled_ends
  refine ⟨⟨fd, fn_ok F sc_settled_ends (d := r_settled_ends) (fun cdv A outer s H E hr tk po => ?_) p_settled_ends, bindsD F fun _ _ _ _ _ _ us hl => match us, hl with | [_, _, _], _ => rfl⟩, T.g_settled_ends, F.kp⟩
  have hrc_settle := hr.mono (j := 2) (by decide)
  have hrc_rule := hr.mono (j := 1) (by decide)
  delta r_settled_ends r_settled_ends_1 r_settled_ends_2 r_settled_ends_3 r_settled_ends_4 r_settled_ends_5 r_settled_ends_4b r_settled_ends_4b_1 r_settled_ends_4b_2 r_settled_ends_4b_3 r_settled_ends_4b_2b r_settled_ends_4b_2b_1 r_settled_ends_4b_2b_1e r_settled_ends_4b_2b_1e_1 r_settled_ends_4b_2b_1e_1t r_settled_ends_4b_2b_1e_1t_1 r_settled_ends_4b_2b_1e_1t_2 r_settled_ends_4b_2b_1t r_settled_ends_4b_2b_1t_1
  exact dss_cons (ds_set 3 sc_settled_ends.nd (de_newT)) (dss_cons (ds_set 4 sc_settled_ends.nd (de_callTy dc_list T.m_list (by decide +kernel) (da_cons (dv 2) (da_nil)))) (dss_cons (ds_setTab (i := 5) (own := [("pair", 6)]) rfl hr.units0 sc_settled_ends.nd rfl rfl (sw_dict rfl rfl rfl (by decide +kernel)) (di_seq (dv 4)) (L2.blkOk_by (N := N_settled_ends) (sc := defScope s_settled_ends) (by decide +kernel)) (fun _ _ _ _ _ => dgv_name 6 sc_settled_ends.nd) (fun _ _ _ _ _ => dts_nil) (fun _ _ _ _ _ => dv 6) (fun _ _ _ _ _ => de_bl)) (dss_cons (ds_set 7 sc_settled_ends.nd (de_bl)) (dss_cons (ds_while po (dt_tru (dv 7)) (dss_cons (ds_set 7 sc_settled_ends.nd (de_bl)) (dss_cons (ds_set 8 sc_settled_ends.nd (de_lstM (da_nil))) (dss_cons (ds_for po (di_seq (de_callTy dc_list T.m_list (by decide +kernel) (da_cons (dv 4) (da_nil)))) (dg_tup rfl (dgs_cons (dg_name 9 sc_settled_ends.nd) (dgs_cons (dg_name 10 sc_settled_ends.nd) (dgs_nil)))) (dss_cons (ds_asg (de_call c_settle hrc_settle tk (da_cons (de_call c_rule hrc_rule tk (da_cons (dv 0) (da_cons (dv 1) (da_cons (dv 9) (da_cons (dv 10) (da_nil)))))) (da_cons (dv 3) (da_cons (dv 9) (da_cons (dv 10) (da_nil)))))) (dg_tup rfl (dgs_cons (dg_name 11 sc_settled_ends.nd) (dgs_cons (dg_name 12 sc_settled_ends.nd) (dgs_nil))))) (dss_one (ds_if (dt_notN (dv 11)) (dss_cons (ds_asg (dv 11) (dg_dk (room1 hr) (dv 3) (de_tup (da_cons (dv 9) (da_cons (dv 10) (da_nil)))))) (dss_one (ds_set 7 sc_settled_ends.nd (de_bl)))) (dss_cons (ds_expr (de_bm PySem.F.plainAttrs_list PySem.F.slot_list_append PySem.F.type_list_append dm_append (dv 8) (da_cons (de_tup (da_cons (dv 9) (da_cons (dv 10) (da_nil)))) (da_nil)))) (dss_one (ds_if (dt_cmp (do_notInD (room1 hr)) (dv 12) (dv 5)) (dss_cons (ds_asg (de_bl) (dg_dk (room1 hr) (dv 5) (dv 12))) (dss_cons (ds_expr (de_bm PySem.F.plainAttrs_list PySem.F.slot_list_append PySem.F.type_list_append dm_append (dv 8) (da_cons (dv 12) (da_nil)))) (dss_one (ds_set 7 sc_settled_ends.nd (de_bl))))) (dss_nil)))))))) (dss_one (ds_set 4 sc_settled_ends.nd (dv 8))))))) (dss_one (ds_ret (dv 3)))))))
theorem ok_ruled_pairs {P : Program} {w : World} {K : PySem.W.Frag} {mg : Str → Option Value} {base : Heap} (T : Tx K mg) :
    Callee P w K mg base "ruled_pairs" 1 ["steps", "labels"] sp_ruled_pairs := by
  obtain ⟨fd, F⟩ := T.F_ruled_pairs
  refine ⟨⟨fd, fn_ok F sc_ruled_pairs (d := r_ruled_pairs) (fun cdv A outer s H E hr tk po => ?_) p_ruled_pairs, bindsD F fun _ _ _ _ _ _ us hl => match us, hl with | [_, _], _ => rfl⟩, T.g_ruled_pairs, F.kp⟩
  delta r_ruled_pairs r_ruled_pairs_1 r_ruled_pairs_2 r_ruled_pairs_1b r_ruled_pairs_1b_0b r_ruled_pairs_1b_0b_1 r_ruled_pairs_1b_0b_1t r_ruled_pairs_1b_0b_0t
  exact dss_cons (ds_set 2 sc_ruled_pairs.nd (de_lstM (da_nil))) (dss_cons (ds_for po (di_seq (dv 1)) (dg_tup rfl (dgs_cons (dg_name 3 sc_ruled_pairs.nd) (dgs_cons (dg_name 4 sc_ruled_pairs.nd) (dgs_nil)))) (dss_one (ds_for po (di_seq (de_slice (dv 0) (do_some (dv 4)) (do_none))) (dg_name 5 sc_ruled_pairs.nd) (dss_cons (ds_if (dt_cmp (do_notIn (room65 hr)) (de_tup (da_cons (dv 3) (da_cons (de_ix (dv 5) (de_int)) (da_nil)))) (dv 2)) (dss_one (ds_expr (de_bm PySem.F.plainAttrs_list PySem.F.slot_list_append PySem.F.type_list_append dm_append (dv 2) (da_cons (de_tup (da_cons (dv 3) (da_cons (de_ix (dv 5) (de_int)) (da_nil)))) (da_nil))))) (dss_nil)) (dss_one (ds_if (dt_tru (de_ix (dv 5) (de_int))) (dss_one (ds_break)) (dss_nil))))))) (dss_one (ds_ret (de_callB dc_sortPP T.m_sorted (by decide +kernel) (da_cons (dv 2) (da_nil))))))
theorem ok_endless_pairs {P : Program} {w : World} {K : PySem.W.Frag} {mg : Str → Option Value} {base : Heap} (T : Tx K mg) (c_ruled_pairs : Callee P w K mg base "ruled_pairs" 1 ["steps", "labels"] sp_ruled_pairs) (c_settled_ends : Callee P w K mg base "settled_ends" 3 ["steps", "labels", "pairs"] sp_settled_ends) :
    Callee P w K mg base "endless_pairs" 4 ["steps", "labels"] sp_endless_pairs := by
  obtain ⟨fd, F⟩ := T.F_endless_pairs
  refine ⟨⟨fd, fn_ok F sc_endless_pairs (d := r_endless_pairs) (fun cdv A outer s H E hr tk po => ?_) p_endless_pairs, bindsD F fun _ _ _ _ _ _ us hl => match us, hl with | [_, _], _ => rfl⟩, T.g_endless_pairs, F.kp⟩
  have hrc_ruled_pairs := hr.mono (j := 1) (by decide)
  have hrc_settled_ends := hr.mono (j := 3) (by decide)
  delta r_endless_pairs r_endless_pairs_1 r_endless_pairs_2
  exact dss_cons (ds_set 2 sc_endless_pairs.nd (de_call c_ruled_pairs hrc_ruled_pairs tk (da_cons (dv 0) (da_cons (dv 1) (da_nil))))) (dss_cons (ds_set 3 sc_endless_pairs.nd (de_call c_settled_ends hrc_settled_ends tk (da_cons (dv 0) (da_cons (dv 1) (da_cons (dv 2) (da_nil)))))) (dss_one (ds_ret (de_lc (own := [("pair", 4)]) rfl sc_endless_pairs.nd (di_seq (dv 2)) (L2.blkOk_by (N := N_endless_pairs) (sc := defScope s_endless_pairs) (by decide +kernel)) (fun _ _ _ _ _ => dgv_name 4 sc_endless_pairs.nd) (fun _ _ _ _ _ => dts_one (dt_cmp (do_notInD (room1 hr)) (dv 4) (dv 3))) (fun _ _ _ _ _ => dv 4)))))
theorem ok_Row___init__ {P : Program} {w : World} {K : PySem.W.Frag} {mg : Str → Option Value} {base : Heap} (T : Tx K mg) :
    CalleeI P w K mg base "Row" 1 ["self", "codes"] sp_Row___init__ := by
  obtain ⟨fd, F⟩ := T.F_Row___init__
  refine ⟨⟨fd, fn_ok F sc_Row___init__ (d := r_Row___init__) (fun cdv A outer s H E hr tk po => ?_) p_Row___init__, bindsD F fun _ _ _ _ _ _ us hl => match us, hl with | [_, _], _ => rfl⟩, T.mk_Row, T.k_Row⟩
  delta r_Row___init__ r_Row___init___1 r_Row___init___2
  exact dss_cons (ds_fld T.o_Row T.n_Row_codes (dv 0) (de_op do_add (de_op do_add (de_lst (da_cons (de_con T.c_EDGE) (da_nil))) (dv 1)) (de_lst (da_cons (de_con T.c_EDGE) (da_nil))))) (dss_cons (ds_fld T.o_Row T.n_Row_gaps (dv 0) (de_op do_repM (de_lst (da_cons (de_int) (da_nil))) (de_op do_add (de_callB dc_len T.m_len boot_len (da_cons (dv 1) (da_nil))) (de_int)))) (dss_one (ds_fld T.o_Row T.n_Row_place (dv 0) (de_int))))
theorem ok_Row_glyphs_and_kerns {P : Program} {w : World} {K : PySem.W.Frag} {mg : Str → Option Value} {base : Heap} (T : Tx K mg) :
    CalleeM P w K mg base "Row" "glyphs_and_kerns" 1 ["self"] sp_Row_glyphs_and_kerns := by
  obtain ⟨fd, F⟩ := T.F_Row_glyphs_and_kerns
  refine ⟨⟨fd, fn_ok F sc_Row_glyphs_and_kerns (d := r_Row_glyphs_and_kerns) (fun cdv A outer s H E hr tk po => ?_) p_Row_glyphs_and_kerns, bindsD F fun _ _ _ _ _ _ us hl => match us, hl with | [_], _ => rfl⟩, T.o_Row, T.me_Row_glyphs_and_kerns⟩
  delta r_Row_glyphs_and_kerns r_Row_glyphs_and_kerns_1 r_Row_glyphs_and_kerns_2 r_Row_glyphs_and_kerns_3 r_Row_glyphs_and_kerns_2b r_Row_glyphs_and_kerns_2b_1 r_Row_glyphs_and_kerns_2b_1t r_Row_glyphs_and_kerns_2b_0t r_Row_glyphs_and_kerns_2b_0t_1
  exact dss_cons (ds_set 1 sc_Row_glyphs_and_kerns.nd (de_lstM (da_nil))) (dss_cons (ds_set 2 sc_Row_glyphs_and_kerns.nd (de_lstM (da_cons (de_int) (da_nil)))) (dss_cons (ds_for po (di_rng1 T.m_range (da_cons (de_callB dc_len T.m_len boot_len (da_cons (de_fld T.o_Row T.n_Row_codes (dv 0)) (da_nil))) (da_nil))) (dg_name 3 sc_Row_glyphs_and_kerns.nd) (dss_cons (ds_if (dt_cmp (do_ne hr.units) (de_ix (de_fld T.o_Row T.n_Row_codes (dv 0)) (dv 3)) (de_con T.c_EDGE)) (dss_cons (ds_expr (de_bm PySem.F.plainAttrs_list PySem.F.slot_list_append PySem.F.type_list_append dm_append (dv 1) (da_cons (de_ix (de_fld T.o_Row T.n_Row_codes (dv 0)) (dv 3)) (da_nil)))) (dss_one (ds_expr (de_bm PySem.F.plainAttrs_list PySem.F.slot_list_append PySem.F.type_list_append dm_append (dv 2) (da_cons (de_int) (da_nil)))))) (dss_nil)) (dss_one (ds_if (dt_cmp do_lt (dv 3) (de_callB dc_len T.m_len boot_len (da_cons (de_fld T.o_Row T.n_Row_gaps (dv 0)) (da_nil)))) (dss_one (ds_augS (dv 2) (de_neg (de_int)) (de_ix (de_fld T.o_Row T.n_Row_gaps (dv 0)) (dv 3)) io_add)) (dss_nil))))) (dss_one (ds_ret (de_tup (da_cons (de_frz (dv 1)) (da_cons (de_frz (dv 2)) (da_nil))))))))
theorem ok_Row_is_done {P : Program} {w : World} {K : PySem.W.Frag} {mg : Str → Option Value} {base : Heap} (T : Tx K mg) :
    CalleeM P w K mg base "Row" "is_done" 1 ["self"] sp_Row_is_done := by
  obtain ⟨fd, F⟩ := T.F_Row_is_done
  refine ⟨⟨fd, fn_ok F sc_Row_is_done (d := r_Row_is_done) (fun cdv A outer s H E hr tk po => ?_) p_Row_is_done, bindsD F fun _ _ _ _ _ _ us hl => match us, hl with | [_], _ => rfl⟩, T.o_Row, T.me_Row_is_done⟩
  delta r_Row_is_done
  exact dss_one (ds_ret (de_cmp do_ge (de_op do_add (de_fld T.o_Row T.n_Row_place (dv 0)) (de_int)) (de_callB dc_len T.m_len boot_len (da_cons (de_fld T.o_Row T.n_Row_codes (dv 0)) (da_nil)))))
theorem ok_Row_kern {P : Program} {w : World} {K : PySem.W.Frag} {mg : Str → Option Value} {base : Heap} (T : Tx K mg) :
    CalleeM P w K mg base "Row" "kern" 1 ["self", "amount"] sp_Row_kern := by
  obtain ⟨fd, F⟩ := T.F_Row_kern
  refine ⟨⟨fd, fn_ok F sc_Row_kern (d := r_Row_kern) (fun cdv A outer s H E hr tk po => ?_) p_Row_kern, bindsD F fun _ _ _ _ _ _ us hl => match us, hl with | [_, _], _ => rfl⟩, T.o_Row, T.me_Row_kern⟩
  delta r_Row_kern r_Row_kern_1
  exact dss_cons (ds_augS (de_fld T.o_Row T.n_Row_gaps (dv 0)) (de_fld T.o_Row T.n_Row_place (dv 0)) (dv 1) io_add) (dss_one (ds_fldAug T.o_Row T.n_Row_place (dv 0) (de_int) io_add))
theorem ok_Row_ligature {P : Program} {w : World} {K : PySem.W.Frag} {mg : Str → Option Value} {base : Heap} (T : Tx K mg) :
    CalleeM P w K mg base "Row" "ligature" 1 ["self", "code", "left_stays", "right_stays", "advance"] sp_Row_ligature := by
  obtain ⟨fd, F⟩ := T.F_Row_ligature
  refine ⟨⟨fd, fn_ok F sc_Row_ligature (d := r_Row_ligature) (fun cdv A outer s H E hr tk po => ?_) p_Row_ligature, bindsD F fun _ _ _ _ _ _ us hl => match us, hl with | [_, _, _, _, _], _ => rfl⟩, T.o_Row, T.me_Row_ligature⟩
  delta r_Row_ligature r_Row_ligature_1 r_Row_ligature_2 r_Row_ligature_3 r_Row_ligature_4 r_Row_ligature_5 r_Row_ligature_6 r_Row_ligature_7 r_Row_ligature_7t r_Row_ligature_3t r_Row_ligature_2t
  exact dss_cons (ds_set 5 sc_Row_ligature.nd (de_fld T.o_Row T.n_Row_place (dv 0))) (dss_cons (ds_set 6 sc_Row_ligature.nd (de_lst (da_cons (dv 1) (da_nil)))) (dss_cons (ds_if (dt_tru (dv 2)) (dss_one (ds_set 6 sc_Row_ligature.nd (de_op do_add (de_lst (da_cons (de_ix (de_fld T.o_Row T.n_Row_codes (dv 0)) (dv 5)) (da_nil))) (dv 6)))) (dss_nil)) (dss_cons (ds_if (dt_tru (dv 3)) (dss_one (ds_set 6 sc_Row_ligature.nd (de_op do_add (dv 6) (de_lst (da_cons (de_ix (de_fld T.o_Row T.n_Row_codes (dv 0)) (de_op do_add (dv 5) (de_int))) (da_nil)))))) (dss_nil)) (dss_cons (ds_fld T.o_Row T.n_Row_codes (dv 0) (de_op do_add (de_op do_add (de_slice (de_fld T.o_Row T.n_Row_codes (dv 0)) (do_none) (do_some (dv 5))) (dv 6)) (de_slice (de_fld T.o_Row T.n_Row_codes (dv 0)) (do_some (de_op do_add (dv 5) (de_int))) (do_none)))) (dss_cons (ds_fld T.o_Row T.n_Row_gaps (dv 0) (de_op do_addM (de_op do_add (de_slice (de_fld T.o_Row T.n_Row_gaps (dv 0)) (do_none) (do_some (dv 5))) (de_op do_mul (de_lst (da_cons (de_int) (da_nil))) (de_op do_sub (de_callB dc_len T.m_len boot_len (da_cons (dv 6) (da_nil))) (de_int)))) (de_slice (de_fld T.o_Row T.n_Row_gaps (dv 0)) (do_some (de_op do_add (dv 5) (de_int))) (do_none)))) (dss_cons (ds_fld T.o_Row T.n_Row_place (dv 0) (de_op do_add (dv 5) (dv 4))) (dss_one (ds_if (dt_cmp do_gt (de_callB dc_len T.m_len boot_len (da_cons (de_fld T.o_Row T.n_Row_codes (dv 0)) (da_nil))) (de_con T.c_ROW_LIMIT)) (dss_one (ds_raise tk T.e_TooLong)) (dss_nil)))))))))
theorem ok_set_line {P : Program} {w : World} {K : PySem.W.Frag} {mg : Str → Option Value} {base : Heap} (T : Tx K mg) (c_Row___init__ : CalleeI P w K mg base "Row" 1 ["self", "codes"] sp_Row___init__) (c_Row_glyphs_and_kerns : CalleeM P w K mg base "Row" "glyphs_and_kerns" 1 ["self"] sp_Row_glyphs_and_kerns) (c_Row_is_done : CalleeM P w K mg base "Row" "is_done" 1 ["self"] sp_Row_is_done) (c_rule : Callee P w K mg base "rule" 1 ["steps", "labels", "left", "right"] sp_rule) (c_endless_pairs : Callee P w K mg base "endless_pairs" 4 ["steps", "labels"] sp_endless_pairs) (c_Row_kern : CalleeM P w K mg base "Row" "kern" 1 ["self", "amount"] sp_Row_kern) (c_Row_ligature : CalleeM P w K mg base "Row" "ligature" 1 ["self", "code", "left_stays", "right_stays", "advance"] sp_Row_ligature) :
    Callee P w K mg base "set_line" 5 ["steps", "labels", "codes"] sp_set_line := by
  obtain ⟨fd, F⟩ := T.F_set_line
  refine ⟨⟨fd, fn_ok F sc_set_line (d := r_set_line) (fun cdv A outer s H E hr tk po => ?_) p_set_line, bindsD F fun _ _ _ _ _ _ us hl => match us, hl with | [_, _, _], _ => rfl⟩, T.g_set_line, F.kp⟩
  have hrc_Row___init__ := hr.mono (j := 2) (by decide)
  have hrc_Row_glyphs_and_kerns := hr.mono (j := 1) (by decide)
  have hrc_Row_is_done := hr.mono (j := 1) (by decide)
  have hrc_rule := hr.mono (j := 1) (by decide)
  have hrc_endless_pairs := hr.mono (j := 4) (by decide)
  have hrc_Row_kern := hr.mono (j := 1) (by decide)
  have hrc_Row_ligature := hr.mono (j := 1) (by decide)
  delta r_set_line r_set_line_1 r_set_line_2 r_set_line_3 r_set_line_4 r_set_line_3b r_set_line_3b_1 r_set_line_3b_1e r_set_line_3b_1e_0e r_set_line_3b_1e_0t r_set_line_3b_1t r_set_line_2t r_set_line_0t
  exact dss_cons (ds_if (dt_cmp do_gt (de_callB dc_len T.m_len boot_len (da_cons (de_call c_endless_pairs hrc_endless_pairs tk (da_cons (dv 0) (da_cons (dv 1) (da_nil)))) (da_nil))) (de_int)) (dss_one (ds_raise tk T.e_EndlessPair)) (dss_nil)) (dss_cons (ds_set 3 sc_set_line.nd (de_make c_Row___init__ hrc_Row___init__ tk (da_cons (de_callTy dc_list T.m_list (by decide +kernel) (da_cons (dv 2) (da_nil))) (da_nil)))) (dss_cons (ds_if (dt_cmp do_gt (de_callB dc_len T.m_len boot_len (da_cons (de_fld T.o_Row T.n_Row_codes (dv 3)) (da_nil))) (de_con T.c_ROW_LIMIT)) (dss_one (ds_raise tk T.e_TooLong)) (dss_nil)) (dss_cons (ds_while po (dt_not (dt_tru (de_meth0 c_Row_is_done hrc_Row_is_done tk (dv 3)))) (dss_cons (ds_set 4 sc_set_line.nd (de_call c_rule hrc_rule tk (da_cons (dv 0) (da_cons (dv 1) (da_cons (de_ix (de_fld T.o_Row T.n_Row_codes (dv 3)) (de_fld T.o_Row T.n_Row_place (dv 3))) (da_cons (de_ix (de_fld T.o_Row T.n_Row_codes (dv 3)) (de_op do_add (de_fld T.o_Row T.n_Row_place (dv 3)) (de_int))) (da_nil))))))) (dss_one (ds_if (dt_isN (dv 4)) (dss_one (ds_fldAug T.o_Row T.n_Row_place (dv 3) (de_int) io_add)) (dss_one (ds_if (dt_cmp (do_eq hr.units) (de_ix (dv 4) (de_int)) (de_str)) (dss_one (ds_expr (de_meth c_Row_kern hrc_Row_kern tk (dv 3) (da_cons (de_ix (dv 4) (de_int)) (da_nil))))) (dss_one (ds_expr (de_meth c_Row_ligature hrc_Row_ligature tk (dv 3) (da_cons (de_ix (dv 4) (de_int)) (da_cons (de_ix (dv 4) (de_int)) (da_cons (de_ix (dv 4) (de_int)) (da_cons (de_ix (dv 4) (de_int)) (da_nil)))))))))))))) (dss_one (ds_ret (de_meth0 c_Row_glyphs_and_kerns hrc_Row_glyphs_and_kerns tk (dv 3)))))))
theorem ok__law_cell {P : Program} {w : World} {K : PySem.W.Frag} {mg : Str → Option Value} {base : Heap} (T : Tx K mg) :
    Callee P w K mg base "_law_cell" 1 ["_law_script", "_law_k"] sp__law_cell := by
  obtain ⟨fd, F⟩ := T.F__law_cell
  refine ⟨⟨fd, fn_ok F sc__law_cell (d := r__law_cell) (fun cdv A outer s H E hr tk po => ?_) p__law_cell, bindsD F fun _ _ _ _ _ _ us hl => match us, hl with | [_, _], _ => rfl⟩, T.g__law_cell, F.kp⟩
  delta r__law_cell r__law_cell_1 r__law_cell_0t
  exact dss_cons (ds_if (dt_cmp do_lt (dv 1) (de_callB dc_len T.m_len boot_len (da_cons (dv 0) (da_nil)))) (dss_one (ds_ret (de_ix (dv 0) (dv 1)))) (dss_nil)) (dss_one (ds_ret (de_int)))
theorem ok__law_stream {P : Program} {w : World} {K : PySem.W.Frag} {mg : Str → Option Value} {base : Heap} (T : Tx K mg) :
    Callee P w K mg base "_law_stream" 1 ["_law_cell_here"] sp__law_stream := by
  obtain ⟨fd, F⟩ := T.F__law_stream
  refine ⟨⟨fd, fn_ok F sc__law_stream (d := r__law_stream) (fun cdv A outer s H E hr tk po => ?_) p__law_stream, bindsD F fun _ _ _ _ _ _ us hl => match us, hl with | [_], _ => rfl⟩, T.g__law_stream, F.kp⟩
  delta r__law_stream r__law_stream_1 r__law_stream_0t
  exact dss_cons (ds_if (dt_cmp do_ge (dv 0) (de_op do_pow (de_int) (de_int))) (dss_one (ds_ret (de_strm (da_cons (dv 0) (da_cons (de_int) (da_cons (de_op do_mod (de_callTy dc_int T.m_int (by decide +kernel) (da_cons (dv 0) (da_nil))) (de_int)) (da_nil))))))) (dss_nil)) (dss_one (ds_ret (de_strm (da_cons (de_int) (da_cons (de_int) (da_cons (de_op do_mod (de_callTy dc_int T.m_int (by decide +kernel) (da_cons (dv 0) (da_nil))) (de_int)) (da_nil)))))))
theorem ok__law_next {P : Program} {w : World} {K : PySem.W.Frag} {mg : Str → Option Value} {base : Heap} (T : Tx K mg) :
    Callee P w K mg base "_law_next" 1 ["_law_stream_here", "_law_size"] sp__law_next := by
  obtain ⟨fd, F⟩ := T.F__law_next
  refine ⟨⟨fd, fn_ok F sc__law_next (d := r__law_next) (fun cdv A outer s H E hr tk po => ?_) p__law_next, bindsD F fun _ _ _ _ _ _ us hl => match us, hl with | [_, _], _ => rfl⟩, T.g__law_next, F.kp⟩
  delta r__law_next r__law_next_1 r__law_next_2 r__law_next_3 r__law_next_4 r__law_next_5 r__law_next_0t r__law_next_0t_1 r__law_next_0t_2
  exact dss_cons (ds_if (dt_cmp do_gt (de_ix (dv 0) (de_int)) (de_int)) (dss_cons (ds_set 2 sc__law_next.nd (de_op do_mod (de_callTy dc_int T.m_int (by decide +kernel) (da_cons (de_ix (dv 0) (de_int)) (da_nil))) (dv 1))) (dss_cons (ds_asg (de_op do_div (de_ix (dv 0) (de_int)) (dv 1)) (dg_sub (dv 0) (de_int))) (dss_one (ds_ret (dv 2))))) (dss_nil)) (dss_cons (ds_asg (de_op do_add (de_ix (dv 0) (de_int)) (de_int)) (dg_sub (dv 0) (de_int))) (dss_cons (ds_set 3 sc__law_next.nd (de_op do_mod (de_callTy dc_int T.m_int (by decide +kernel) (da_cons (de_op do_add (de_op do_mul (de_ix (dv 0) (de_int)) (de_int)) (de_op do_mul (de_ix (dv 0) (de_int)) (de_int))) (da_nil))) (de_int))) (dss_cons (ds_set 3 sc__law_next.nd (de_op do_mod (de_callTy dc_int T.m_int (by decide +kernel) (da_cons (de_op do_add (de_op do_mul (dv 3) (dv 3)) (de_op do_mul (de_ix (dv 0) (de_int)) (de_int))) (da_nil))) (de_int))) (dss_cons (ds_set 3 sc__law_next.nd (de_op do_mod (de_callTy dc_int T.m_int (by decide +kernel) (da_cons (de_op do_add (de_op do_mul (dv 3) (de_int)) (de_ix (dv 0) (de_int))) (da_nil))) (de_int))) (dss_one (ds_ret (de_op do_mod (de_callTy dc_int T.m_int (by decide +kernel) (da_cons (dv 3) (da_nil))) (dv 1))))))))
theorem ok__law_is_integer {P : Program} {w : World} {K : PySem.W.Frag} {mg : Str → Option Value} {base : Heap} (T : Tx K mg) :
    Callee P w K mg base "_law_is_integer" 1 ["_law_actual"] sp__law_is_integer := by
  obtain ⟨fd, F⟩ := T.F__law_is_integer
  refine ⟨⟨fd, fn_ok F sc__law_is_integer (d := r__law_is_integer) (fun cdv A outer s H E hr tk po => ?_) p__law_is_integer, bindsD F fun _ _ _ _ _ _ us hl => match us, hl with | [_], _ => rfl⟩, T.g__law_is_integer, F.kp⟩
  delta r__law_is_integer
  exact dss_one (ds_ret (de_and (de_callB dc_isi T.m_isinstance (by decide +kernel) (da_cons (dv 0) (da_cons (de_ty (n := "int") T.m_int (by decide +kernel)) (da_nil)))) (de_one (de_not (de_callB dc_isi T.m_isinstance (by decide +kernel) (da_cons (dv 0) (da_cons (de_ty (n := "bool") T.m_bool (by decide +kernel)) (da_nil))))))))
theorem ok__law_ascending {P : Program} {w : World} {K : PySem.W.Frag} {mg : Str → Option Value} {base : Heap} (T : Tx K mg) :
    Callee P w K mg base "_law_ascending" 1 ["_law_values_here"] sp__law_ascending := by
  obtain ⟨fd, F⟩ := T.F__law_ascending
  refine ⟨⟨fd, fn_ok F sc__law_ascending (d := r__law_ascending) (fun cdv A outer s H E hr tk po => ?_) p__law_ascending, bindsD F fun _ _ _ _ _ _ us hl => match us, hl with | [_], _ => rfl⟩, T.g__law_ascending, F.kp⟩
  delta r__law_ascending r__law_ascending_1 r__law_ascending_2 r__law_ascending_1b r__law_ascending_1b_0t
  exact dss_cons (ds_set 1 sc__law_ascending.nd (de_lstM (da_nil))) (dss_cons (ds_for po (di_seq (de_callB dc_sorted T.m_sorted (by decide +kernel) (da_cons (dv 0) (da_nil)))) (dg_name 2 sc__law_ascending.nd) (dss_one (ds_if (DW.dt (dw_and (dt_cmp do_gt (dv 2) (de_int)) (dw_and1 (dt_cmp (do_notIn (room65 hr)) (dv 2) (dv 1))))) (dss_one (ds_expr (de_bm PySem.F.plainAttrs_list PySem.F.slot_list_append PySem.F.type_list_append dm_append (dv 1) (da_cons (dv 2) (da_nil))))) (dss_nil)))) (dss_one (ds_ret (de_frz (dv 1)))))
theorem ok__law_greedy {P : Program} {w : World} {K : PySem.W.Frag} {mg : Str → Option Value} {base : Heap} (T : Tx K mg) :
    Callee P w K mg base "_law_greedy" 1 ["_law_rest", "_law_e"] sp__law_greedy := by
  obtain ⟨fd, F⟩ := T.F__law_greedy
  refine ⟨⟨fd, fn_ok F sc__law_greedy (d := r__law_greedy) (fun cdv A outer s H E hr tk po => ?_) p__law_greedy, bindsD F fun _ _ _ _ _ _ us hl => match us, hl with | [_, _], _ => rfl⟩, T.g__law_greedy, F.kp⟩
  delta r__law_greedy r__law_greedy_1 r__law_greedy_2 r__law_greedy_1b r__law_greedy_1b_0e r__law_greedy_1b_0t
  exact dss_cons (ds_set 2 sc__law_greedy.nd (de_lstM (da_nil))) (dss_cons (ds_for po (di_seq (dv 0)) (dg_name 3 sc__law_greedy.nd) (dss_one (ds_if (DW.dt (dw_and (dt_cmp do_gt (de_callB dc_len T.m_len boot_len (da_cons (dv 2) (da_nil))) (de_int)) (dw_and1 (dt_cmp do_le (de_op do_sub (dv 3) (de_ix (de_ix (dv 2) (de_neg (de_int))) (de_int))) (dv 1))))) (dss_one (ds_asg (de_tup (da_cons (de_ix (de_ix (dv 2) (de_neg (de_int))) (de_int)) (da_cons (dv 3) (da_nil)))) (dg_sub (dv 2) (de_neg (de_int))))) (dss_one (ds_expr (de_bm PySem.F.plainAttrs_list PySem.F.slot_list_append PySem.F.type_list_append dm_append (dv 2) (da_cons (de_tup (da_cons (dv 3) (da_cons (dv 3) (da_nil)))) (da_nil)))))))) (dss_one (ds_ret (de_frz (dv 2)))))
theorem ok__law_table {P : Program} {w : World} {K : PySem.W.Frag} {mg : Str → Option Value} {base : Heap} (T : Tx K mg) (c__law_ascending : Callee P w K mg base "_law_ascending" 1 ["_law_values_here"] sp__law_ascending) (c__law_greedy : Callee P w K mg base "_law_greedy" 1 ["_law_rest", "_law_e"] sp__law_greedy) :
    Callee P w K mg base "_law_table" 2 ["_law_values_here", "_law_limit"] sp__law_table := by
  obtain ⟨fd, F⟩ := T.F__law_table
  refine ⟨⟨fd, fn_ok F sc__law_table (d := r__law_table) (fun cdv A outer s H E hr tk po => ?_) p__law_table, bindsD F fun _ _ _ _ _ _ us hl => match us, hl with | [_, _], _ => rfl⟩, T.g__law_table, F.kp⟩
  have hrc__law_ascending := hr.mono (j := 1) (by decide)
  have hrc__law_greedy := hr.mono (j := 1) (by decide)
  delta r__law_table r__law_table_1 r__law_table_2 r__law_table_3 r__law_table_4 r__law_table_3b r__law_table_3b_0t r__law_table_2b
  exact dss_cons (ds_set 2 sc__law_table.nd (de_call c__law_ascending hrc__law_ascending tk (da_cons (dv 0) (da_nil)))) (dss_cons (ds_set 3 sc__law_table.nd (de_lst (da_cons (de_int) (da_nil)))) (dss_cons (ds_for po (di_rng1 T.m_range (da_cons (de_callB dc_len T.m_len boot_len (da_cons (dv 2) (da_nil))) (da_nil))) (dg_name 4 sc__law_table.nd) (dss_one (ds_set 3 sc__law_table.nd (de_op do_add (dv 3) (de_lc (own := [("_law_value", 5)]) rfl sc__law_table.nd (di_seq (de_slice (dv 2) (do_some (dv 4)) (do_none))) (L2.blkOk_by (N := N__law_table) (sc := defScope s__law_table) (by decide +kernel)) (fun _ _ _ _ _ => dgv_name 5 sc__law_table.nd) (fun _ _ _ _ _ => dts_nil) (fun _ _ _ _ _ => de_op do_sub (dv 5) (de_ix (dv 2) (dv 4)))))))) (dss_cons (ds_for po (di_seq (de_callB dc_sorted T.m_sorted (by decide +kernel) (da_cons (dv 3) (da_nil)))) (dg_name 6 sc__law_table.nd) (dss_one (ds_if (dt_cmp do_le (de_callB dc_len T.m_len boot_len (da_cons (de_call c__law_greedy hrc__law_greedy tk (da_cons (dv 2) (da_cons (dv 6) (da_nil)))) (da_nil))) (dv 1)) (dss_one (ds_ret (de_call c__law_greedy hrc__law_greedy tk (da_cons (dv 2) (da_cons (dv 6) (da_nil)))))) (dss_nil)))) (dss_one (ds_ret (de_lst (da_nil)))))))
theorem ok__law_middle {P : Program} {w : World} {K : PySem.W.Frag} {mg : Str → Option Value} {base : Heap} (T : Tx K mg) :
    Callee P w K mg base "_law_middle" 1 ["_law_found", "_law_value"] sp__law_middle := by
  obtain ⟨fd, F⟩ := T.F__law_middle
  refine ⟨⟨fd, fn_ok F sc__law_middle (d := r__law_middle) (fun cdv A outer s H E hr tk po => ?_) p__law_middle, bindsD F fun _ _ _ _ _ _ us hl => match us, hl with | [_, _], _ => rfl⟩, T.g__law_middle, F.kp⟩
  delta r__law_middle r__law_middle_1 r__law_middle_0b r__law_middle_0b_0t
  exact dss_cons (ds_for po (di_seq (dv 0)) (dg_tup rfl (dgs_cons (dg_name 2 sc__law_middle.nd) (dgs_cons (dg_name 3 sc__law_middle.nd) (dgs_nil)))) (dss_one (ds_if (DW.dt (dw_and (dt_cmp do_le (dv 2) (dv 1)) (dw_and1 (dt_cmp do_le (dv 1) (dv 3))))) (dss_one (ds_ret (de_op do_div (de_op do_add (dv 2) (dv 3)) (de_int)))) (dss_nil)))) (dss_one (ds_ret (de_int)))
theorem ok_Font_character {P : Program} {w : World} {K : PySem.W.Frag} {mg : Str → Option Value} {base : Heap} (T : Tx K mg) :
    CalleeM P w K mg base "Font" "character" 1 ["self", "code"] sp_Font_character := by
  obtain ⟨fd, F⟩ := T.F_Font_character
  refine ⟨⟨fd, fn_ok F sc_Font_character (d := r_Font_character) (fun cdv A outer s H E hr tk po => ?_) p_Font_character, bindsD F fun _ _ _ _ _ _ us hl => match us, hl with | [_, _], _ => rfl⟩, T.o_Font, T.me_Font_character⟩
  delta r_Font_character r_Font_character_1 r_Font_character_0b r_Font_character_0b_0t
  exact dss_cons (ds_for po (di_seq (de_fld T.o_Font T.n_Font_characters (dv 0))) (dg_name 2 sc_Font_character.nd) (dss_one (ds_if (dt_cmp (do_eq hr.units) (de_ix (dv 2) (de_int)) (dv 1)) (dss_one (ds_ret (dv 2))) (dss_nil)))) (dss_one (ds_raise tk T.e_OutOfRange))
theorem ok_Font_metric_values {P : Program} {w : World} {K : PySem.W.Frag} {mg : Str → Option Value} {base : Heap} (T : Tx K mg) :
    CalleeM P w K mg base "Font" "metric_values" 1 ["self", "metric"] sp_Font_metric_values := by
  obtain ⟨fd, F⟩ := T.F_Font_metric_values
  refine ⟨⟨fd, fn_ok F sc_Font_metric_values (d := r_Font_metric_values) (fun cdv A outer s H E hr tk po => ?_) p_Font_metric_values, bindsD F fun _ _ _ _ _ _ us hl => match us, hl with | [_, _], _ => rfl⟩, T.o_Font, T.me_Font_metric_values⟩
  delta r_Font_metric_values
  exact dss_one (ds_ret (de_lc (own := [("character", 2)]) rfl sc_Font_metric_values.nd (di_seq (de_fld T.o_Font T.n_Font_characters (dv 0))) (L2.blkOk_by (N := N_Font_metric_values) (sc := defScope s_Font_metric_values) (by decide +kernel)) (fun _ _ _ _ _ => dgv_name 2 sc_Font_metric_values.nd) (fun _ _ _ _ _ => dts_nil) (fun _ _ _ _ _ => de_ix (de_ix (dv 2) (de_int)) (dv 1))))
theorem ok_Font_table_value {P : Program} {w : World} {K : PySem.W.Frag} {mg : Str → Option Value} {base : Heap} (T : Tx K mg) (c_table_value : Callee P w K mg base "table_value" 4 ["values", "limit", "value"] sp_table_value) (c_Font_metric_values : CalleeM P w K mg base "Font" "metric_values" 1 ["self", "metric"] sp_Font_metric_values) (c_Font_character : CalleeM P w K mg base "Font" "character" 1 ["self", "code"] sp_Font_character) :
    CalleeM P w K mg base "Font" "table_value" 5 ["self", "code", "metric"] sp_Font_table_value := by
  obtain ⟨fd, F⟩ := T.F_Font_table_value
  refine ⟨⟨fd, fn_ok F sc_Font_table_value (d := r_Font_table_value) (fun cdv A outer s H E hr tk po => ?_) p_Font_table_value, bindsD F fun _ _ _ _ _ _ us hl => match us, hl with | [_, _, _], _ => rfl⟩, T.o_Font, T.me_Font_table_value⟩
  have hrc_table_value := hr.mono (j := 4) (by decide)
  have hrc_Font_metric_values := hr.mono (j := 1) (by decide)
  have hrc_Font_character := hr.mono (j := 1) (by decide)
  delta r_Font_table_value r_Font_table_value_1
  exact dss_cons (ds_set 3 sc_Font_table_value.nd (de_ix (de_ix (de_meth c_Font_character hrc_Font_character tk (dv 0) (da_cons (dv 1) (da_nil))) (de_int)) (dv 2))) (dss_one (ds_ret (de_callA T.al_table_value_metrics c_table_value hrc_table_value tk (da_cons (de_meth c_Font_metric_values hrc_Font_metric_values tk (dv 0) (da_cons (dv 2) (da_nil))) (da_cons (de_ix (de_con T.c_LIMITS) (dv 2)) (da_cons (dv 3) (da_nil)))))))
theorem ok_Font_pixel {P : Program} {w : World} {K : PySem.W.Frag} {mg : Str → Option Value} {base : Heap} (T : Tx K mg) (c_Font_character : CalleeM P w K mg base "Font" "character" 1 ["self", "code"] sp_Font_character) :
    CalleeM P w K mg base "Font" "pixel" 2 ["self", "code", "i", "j"] sp_Font_pixel := by
  obtain ⟨fd, F⟩ := T.F_Font_pixel
  refine ⟨⟨fd, fn_ok F sc_Font_pixel (d := r_Font_pixel) (fun cdv A outer s H E hr tk po => ?_) p_Font_pixel, bindsD F fun _ _ _ _ _ _ us hl => match us, hl with | [_, _, _, _], _ => rfl⟩, T.o_Font, T.me_Font_pixel⟩
  have hrc_Font_character := hr.mono (j := 1) (by decide)
  delta r_Font_pixel r_Font_pixel_1 r_Font_pixel_2 r_Font_pixel_3 r_Font_pixel_1t
  exact dss_cons (ds_asg (de_meth c_Font_character hrc_Font_character tk (dv 0) (da_cons (dv 1) (da_nil))) (dg_tup rfl (dgs_cons (dg_name 4 sc_Font_pixel.nd) (dgs_cons (dg_name 5 sc_Font_pixel.nd) (dgs_cons (dg_name 6 sc_Font_pixel.nd) (dgs_cons (dg_name 7 sc_Font_pixel.nd) (dgs_cons (dg_name 4 sc_Font_pixel.nd) (dgs_nil)))))))) (dss_cons (ds_if (DW.dt (dw_or (dt_cmp do_lt (dv 3) (dv 6)) (dw_or1 (dt_cmp do_ge (dv 3) (de_op do_add (dv 6) (de_callB dc_len T.m_len boot_len (da_cons (dv 7) (da_nil)))))))) (dss_one (ds_ret (de_bl))) (dss_nil)) (dss_cons (ds_set 8 sc_Font_pixel.nd (de_ix (dv 7) (de_op do_sub (de_op do_sub (de_callB dc_len T.m_len boot_len (da_cons (dv 7) (da_nil))) (de_int)) (de_op do_sub (dv 3) (dv 6))))) (dss_one (ds_ret (de_and (de_chain do_le do_lt (dv 5) (dv 2) (de_op do_add (dv 5) (de_callB dc_len T.m_len boot_len (da_cons (dv 8) (da_nil))))) (de_one (de_cmp (do_eq hr.units) (de_ix (dv 8) (de_op do_sub (dv 2) (dv 5))) (de_int))))))))
theorem ok__law_refuses {P : Program} {w : World} {K : PySem.W.Frag} {mg : Str → Option Value} {base : Heap} (T : Tx K mg) (c_Font_character : CalleeM P w K mg base "Font" "character" 1 ["self", "code"] sp_Font_character) (c_Font_table_value : CalleeM P w K mg base "Font" "table_value" 5 ["self", "code", "metric"] sp_Font_table_value) (c_Font_pixel : CalleeM P w K mg base "Font" "pixel" 2 ["self", "code", "i", "j"] sp_Font_pixel) :
    Callee P w K mg base "_law_refuses" 6 ["_law_font", "_law_code"] sp__law_refuses := by
  obtain ⟨fd, F⟩ := T.F__law_refuses
  refine ⟨⟨fd, fn_ok F sc__law_refuses (d := r__law_refuses) (fun cdv A outer s H E hr tk po => ?_) p__law_refuses, bindsD F fun _ _ _ _ _ _ us hl => match us, hl with | [_, _], _ => rfl⟩, T.g__law_refuses, F.kp⟩
  have hrc_Font_character := hr.mono (j := 1) (by decide)
  have hrc_Font_table_value := hr.mono (j := 5) (by decide)
  have hrc_Font_pixel := hr.mono (j := 2) (by decide)
  delta r__law_refuses r__law_refuses_1 r__law_refuses_2 r__law_refuses_3 r__law_refuses_4 r__law_refuses_3h0 r__law_refuses_3y r__law_refuses_2h0 r__law_refuses_2y r__law_refuses_1h0 r__law_refuses_1y
  exact dss_cons (ds_set 2 sc__law_refuses.nd (de_int)) (dss_cons (ds_tryAs 3 rfl rfl sc__law_refuses.nd rfl rfl ⟨rfl, by decide, .inl T.k_OutOfRange⟩ tk T.x_OutOfRange (fun W1 pn xe tk po => dss_one (ds_expr (de_meth c_Font_character hrc_Font_character tk (dv 0) (da_cons (dv 1) (da_nil))))) (fun a oe e cls d pn hh => dss_one (ds_set 2 sc__law_refuses.nd (de_op do_add (dv 2) (de_callTy dc_int T.m_int (by decide +kernel) (da_cons (de_callB (dc_isE T.kt hh) T.m_isinstance (by decide +kernel) (da_cons (dv 3) (da_cons (de_con T.v_FontError) (da_nil)))) (da_nil))))))) (dss_cons (ds_try rfl rfl ⟨rfl, by decide, .inl T.k_OutOfRange⟩ tk T.x_OutOfRange (fun W1 pn xe tk po => dss_one (ds_expr (de_meth c_Font_table_value hrc_Font_table_value tk (dv 0) (da_cons (dv 1) (da_cons (de_int) (da_nil)))))) (fun a oe e cls d pn hh => dss_one (ds_set 2 sc__law_refuses.nd (de_op do_add (dv 2) (de_int))))) (dss_cons (ds_try rfl rfl ⟨rfl, by decide, .inl T.k_OutOfRange⟩ tk T.x_OutOfRange (fun W1 pn xe tk po => dss_one (ds_expr (de_meth c_Font_pixel hrc_Font_pixel tk (dv 0) (da_cons (dv 1) (da_cons (de_int) (da_cons (de_int) (da_nil))))))) (fun a oe e cls d pn hh => dss_one (ds_set 2 sc__law_refuses.nd (de_op do_add (dv 2) (de_int))))) (dss_one (ds_ret (de_cmp (do_eq hr.units) (dv 2) (de_int)))))))
theorem ok_Font_line {P : Program} {w : World} {K : PySem.W.Frag} {mg : Str → Option Value} {base : Heap} (T : Tx K mg) (c_set_line : Callee P w K mg base "set_line" 5 ["steps", "labels", "codes"] sp_set_line) :
    CalleeM P w K mg base "Font" "line" 6 ["self", "codes"] sp_Font_line := by
  obtain ⟨fd, F⟩ := T.F_Font_line
  refine ⟨⟨fd, fn_ok F sc_Font_line (d := r_Font_line) (fun cdv A outer s H E hr tk po => ?_) p_Font_line, bindsD F fun _ _ _ _ _ _ us hl => match us, hl with | [_, _], _ => rfl⟩, T.o_Font, T.me_Font_line⟩
  have hrc_set_line := hr.mono (j := 5) (by decide)
  delta r_Font_line
  exact dss_one (ds_ret (de_call c_set_line hrc_set_line tk (da_cons (de_fld T.o_Font T.n_Font_steps (dv 0)) (da_cons (de_fld T.o_Font T.n_Font_labels (dv 0)) (da_cons (dv 1) (da_nil))))))
theorem ok_Font___contains__ {P : Program} {w : World} {K : PySem.W.Frag} {mg : Str → Option Value} {base : Heap} (T : Tx K mg) :
    CalleeM P w K mg base "Font" "__contains__" 1 ["self", "code"] sp_Font___contains__ := by
  obtain ⟨fd, F⟩ := T.F_Font___contains__
  refine ⟨⟨fd, fn_ok F sc_Font___contains__ (d := r_Font___contains__) (fun cdv A outer s H E hr tk po => ?_) p_Font___contains__, bindsD F fun _ _ _ _ _ _ us hl => match us, hl with | [_, _], _ => rfl⟩, T.o_Font, T.me_Font___contains__⟩
  delta r_Font___contains__
  exact dss_one (ds_ret (de_callB (dc_any rfl) T.m_any (by decide +kernel) (da_cons (de_lc (own := [("character", 2)]) rfl sc_Font___contains__.nd (di_seq (de_fld T.o_Font T.n_Font_characters (dv 0))) (L2.blkOk_by (N := N_Font___contains__) (sc := defScope s_Font___contains__) (by decide +kernel)) (fun _ _ _ _ _ => dgv_name 2 sc_Font___contains__.nd) (fun _ _ _ _ _ => dts_nil) (fun _ _ _ _ _ => de_cmp (do_eq hr.units) (de_ix (dv 2) (de_int)) (dv 1))) (da_nil))))
theorem ok_Font_glyph_width {P : Program} {w : World} {K : PySem.W.Frag} {mg : Str → Option Value} {base : Heap} (T : Tx K mg) (c_Font___contains__ : CalleeM P w K mg base "Font" "__contains__" 1 ["self", "code"] sp_Font___contains__) (c_Font_table_value : CalleeM P w K mg base "Font" "table_value" 5 ["self", "code", "metric"] sp_Font_table_value) :
    CalleeM P w K mg base "Font" "glyph_width" 6 ["self", "code"] sp_Font_glyph_width := by
  obtain ⟨fd, F⟩ := T.F_Font_glyph_width
  refine ⟨⟨fd, fn_ok F sc_Font_glyph_width (d := r_Font_glyph_width) (fun cdv A outer s H E hr tk po => ?_) p_Font_glyph_width, bindsD F fun _ _ _ _ _ _ us hl => match us, hl with | [_, _], _ => rfl⟩, T.o_Font, T.me_Font_glyph_width⟩
  have hrc_Font___contains__ := hr.mono (j := 2) (by decide)
  have hrc_Font_table_value := hr.mono (j := 5) (by decide)
  delta r_Font_glyph_width r_Font_glyph_width_1 r_Font_glyph_width_0t
  exact dss_cons (ds_if (dt_cmp (do_inO c_Font___contains__ hrc_Font___contains__) (dv 1) (dv 0)) (dss_one (ds_ret (de_meth c_Font_table_value hrc_Font_table_value tk (dv 0) (da_cons (dv 1) (da_cons (de_con T.c_WIDTH) (da_nil)))))) (dss_nil)) (dss_one (ds_ret (de_int)))
theorem ok_Font_width {P : Program} {w : World} {K : PySem.W.Frag} {mg : Str → Option Value} {base : Heap} (T : Tx K mg) (c_Font_line : CalleeM P w K mg base "Font" "line" 6 ["self", "codes"] sp_Font_line) (c_Font_glyph_width : CalleeM P w K mg base "Font" "glyph_width" 6 ["self", "code"] sp_Font_glyph_width) :
    CalleeM P w K mg base "Font" "width" 7 ["self", "codes"] sp_Font_width := by
  obtain ⟨fd, F⟩ := T.F_Font_width
  refine ⟨⟨fd, fn_ok F sc_Font_width (d := r_Font_width) (fun cdv A outer s H E hr tk po => ?_) p_Font_width, bindsD F fun _ _ _ _ _ _ us hl => match us, hl with | [_, _], _ => rfl⟩, T.o_Font, T.me_Font_width⟩
  have hrc_Font_line := hr.mono (j := 6) (by decide)
  have hrc_Font_glyph_width := hr.mono (j := 6) (by decide)
  delta r_Font_width r_Font_width_1
  exact dss_cons (ds_asg (de_meth c_Font_line hrc_Font_line tk (dv 0) (da_cons (dv 1) (da_nil))) (dg_tup rfl (dgs_cons (dg_name 2 sc_Font_width.nd) (dgs_cons (dg_name 3 sc_Font_width.nd) (dgs_nil))))) (dss_one (ds_ret (de_op do_add (de_callB (dc_sum rfl) T.m_sum (by decide +kernel) (da_cons (de_lc (own := [("code", 4)]) rfl sc_Font_width.nd (di_seq (dv 2)) (L2.blkOk_by (N := N_Font_width) (sc := defScope s_Font_width) (by decide +kernel)) (fun _ _ _ _ _ => dgv_name 4 sc_Font_width.nd) (fun _ _ _ _ _ => dts_nil) (fun _ _ _ _ _ => de_meth c_Font_glyph_width hrc_Font_glyph_width takes0 (dv 0) (da_cons (dv 4) (da_nil)))) (da_nil))) (de_callB (dc_sum rfl) T.m_sum (by decide +kernel) (da_cons (dv 3) (da_nil))))))
theorem ok_Font_positions {P : Program} {w : World} {K : PySem.W.Frag} {mg : Str → Option Value} {base : Heap} (T : Tx K mg) (c_Font_line : CalleeM P w K mg base "Font" "line" 6 ["self", "codes"] sp_Font_line) (c_Font_glyph_width : CalleeM P w K mg base "Font" "glyph_width" 6 ["self", "code"] sp_Font_glyph_width) :
    CalleeM P w K mg base "Font" "positions" 7 ["self", "codes"] sp_Font_positions := by
  obtain ⟨fd, F⟩ := T.F_Font_positions
  refine ⟨⟨fd, fn_ok F sc_Font_positions (d := r_Font_positions) (fun cdv A outer s H E hr tk po => ?_) p_Font_positions, bindsD F fun _ _ _ _ _ _ us hl => match us, hl with | [_, _], _ => rfl⟩, T.o_Font, T.me_Font_positions⟩
  have hrc_Font_line := hr.mono (j := 6) (by decide)
  have hrc_Font_glyph_width := hr.mono (j := 6) (by decide)
  delta r_Font_positions r_Font_positions_1 r_Font_positions_2 r_Font_positions_3 r_Font_positions_4 r_Font_positions_3b r_Font_positions_3b_1 r_Font_positions_3b_2
  exact dss_cons (ds_asg (de_meth c_Font_line hrc_Font_line tk (dv 0) (da_cons (dv 1) (da_nil))) (dg_tup rfl (dgs_cons (dg_name 2 sc_Font_positions.nd) (dgs_cons (dg_name 3 sc_Font_positions.nd) (dgs_nil))))) (dss_cons (ds_set 4 sc_Font_positions.nd (de_int)) (dss_cons (ds_set 5 sc_Font_positions.nd (de_lstM (da_nil))) (dss_cons (ds_for po (di_rng1 T.m_range (da_cons (de_callB dc_len T.m_len boot_len (da_cons (dv 2) (da_nil))) (da_nil))) (dg_name 6 sc_Font_positions.nd) (dss_cons (ds_aug 4 sc_Font_positions.nd (de_ix (dv 3) (dv 6)) io_add) (dss_cons (ds_expr (de_bm PySem.F.plainAttrs_list PySem.F.slot_list_append PySem.F.type_list_append dm_append (dv 5) (da_cons (dv 4) (da_nil)))) (dss_one (ds_aug 4 sc_Font_positions.nd (de_meth c_Font_glyph_width hrc_Font_glyph_width tk (dv 0) (da_cons (de_ix (dv 2) (dv 6)) (da_nil))) io_add))))) (dss_one (ds_ret (de_frz (dv 5)))))))
theorem ok__law_too_long {P : Program} {w : World} {K : PySem.W.Frag} {mg : Str → Option Value} {base : Heap} (T : Tx K mg) (c_Font_line : CalleeM P w K mg base "Font" "line" 6 ["self", "codes"] sp_Font_line) (c_Font_width : CalleeM P w K mg base "Font" "width" 7 ["self", "codes"] sp_Font_width) (c_Font_positions : CalleeM P w K mg base "Font" "positions" 7 ["self", "codes"] sp_Font_positions) :
    Callee P w K mg base "_law_too_long" 8 ["_law_font", "_law_codes"] sp__law_too_long := by
  obtain ⟨fd, F⟩ := T.F__law_too_long
  refine ⟨⟨fd, fn_ok F sc__law_too_long (d := r__law_too_long) (fun cdv A outer s H E hr tk po => ?_) p__law_too_long, bindsD F fun _ _ _ _ _ _ us hl => match us, hl with | [_, _], _ => rfl⟩, T.g__law_too_long, F.kp⟩
  have hrc_Font_line := hr.mono (j := 6) (by decide)
  have hrc_Font_width := hr.mono (j := 7) (by decide)
  have hrc_Font_positions := hr.mono (j := 7) (by decide)
  delta r__law_too_long r__law_too_long_1 r__law_too_long_2 r__law_too_long_3 r__law_too_long_4 r__law_too_long_3h0 r__law_too_long_3y r__law_too_long_2h0 r__law_too_long_2y r__law_too_long_1h0 r__law_too_long_1y
  exact dss_cons (ds_set 2 sc__law_too_long.nd (de_int)) (dss_cons (ds_tryAs 3 rfl rfl sc__law_too_long.nd rfl rfl ⟨rfl, by decide, .inl T.k_TooLong⟩ tk T.x_TooLong (fun W1 pn xe tk po => dss_one (ds_expr (de_meth c_Font_line hrc_Font_line tk (dv 0) (da_cons (dv 1) (da_nil))))) (fun a oe e cls d pn hh => dss_one (ds_set 2 sc__law_too_long.nd (de_op do_add (dv 2) (de_callTy dc_int T.m_int (by decide +kernel) (da_cons (de_callB (dc_isE T.kt hh) T.m_isinstance (by decide +kernel) (da_cons (dv 3) (da_cons (de_con T.v_FontError) (da_nil)))) (da_nil))))))) (dss_cons (ds_try rfl rfl ⟨rfl, by decide, .inl T.k_TooLong⟩ tk T.x_TooLong (fun W1 pn xe tk po => dss_one (ds_expr (de_meth c_Font_width hrc_Font_width tk (dv 0) (da_cons (dv 1) (da_nil))))) (fun a oe e cls d pn hh => dss_one (ds_set 2 sc__law_too_long.nd (de_op do_add (dv 2) (de_int))))) (dss_cons (ds_try rfl rfl ⟨rfl, by decide, .inl T.k_TooLong⟩ tk T.x_TooLong (fun W1 pn xe tk po => dss_one (ds_expr (de_meth c_Font_positions hrc_Font_positions tk (dv 0) (da_cons (dv 1) (da_nil))))) (fun a oe e cls d pn hh => dss_one (ds_set 2 sc__law_too_long.nd (de_op do_add (dv 2) (de_int))))) (dss_one (ds_ret (de_cmp (do_eq hr.units) (dv 2) (de_int)))))))
theorem ok__law_kern {P : Program} {w : World} {K : PySem.W.Frag} {mg : Str → Option Value} {base : Heap} (T : Tx K mg) :
    Callee P w K mg base "_law_kern" 1 ["_law_steps", "_law_labels", "_law_left", "_law_right"] sp__law_kern := by
  obtain ⟨fd, F⟩ := T.F__law_kern
  refine ⟨⟨fd, fn_ok F sc__law_kern (d := r__law_kern) (fun cdv A outer s H E hr tk po => ?_) p__law_kern, bindsD F fun _ _ _ _ _ _ us hl => match us, hl with | [_, _, _, _], _ => rfl⟩, T.g__law_kern, F.kp⟩
  delta r__law_kern r__law_kern_1 r__law_kern_0b r__law_kern_0b_0t
  exact dss_cons (ds_for po (di_seq (dv 1)) (dg_tup rfl (dgs_cons (dg_name 4 sc__law_kern.nd) (dgs_cons (dg_name 5 sc__law_kern.nd) (dgs_nil)))) (dss_one (ds_if (DW.dt (dw_and (dt_cmp (do_eq hr.units) (dv 4) (dv 2)) (dw_and1 (dt_cmp (do_eq hr.units) (de_ix (de_ix (dv 0) (dv 5)) (de_int)) (dv 3))))) (dss_one (ds_ret (de_ix (de_ix (de_ix (dv 0) (dv 5)) (de_int)) (de_int)))) (dss_nil)))) (dss_one (ds_ret (de_int)))
theorem ok_Font___init__ {P : Program} {w : World} {K : PySem.W.Frag} {mg : Str → Option Value} {base : Heap} (T : Tx K mg) :
    CalleeI P w K mg base "Font" 1 ["self", "characters", "steps", "labels"] sp_Font___init__ := by
  obtain ⟨fd, F⟩ := T.F_Font___init__
  refine ⟨⟨fd, fn_ok F sc_Font___init__ (d := r_Font___init__) (fun cdv A outer s H E hr tk po => ?_) p_Font___init__, bindsD F fun _ _ _ _ _ _ us hl => match us, hl with | [_, _, _, _], _ => rfl⟩, T.mk_Font, T.k_Font⟩
  delta r_Font___init__ r_Font___init___1 r_Font___init___2
  exact dss_cons (ds_fld T.o_Font T.n_Font_characters (dv 0) (de_callTy dc_tuple T.m_tuple (by decide +kernel) (da_cons (dv 1) (da_nil)))) (dss_cons (ds_fld T.o_Font T.n_Font_steps (dv 0) (de_callTy dc_tuple T.m_tuple (by decide +kernel) (da_cons (dv 2) (da_nil)))) (dss_one (ds_fld T.o_Font T.n_Font_labels (dv 0) (de_callTy dc_tuple T.m_tuple (by decide +kernel) (da_cons (dv 3) (da_nil))))))
theorem ok_Font___len__ {P : Program} {w : World} {K : PySem.W.Frag} {mg : Str → Option Value} {base : Heap} (T : Tx K mg) :
    CalleeM P w K mg base "Font" "__len__" 1 ["self"] sp_Font___len__ := by
  obtain ⟨fd, F⟩ := T.F_Font___len__
  refine ⟨⟨fd, fn_ok F sc_Font___len__ (d := r_Font___len__) (fun cdv A outer s H E hr tk po => ?_) p_Font___len__, bindsD F fun _ _ _ _ _ _ us hl => match us, hl with | [_], _ => rfl⟩, T.o_Font, T.me_Font___len__⟩
  delta r_Font___len__
  exact dss_one (ds_ret (de_callB dc_len T.m_len boot_len (da_cons (de_fld T.o_Font T.n_Font_characters (dv 0)) (da_nil))))
theorem ok_Font_table {P : Program} {w : World} {K : PySem.W.Frag} {mg : Str → Option Value} {base : Heap} (T : Tx K mg) (c_table : Callee P w K mg base "table" 4 ["values", "limit"] sp_table) (c_Font_metric_values : CalleeM P w K mg base "Font" "metric_values" 1 ["self", "metric"] sp_Font_metric_values) :
    CalleeM P w K mg base "Font" "table" 5 ["self", "metric"] sp_Font_table := by
  obtain ⟨fd, F⟩ := T.F_Font_table
  refine ⟨⟨fd, fn_ok F sc_Font_table (d := r_Font_table) (fun cdv A outer s H E hr tk po => ?_) p_Font_table, bindsD F fun _ _ _ _ _ _ us hl => match us, hl with | [_, _], _ => rfl⟩, T.o_Font, T.me_Font_table⟩
  have hrc_table := hr.mono (j := 4) (by decide)
  have hrc_Font_metric_values := hr.mono (j := 1) (by decide)
  delta r_Font_table
  exact dss_one (ds_ret (de_callA T.al_table_metrics c_table hrc_table tk (da_cons (de_meth c_Font_metric_values hrc_Font_metric_values tk (dv 0) (da_cons (dv 1) (da_nil))) (da_cons (de_ix (de_con T.c_LIMITS) (dv 1)) (da_nil)))))
theorem ok_law {P : Program} {w : World} {K : PySem.W.Frag} {mg : Str → Option Value} {base : Heap} {fd : FuncData} (T : Tx K mg) (F : FunD K "law" "law" (defArgs s_law) (defBody s_law) (defScope s_law) [] [] (He.ga K "law") fd) (c__law_stream : Callee P w K mg base "_law_stream" 1 ["_law_cell_here"] sp__law_stream) (c__law_next : Callee P w K mg base "_law_next" 1 ["_law_stream_here", "_law_size"] sp__law_next) (c_Font___init__ : CalleeI P w K mg base "Font" 1 ["self", "characters", "steps", "labels"] sp_Font___init__) (c__law_kern : Callee P w K mg base "_law_kern" 1 ["_law_steps", "_law_labels", "_law_left", "_law_right"] sp__law_kern) (c_Font_width : CalleeM P w K mg base "Font" "width" 7 ["self", "codes"] sp_Font_width) (c__law_refuses : Callee P w K mg base "_law_refuses" 6 ["_law_font", "_law_code"] sp__law_refuses) (c__law_cell : Callee P w K mg base "_law_cell" 1 ["_law_script", "_law_k"] sp__law_cell) (c_Font___contains__ : CalleeM P w K mg base "Font" "__contains__" 1 ["self", "code"] sp_Font___contains__) (c__law_too_long : Callee P w K mg base "_law_too_long" 8 ["_law_font", "_law_codes"] sp__law_too_long) (c_Font___len__ : CalleeM P w K mg base "Font" "__len__" 1 ["self"] sp_Font___len__) (c__law_table : Callee P w K mg base "_law_table" 2 ["_law_values_here", "_law_limit"] sp__law_table) (c_Font_table : CalleeM P w K mg base "Font" "table" 5 ["self", "metric"] sp_Font_table) (c_Font_table_value : CalleeM P w K mg base "Font" "table_value" 5 ["self", "code", "metric"] sp_Font_table_value) (c__law_is_integer : Callee P w K mg base "_law_is_integer" 1 ["_law_actual"] sp__law_is_integer) (c_Font_positions : CalleeM P w K mg base "Font" "positions" 7 ["self", "codes"] sp_Font_positions) (c__law_middle : Callee P w K mg base "_law_middle" 1 ["_law_found", "_law_value"] sp__law_middle) (c_Font_character : CalleeM P w K mg base "Font" "character" 1 ["self", "code"] sp_Font_character) :
    DFn P w K mg base 9 (He.ga K "law") fd ["_law_script"] spLaw := by
  refine fn_ok F sc_law (d := r_law) (fun cdv A outer s H E hr tk po => ?_) p_law
  have hrc__law_stream := hr.mono (j := 1) (by decide)
  have hrc__law_next := hr.mono (j := 1) (by decide)
  have hrc_Font___init__ := hr.mono (j := 2) (by decide)
  have hrc__law_kern := hr.mono (j := 1) (by decide)
  have hrc_Font_width := hr.mono (j := 7) (by decide)
  have hrc__law_refuses := hr.mono (j := 6) (by decide)
  have hrc__law_cell := hr.mono (j := 1) (by decide)
  have hrc_Font___contains__ := hr.mono (j := 2) (by decide)
  have hrc__law_too_long := hr.mono (j := 8) (by decide)
  have hrc_Font___len__ := hr.mono (j := 2) (by decide)
  have hrc__law_table := hr.mono (j := 2) (by decide)
  have hrc_Font_table := hr.mono (j := 5) (by decide)
  have hrc_Font_table_value := hr.mono (j := 5) (by decide)
  have hrc__law_is_integer := hr.mono (j := 1) (by decide)
  have hrc_Font_positions := hr.mono (j := 7) (by decide)
  have hrc__law_middle := hr.mono (j := 1) (by decide)
  have hrc_Font_character := hr.mono (j := 1) (by decide)
  delta r_law r_law_1 r_law_2 r_law_3 r_law_4 r_law_5 r_law_6 r_law_7 r_law_8 r_law_9 r_law_10 r_law_11 r_law_12 r_law_13 r_law_14 r_law_15 r_law_16 r_law_17 r_law_18 r_law_19 r_law_20 r_law_21 r_law_22 r_law_21t r_law_20t r_law_18b r_law_18b_1 r_law_18b_2 r_law_13b r_law_13b_1 r_law_13b_2 r_law_13b_3 r_law_13b_3b r_law_13b_3b_1 r_law_13b_3b_2 r_law_13b_3b_2t r_law_13b_3b_1t r_law_13b_2t r_law_11t r_law_9b r_law_9b_1 r_law_6b r_law_6b_1 r_law_6b_2 r_law_2t
  exact dss_cons (ds_set 1 sc_law.nd (de_call c__law_stream hrc__law_stream tk (da_cons (de_call c__law_cell hrc__law_cell tk (da_cons (dv 0) (da_cons (de_int) (da_nil)))) (da_nil)))) (dss_cons (ds_set 2 sc_law.nd (de_call c__law_next hrc__law_next tk (da_cons (dv 1) (da_cons (de_int) (da_nil))))) (dss_cons (ds_if (dt_cmp (do_eq hr.units) (de_call c__law_next hrc__law_next tk (da_cons (dv 1) (da_cons (de_int) (da_nil)))) (de_int)) (dss_one (ds_set 2 sc_law.nd (de_call c__law_next hrc__law_next tk (da_cons (dv 1) (da_cons (de_int) (da_nil)))))) (dss_nil)) (dss_cons (ds_set 3 sc_law.nd (de_call c__law_next hrc__law_next tk (da_cons (dv 1) (da_cons (de_int) (da_nil))))) (dss_cons (ds_set 4 sc_law.nd (de_lc (own := [("_law_metric", 5)]) rfl sc_law.nd (di_rng1 T.m_range (da_cons (de_int) (da_nil))) (L2.blkOk_by (N := N_law) (sc := defScope s_law) (by decide +kernel)) (fun _ _ _ _ _ => dgv_name 5 sc_law.nd) (fun _ _ _ _ _ => dts_nil) (fun _ _ _ _ _ => de_ix (de_lst (da_cons (de_int) (da_cons (de_int) (da_nil)))) (de_call c__law_next hrc__law_next takes0 (da_cons (dv 1) (da_cons (de_int) (da_nil))))))) (dss_cons (ds_set 6 sc_law.nd (de_lstM (da_nil))) (dss_cons (ds_for po (di_rng1 T.m_range (da_cons (dv 2) (da_nil))) (dg_name 7 sc_law.nd) (dss_cons (ds_set 8 sc_law.nd (de_call c__law_stream hrc__law_stream tk (da_cons (de_call c__law_cell hrc__law_cell tk (da_cons (dv 0) (da_cons (de_op do_add (dv 7) (de_int)) (da_nil)))) (da_nil)))) (dss_cons (ds_set 9 sc_law.nd (de_callTy dc_tuple T.m_tuple (by decide +kernel) (da_cons (de_lc (own := [("_law_metric", 5)]) rfl sc_law.nd (di_rng1 T.m_range (da_cons (de_int) (da_nil))) (L2.blkOk_by (N := N_law) (sc := defScope s_law) (by decide +kernel)) (fun _ _ _ _ _ => dgv_name 5 sc_law.nd) (fun _ _ _ _ _ => dts_nil) (fun _ _ _ _ _ => de_call c__law_next hrc__law_next takes0 (da_cons (dv 8) (da_cons (de_op do_add (de_ix (dv 4) (dv 5)) (de_int)) (da_nil))))) (da_nil)))) (dss_one (ds_expr (de_bm PySem.F.plainAttrs_list PySem.F.slot_list_append PySem.F.type_list_append dm_append (dv 6) (da_cons (de_tup (da_cons (de_op do_add (dv 3) (dv 7)) (da_cons (de_int) (da_cons (de_int) (da_cons (de_tup (da_nil)) (da_cons (dv 9) (da_nil))))))) (da_nil)))))))) (dss_cons (ds_set 10 sc_law.nd (de_lstM (da_nil))) (dss_cons (ds_set 11 sc_law.nd (de_lstM (da_nil))) (dss_cons (ds_for po (di_rng1 T.m_range (da_cons (de_call c__law_next hrc__law_next tk (da_cons (dv 1) (da_cons (de_int) (da_nil)))) (da_nil))) (dg_name 7 sc_law.nd) (dss_cons (ds_expr (de_bm PySem.F.plainAttrs_list PySem.F.slot_list_append PySem.F.type_list_append dm_append (dv 10) (da_cons (de_tup (da_cons (de_op do_add (dv 3) (de_call c__law_next hrc__law_next tk (da_cons (dv 1) (da_cons (de_int) (da_nil))))) (da_cons (de_tup (da_cons (de_str) (da_cons (de_op do_sub (de_call c__law_next hrc__law_next tk (da_cons (dv 1) (da_cons (de_int) (da_nil)))) (de_int)) (da_nil)))) (da_cons (de_bl) (da_nil))))) (da_nil)))) (dss_one (ds_expr (de_bm PySem.F.plainAttrs_list PySem.F.slot_list_append PySem.F.type_list_append dm_append (dv 11) (da_cons (de_tup (da_cons (de_op do_add (dv 3) (de_op do_mul (de_int) (dv 7))) (da_cons (dv 7) (da_nil)))) (da_nil))))))) (dss_cons (ds_set 12 sc_law.nd (de_make c_Font___init__ hrc_Font___init__ tk (da_cons (de_callTy dc_tuple T.m_tuple (by decide +kernel) (da_cons (dv 6) (da_nil))) (da_cons (de_callTy dc_tuple T.m_tuple (by decide +kernel) (da_cons (dv 10) (da_nil))) (da_cons (de_callTy dc_tuple T.m_tuple (by decide +kernel) (da_cons (dv 11) (da_nil))) (da_nil)))))) (dss_cons (ds_if (DW.dt (dw_or (dt_cmp (do_ne hr.units) (de_callB (dc_lenO c_Font___len__ hrc_Font___len__) T.m_len boot_len (da_cons (dv 12) (da_nil))) (dv 2)) (dw_or (dt_cmp (do_ne hr.units) (de_lc (own := [("_law_told", 13)]) rfl sc_law.nd (di_own (it_Font T) (hr.mono (by decide)) (dv 12)) (L2.blkOk_by (N := N_law) (sc := defScope s_law) (by decide +kernel)) (fun _ _ _ _ _ => dgv_name 13 sc_law.nd) (fun _ _ _ _ _ => dts_nil) (fun _ _ _ _ _ => dv 13)) (dv 6)) (dw_or1 (dt_cmp (do_inO c_Font___contains__ hrc_Font___contains__) (de_op do_add (dv 3) (dv 2)) (dv 12)))))) (dss_one (ds_ret (de_bl))) (dss_nil)) (dss_cons (ds_set 14 sc_law.nd (de_lstM (da_nil))) (dss_cons (ds_for po (di_rng1 T.m_range (da_cons (de_int) (da_nil))) (dg_name 5 sc_law.nd) (dss_cons (ds_setLc (i := 15) (own := [("_law_character", 16)]) rfl sc_law.nd rfl rfl (L2.sw_true rfl rfl rfl (by decide +kernel)) (di_seq (dv 6)) (L2.blkOk_by (N := N_law) (sc := defScope s_law) (by decide +kernel)) (fun _ _ _ _ _ => dgv_name 16 sc_law.nd) (fun _ _ _ _ _ => dts_nil) (fun _ _ _ _ _ => de_ix (de_ix (dv 16) (de_int)) (dv 5))) (dss_cons (ds_expr (de_bm PySem.F.plainAttrs_list PySem.F.slot_list_append PySem.F.type_list_append dm_append (dv 14) (da_cons (de_call c__law_table hrc__law_table tk (da_cons (dv 15) (da_cons (de_ix (de_lst (da_cons (de_int) (da_cons (de_int) (da_cons (de_int) (da_cons (de_int) (da_nil)))))) (dv 5)) (da_nil)))) (da_nil)))) (dss_cons (ds_if (dt_cmp (do_ne hr.units) (de_meth c_Font_table hrc_Font_table tk (dv 12) (da_cons (dv 5) (da_nil))) (de_op do_add (de_lst (da_cons (de_int) (da_nil))) (de_lc (own := [("_law_least", 17), ("_law_greatest", 18)]) rfl sc_law.nd (di_seq (de_ix (dv 14) (dv 5))) (L2.blkOk_by (N := N_law) (sc := defScope s_law) (by decide +kernel)) (fun _ _ _ _ _ => dgv_tup rfl (dgvs_cons (dgv_name 17 sc_law.nd) (dgvs_cons (dgv_name 18 sc_law.nd) (dgvs_nil)))) (fun _ _ _ _ _ => dts_nil) (fun _ _ _ _ _ => de_op do_div (de_op do_add (dv 17) (dv 18)) (de_int))))) (dss_one (ds_ret (de_bl))) (dss_nil)) (dss_one (ds_for po (di_seq (dv 6)) (dg_name 16 sc_law.nd) (dss_cons (ds_set 13 sc_law.nd (de_meth c_Font_table_value hrc_Font_table_value tk (dv 12) (da_cons (de_ix (dv 16) (de_int)) (da_cons (dv 5) (da_nil))))) (dss_cons (ds_if (DW.dt (dw_or (dt_not (dt_tru (de_call c__law_is_integer hrc__law_is_integer tk (da_cons (dv 13) (da_nil))))) (dw_or1 (dt_cmp (do_ne hr.units) (dv 13) (de_call c__law_middle hrc__law_middle tk (da_cons (de_ix (dv 14) (dv 5)) (da_cons (de_ix (de_ix (dv 16) (de_int)) (dv 5)) (da_nil)))))))) (dss_one (ds_ret (de_bl))) (dss_nil)) (dss_one (ds_if (DW.dt (dw_or (dt_cmp (do_ne hr.units) (de_meth c_Font_character hrc_Font_character tk (dv 12) (da_cons (de_ix (dv 16) (de_int)) (da_nil))) (dv 16)) (dw_or1 (dt_cmp (do_notInO c_Font___contains__ hrc_Font___contains__) (de_ix (dv 16) (de_int)) (dv 12))))) (dss_one (ds_ret (de_bl))) (dss_nil))))))))))) (dss_cons (ds_set 19 sc_law.nd (de_call c__law_stream hrc__law_stream tk (da_cons (de_call c__law_cell hrc__law_cell tk (da_cons (dv 0) (da_cons (de_int) (da_nil)))) (da_nil)))) (dss_cons (ds_set 20 sc_law.nd (de_lc (own := [("_law_k", 7)]) rfl sc_law.nd (di_rng1 T.m_range (da_cons (de_call c__law_next hrc__law_next tk (da_cons (dv 19) (da_cons (de_int) (da_nil)))) (da_nil))) (L2.blkOk_by (N := N_law) (sc := defScope s_law) (by decide +kernel)) (fun _ _ _ _ _ => dgv_name 7 sc_law.nd) (fun _ _ _ _ _ => dts_nil) (fun _ _ _ _ _ => de_op do_mod (de_callTy dc_int T.m_int (by decide +kernel) (da_cons (de_op do_add (dv 3) (de_call c__law_next hrc__law_next takes0 (da_cons (dv 19) (da_cons (de_op do_add (dv 2) (de_int)) (da_nil))))) (da_nil))) (de_int)))) (dss_cons (ds_set 21 sc_law.nd (de_call c__law_kern hrc__law_kern tk (da_cons (dv 10) (da_cons (dv 11) (da_cons (de_int) (da_cons (de_int) (da_nil))))))) (dss_cons (ds_set 22 sc_law.nd (de_lstM (da_nil))) (dss_cons (ds_for po (di_rng1 T.m_range (da_cons (de_callB dc_len T.m_len boot_len (da_cons (dv 20) (da_nil))) (da_nil))) (dg_name 7 sc_law.nd) (dss_cons (ds_expr (de_bm PySem.F.plainAttrs_list PySem.F.slot_list_append PySem.F.type_list_append dm_append (dv 22) (da_cons (dv 21) (da_nil)))) (dss_cons (ds_set 8 sc_law.nd (de_lc (own := [("_law_character", 16)]) rfl sc_law.nd (di_seq (dv 6)) (L2.blkOk_by (N := N_law) (sc := defScope s_law) (by decide +kernel)) (fun _ _ _ _ _ => dgv_name 16 sc_law.nd) (fun _ _ _ _ _ => dts_one (dt_cmp (do_eq hr.units) (de_ix (dv 16) (de_int)) (de_ix (dv 20) (dv 7)))) (fun _ _ _ _ _ => de_ix (de_ix (dv 16) (de_int)) (de_int)))) (dss_one (ds_set 21 sc_law.nd (de_op do_add (de_op do_add (dv 21) (de_call c__law_middle hrc__law_middle tk (da_cons (de_ix (dv 14) (de_int)) (da_cons (de_callB (dc_sum rfl) T.m_sum (by decide +kernel) (da_cons (dv 8) (da_nil))) (da_nil))))) (de_call c__law_kern hrc__law_kern tk (da_cons (dv 10) (da_cons (dv 11) (da_cons (de_ix (dv 20) (dv 7)) (da_cons (de_ix (de_op do_add (dv 20) (de_lst (da_cons (de_int) (da_nil)))) (de_op do_add (dv 7) (de_int))) (da_nil)))))))))))) (dss_cons (ds_set 23 sc_law.nd (de_meth c_Font_width hrc_Font_width tk (dv 12) (da_cons (de_callTy dc_list T.m_list (by decide +kernel) (da_cons (dv 20) (da_nil))) (da_nil)))) (dss_cons (ds_if (DW.dt (dw_or (dt_not (dt_tru (de_call c__law_is_integer hrc__law_is_integer tk (da_cons (dv 23) (da_nil))))) (dw_or (dt_cmp (do_ne hr.units) (dv 23) (dv 21)) (dw_or1 (dt_cmp (do_ne hr.units) (de_meth c_Font_positions hrc_Font_positions tk (dv 12) (da_cons (de_callTy dc_list T.m_list (by decide +kernel) (da_cons (dv 20) (da_nil))) (da_nil))) (dv 22)))))) (dss_one (ds_ret (de_bl))) (dss_nil)) (dss_cons (ds_if (dt_not (dt_tru (de_call c__law_too_long hrc__law_too_long tk (da_cons (dv 12) (da_cons (de_op do_mul (de_lst (da_cons (dv 3) (da_nil))) (de_op do_add (de_int) (de_call c__law_next hrc__law_next tk (da_cons (dv 1) (da_cons (de_int) (da_nil)))))) (da_nil)))))) (dss_one (ds_ret (de_bl))) (dss_nil)) (dss_one (ds_ret (de_call c__law_refuses hrc__law_refuses tk (da_cons (dv 12) (da_cons (de_op do_add (dv 3) (dv 2)) (da_nil)))))))))))))))))))))))))))
def looseN : List Str := (["FontError", "OutOfRange", "TooLong", "EndlessPair", "LIMITS", "ascending", "groups", "least_tolerance", "table", "table_metrics", "table_value", "table_value_metrics", "EDGE", "rule", "plain_end", "settle", "settled_ends", "ruled_pairs", "endless_pairs", "ROW_LIMIT"] : List Str) ++ (["Row", "set_line", "WIDTH", "Font", "_law_cell", "_law_stream", "_law_next", "_law_is_integer", "_law_values", "_law_ascending", "_law_greedy", "_law_table", "_law_middle", "_law_refuses", "_law_too_long", "_law_kern"] : List Str)
abbrev R : PySem.W.OpenRow := PySem.W.OpenLaw.row PySem.Challenge.rw_fontwinding_k65_widths_and_positions
abbrev hk : PySem.W.Hook := hookM 4 fas fns
def ob (s : PySem.W.SharedT) : AlM := obsMG 4 fas fns (HandSHeadRun.getT s)
theorem ob_eq (s : PySem.W.SharedT) : ob s = hk.obs s.abs := obsMG_eq (HandSHeadRun.getT_eq s)
theorem run (w : World) : HandSHeadRun.RunEq R (PySem.W.view R.prog [42]) hk ob 6000 looseN w := by
  intro os
  kernel_rfl
theorem law_end {w : World} {mg : Str → Option Value} {h : Heap} {K : PySem.W.Frag} {a : Addr} (X : K.In h) (G : h.Ns mainGlobals mg) (c : SaysM fas fns K) (hmg : mg "law" = some (.ref a)) :
    ∃ fd : FuncData, (∀ (s : Shared) (u : Value), BindsTo s fd ⟨[u], []⟩ [("_law_script", u)]) ∧ ∀ base : Heap, K.In base → base.Ns mainGlobals mg → DFn PySem.Challenge.rw_fontwinding_k65_widths_and_positions.prog w K mg base 9 a fd ["_law_script"] spLaw := by
  have T := tx_of X G c
  have e : a = He.ga K "law" := by
    have z := hmg.symm.trans T.g_law
    cases z
    rfl
  subst e
  obtain ⟨fd, F⟩ := T.F_law
  have b := FunD.bindsA (ps := ["_law_script"]) F fun _ _ _ _ _ _ us hl => match us, hl with | [_], _ => rfl
  refine ⟨fd, fun s v => b s [v] rfl, fun base _ _ => ?_⟩
  have c_ascending := ok_ascending (P := PySem.Challenge.rw_fontwinding_k65_widths_and_positions.prog) (w := w) (base := base) T
  have c_groups := ok_groups (P := PySem.Challenge.rw_fontwinding_k65_widths_and_positions.prog) (w := w) (base := base) T c_ascending
  have c_least_tolerance := ok_least_tolerance (P := PySem.Challenge.rw_fontwinding_k65_widths_and_positions.prog) (w := w) (base := base) T c_ascending c_groups
  have c_table := ok_table (P := PySem.Challenge.rw_fontwinding_k65_widths_and_positions.prog) (w := w) (base := base) T c_least_tolerance c_groups
  have c_table_value := ok_table_value (P := PySem.Challenge.rw_fontwinding_k65_widths_and_positions.prog) (w := w) (base := base) T c_least_tolerance c_groups
  have c_rule := ok_rule (P := PySem.Challenge.rw_fontwinding_k65_widths_and_positions.prog) (w := w) (base := base) T
  have c_plain_end := ok_plain_end (P := PySem.Challenge.rw_fontwinding_k65_widths_and_positions.prog) (w := w) (base := base) T
  have c_settle := ok_settle (P := PySem.Challenge.rw_fontwinding_k65_widths_and_positions.prog) (w := w) (base := base) T c_plain_end
  have c_settled_ends := ok_settled_ends (P := PySem.Challenge.rw_fontwinding_k65_widths_and_positions.prog) (w := w) (base := base) T c_settle c_rule
  have c_ruled_pairs := ok_ruled_pairs (P := PySem.Challenge.rw_fontwinding_k65_widths_and_positions.prog) (w := w) (base := base) T
  have c_endless_pairs := ok_endless_pairs (P := PySem.Challenge.rw_fontwinding_k65_widths_and_positions.prog) (w := w) (base := base) T c_ruled_pairs c_settled_ends
  have c_Row___init__ := ok_Row___init__ (P := PySem.Challenge.rw_fontwinding_k65_widths_and_positions.prog) (w := w) (base := base) T
  have c_Row_glyphs_and_kerns := ok_Row_glyphs_and_kerns (P := PySem.Challenge.rw_fontwinding_k65_widths_and_positions.prog) (w := w) (base := base) T
  have c_Row_is_done := ok_Row_is_done (P := PySem.Challenge.rw_fontwinding_k65_widths_and_positions.prog) (w := w) (base := base) T
  have c_Row_kern := ok_Row_kern (P := PySem.Challenge.rw_fontwinding_k65_widths_and_positions.prog) (w := w) (base := base) T
  have c_Row_ligature := ok_Row_ligature (P := PySem.Challenge.rw_fontwinding_k65_widths_and_positions.prog) (w := w) (base := base) T
  have c_set_line := ok_set_line (P := PySem.Challenge.rw_fontwinding_k65_widths_and_positions.prog) (w := w) (base := base) T c_Row___init__ c_Row_glyphs_and_kerns c_Row_is_done c_rule c_endless_pairs c_Row_kern c_Row_ligature
  have c__law_cell := ok__law_cell (P := PySem.Challenge.rw_fontwinding_k65_widths_and_positions.prog) (w := w) (base := base) T
  have c__law_stream := ok__law_stream (P := PySem.Challenge.rw_fontwinding_k65_widths_and_positions.prog) (w := w) (base := base) T
  have c__law_next := ok__law_next (P := PySem.Challenge.rw_fontwinding_k65_widths_and_positions.prog) (w := w) (base := base) T
  have c__law_is_integer := ok__law_is_integer (P := PySem.Challenge.rw_fontwinding_k65_widths_and_positions.prog) (w := w) (base := base) T
  have c__law_ascending := ok__law_ascending (P := PySem.Challenge.rw_fontwinding_k65_widths_and_positions.prog) (w := w) (base := base) T
  have c__law_greedy := ok__law_greedy (P := PySem.Challenge.rw_fontwinding_k65_widths_and_positions.prog) (w := w) (base := base) T
  have c__law_table := ok__law_table (P := PySem.Challenge.rw_fontwinding_k65_widths_and_positions.prog) (w := w) (base := base) T c__law_ascending c__law_greedy
  have c__law_middle := ok__law_middle (P := PySem.Challenge.rw_fontwinding_k65_widths_and_positions.prog) (w := w) (base := base) T
  have c_Font_character := ok_Font_character (P := PySem.Challenge.rw_fontwinding_k65_widths_and_positions.prog) (w := w) (base := base) T
  have c_Font_metric_values := ok_Font_metric_values (P := PySem.Challenge.rw_fontwinding_k65_widths_and_positions.prog) (w := w) (base := base) T
  have c_Font_table_value := ok_Font_table_value (P := PySem.Challenge.rw_fontwinding_k65_widths_and_positions.prog) (w := w) (base := base) T c_table_value c_Font_metric_values c_Font_character
  have c_Font_pixel := ok_Font_pixel (P := PySem.Challenge.rw_fontwinding_k65_widths_and_positions.prog) (w := w) (base := base) T c_Font_character
  have c__law_refuses := ok__law_refuses (P := PySem.Challenge.rw_fontwinding_k65_widths_and_positions.prog) (w := w) (base := base) T c_Font_character c_Font_table_value c_Font_pixel
  have c_Font_line := ok_Font_line (P := PySem.Challenge.rw_fontwinding_k65_widths_and_positions.prog) (w := w) (base := base) T c_set_line
  have c_Font___contains__ := ok_Font___contains__ (P := PySem.Challenge.rw_fontwinding_k65_widths_and_positions.prog) (w := w) (base := base) T
  have c_Font_glyph_width := ok_Font_glyph_width (P := PySem.Challenge.rw_fontwinding_k65_widths_and_positions.prog) (w := w) (base := base) T c_Font___contains__ c_Font_table_value
  have c_Font_width := ok_Font_width (P := PySem.Challenge.rw_fontwinding_k65_widths_and_positions.prog) (w := w) (base := base) T c_Font_line c_Font_glyph_width
  have c_Font_positions := ok_Font_positions (P := PySem.Challenge.rw_fontwinding_k65_widths_and_positions.prog) (w := w) (base := base) T c_Font_line c_Font_glyph_width
  have c__law_too_long := ok__law_too_long (P := PySem.Challenge.rw_fontwinding_k65_widths_and_positions.prog) (w := w) (base := base) T c_Font_line c_Font_width c_Font_positions
  have c__law_kern := ok__law_kern (P := PySem.Challenge.rw_fontwinding_k65_widths_and_positions.prog) (w := w) (base := base) T
  have c_Font___init__ := ok_Font___init__ (P := PySem.Challenge.rw_fontwinding_k65_widths_and_positions.prog) (w := w) (base := base) T
  have c_Font___len__ := ok_Font___len__ (P := PySem.Challenge.rw_fontwinding_k65_widths_and_positions.prog) (w := w) (base := base) T
  have c_Font_table := ok_Font_table (P := PySem.Challenge.rw_fontwinding_k65_widths_and_positions.prog) (w := w) (base := base) T c_table c_Font_metric_values
  exact ok_law T F c__law_stream c__law_next c_Font___init__ c__law_kern c_Font_width c__law_refuses c__law_cell c_Font___contains__ c__law_too_long c_Font___len__ c__law_table c_Font_table c_Font_table_value c__law_is_integer c_Font_positions c__law_middle c_Font_character
end Lk65
open PySem PySem.W PySem.Calls PyProof.Rows
set_option maxHeartbeats 0 in
theorem PySem.Challenge.cw_fontwinding_k65_widths_and_positions_holds : PySem.Challenge.rw_fontwinding_k65_widths_and_positions.Holds := by
  w_on; o_law
  refine HandSHeadRun.head_any (r := OpenLaw.row PySem.Challenge.rw_fontwinding_k65_widths_and_positions) (q := view (OpenLaw.row PySem.Challenge.rw_fontwinding_k65_widths_and_positions).prog [42]) (H := Lk65.hk) (ob := Lk65.ob) (M := 6000) (loose := Lk65.looseN) (d := HandSHeadRun.topDef (OpenLaw.row PySem.Challenge.rw_fontwinding_k65_widths_and_positions).prog 42) (kwd := []) Lk65.ob_eq
    (by kernel_rfl) (fun s => by kernel_rfl) Lk65.run (by kernel_rfl) (by kernel_rfl) (by kernel_rfl) (by rfl) (by first | assumption | decide +kernel) (by decide +kernel) ⟨rfl, rfl, rfl, rfl, rfl, by decide +kernel⟩ ?hw ?hc
  case hw => w_witness2
  case hc =>
    refine Dl.walk_dl (l := PySem.Challenge.rw_fontwinding_k65_widths_and_positions) (k := 9) (x := "_law_script") (by kernel_rfl) (by kernel_rfl) ⟨rfl, by decide, by decide⟩ fun w mg h K a KX G c hmg0 => ?_
    have hmg : mg ("law" : PySem.Str) = some (.ref a) := by
      have e : (HandSHeadRun.topDef (OpenLaw.row PySem.Challenge.rw_fontwinding_k65_widths_and_positions).prog 42).name = ("law" : PySem.Str) := by kernel_rfl
      rw [← e]
      exact hmg0
    exact Lk65.law_end KX G c hmg
