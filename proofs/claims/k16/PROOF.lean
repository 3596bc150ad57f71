import PyProof.Rows.All
import Wide.All
import OpenK.AllK
import Wide.FinOn
import HandS.ForMost
import HandS.ForExc
import HandS.Wide
import HandS.HeadWalk
import HandS.HeadHook2
import HandS.Defaults
import HandS.Gcd
import HandS.IsInst
import HandS.ExcIs
import HandS.Conv
import HandS.TupAny
import HandS.TupMul
import HandS.CallSlots
import HandS.NoneIn
import HandS.TryOnly
import HandS.Head2
import HandS.Style
import HandS.TryMany
import KE.KRevSl
import HandS.Head3
import PySem.Challenge.RW_fontwinding_k16_joined_points
set_option Elab.async false
set_option linter.all false
set_option maxRecDepth 100000
set_option maxHeartbeats 4000000
/-! The data layer: tuples and frozen lists as values, over the hand layer. -/
namespace Dl
open PySem PySem.Spec PyProof.Rows L2
set_option autoImplicit false
abbrev St := L2.St

/-- a datum: what a value is, without addresses (but for the lists and instances that may still change) -/
inductive D where
  | non | bl (b : Bool) | int (i : Int) | str (x : Str) | ref (a : Addr) | ty (n : String)
  | tup (ds : List D) | lst (ds : List D) | strm | glo (x : Str) | scr (ns : List Int)

/-- what never changes any more; a law's stream -/
inductive FO where
  | ob (o : HO) | strm
abbrev Fp := Addr → Option FO
def toH (F : Fp) : Hp := fun a => match F a with
  | some (.ob o) => some o
  | _ => none
def fupd (F : Fp) (a : Addr) (o : FO) : Fp := fun b => if b = a then some o else F b
theorem fupd_same {F : Fp} {a : Addr} {o : FO} : fupd F a o a = some o := by unfold fupd; rw [if_pos rfl]
theorem fupd_ne {F : Fp} {a b : Addr} {o : FO} (h : b ≠ a) : fupd F a o b = F b := by unfold fupd; rw [if_neg h]
theorem toH_at {F : Fp} {a : Addr} {o : HO} (h : F a = some (.ob o)) : toH F a = some o := by unfold toH; rw [h]
theorem of_toH {F : Fp} {a : Addr} {o : HO} (h : toH F a = some o) : F a = some (.ob o) := by
  unfold toH at h
  split at h
  · rename_i q e
    cases h
    exact e
  · cases h
def FSame (F F' : Fp) : Prop := ∀ a o, F a = some o → F' a = some o
theorem FSame.refl (F : Fp) : FSame F F := fun _ _ h => h
theorem FSame.trans {F F1 F2 : Fp} (a : FSame F F1) (b : FSame F1 F2) : FSame F F2 := fun c o h => b c o (a c o h)
theorem FSame.upd {F : Fp} {a : Addr} {o : FO} (h : F a = none) : FSame F (fupd F a o) := fun b u e => by
  by_cases q : b = a
  · rw [q, h] at e
    cases e
  · rw [fupd_ne q]
    exact e
theorem FSame.toH {F F' : Fp} (h : FSame F F') : Same (toH F) (toH F') := fun a o e => toH_at (h a _ (of_toH e))
theorem same_t {K : PySem.W.Frag} {H H' : Hp} {a : Addr} {xs : List V} (e : Same H H') (h : SqT K H a xs) : SqT K H' a xs := by
  rcases h with (h | ⟨o, h⟩) | h
  · exact .inl (.inl (e _ _ h))
  · exact .inl (.inr ⟨o, e _ _ h⟩)
  · exact .inr h

mutual
inductive Rep (K : PySem.W.Frag) (F : Fp) : V → D → Prop
  | non : Rep K F .non .non
  | bl (b : Bool) : Rep K F (.bl b) (.bl b)
  | int (i : Int) : Rep K F (.int i) (.int i)
  | str (x : Str) : Rep K F (.str x) (.str x)
  | ty (n : String) : Rep K F (.ty n) (.ty n)
  | ref (a : Addr) : Rep K F (.ref a) (.ref a)
  | glo (x : Str) : Rep K F (.ref (He.ga K x)) (.glo x)
  | strm {a : Addr} : F a = some .strm → Rep K F (.ref a) .strm
  | tup {a : Addr} {xs : List V} {ds : List D} : SqT K (toH F) a xs → RepL K F xs ds → Rep K F (.ref a) (.tup ds)
  | lst {a : Addr} {xs : List V} {ds : List D} : F a = some (.ob (.lst xs)) → RepL K F xs ds → Rep K F (.ref a) (.lst ds)
  | scr {a : Addr} {ns : List Int} : SqL K (toH F) a (ns.map V.int) → Rep K F (.ref a) (.scr ns)
inductive RepL (K : PySem.W.Frag) (F : Fp) : List V → List D → Prop
  | nil : RepL K F [] []
  | cons {x : V} {d : D} {xs : List V} {ds : List D} : Rep K F x d → RepL K F xs ds → RepL K F (x :: xs) (d :: ds)
end

mutual
theorem Rep.mono {K : PySem.W.Frag} {F F' : Fp} (e : FSame F F') : ∀ {x : V} {d : D}, Rep K F x d → Rep K F' x d
  | _, _, .non => .non
  | _, _, .bl b => .bl b
  | _, _, .int i => .int i
  | _, _, .str x => .str x
  | _, _, .ty n => .ty n
  | _, _, .ref a => .ref a
  | _, _, .glo x => .glo x
  | _, _, .strm h => .strm (e _ _ h)
  | _, _, .tup s r => .tup (same_t e.toH s) (RepL.mono e r)
  | _, _, .lst s r => .lst (e _ _ s) (RepL.mono e r)
  | _, _, .scr s => .scr (e.toH.seq s)
theorem RepL.mono {K : PySem.W.Frag} {F F' : Fp} (e : FSame F F') : ∀ {xs : List V} {ds : List D}, RepL K F xs ds → RepL K F' xs ds
  | _, _, .nil => .nil
  | _, _, .cons h r => .cons (Rep.mono e h) (RepL.mono e r)
end
section
variable {K : PySem.W.Frag} {F : Fp}
theorem RepL.length : ∀ {xs : List V} {ds : List D}, RepL K F xs ds → xs.length = ds.length
  | _, _, .nil => rfl
  | _, _, .cons _ r => by rw [List.length_cons, List.length_cons, RepL.length r]
theorem RepL.get : ∀ {xs : List V} {ds : List D} {i : Nat} {d : D}, RepL K F xs ds → ds[i]? = some d → ∃ x, xs[i]? = some x ∧ Rep K F x d
  | _, _, _, _, .nil, e => by simp at e
  | _, _, 0, _, .cons h _, e => by
    simp at e
    subst e
    exact ⟨_, rfl, h⟩
  | _, _, i + 1, _, .cons _ r, e => by
    obtain ⟨x, h1, h2⟩ := RepL.get (i := i) r (by simpa using e)
    exact ⟨x, by simpa using h1, h2⟩
theorem RepL.get' : ∀ {xs : List V} {ds : List D} {i : Nat} {x : V}, RepL K F xs ds → xs[i]? = some x → ∃ d, ds[i]? = some d ∧ Rep K F x d
  | _, _, _, _, .nil, e => by simp at e
  | _, _, 0, _, .cons h _, e => by
    simp at e
    subst e
    exact ⟨_, rfl, h⟩
  | _, _, i + 1, _, .cons _ r, e => by
    obtain ⟨d, h1, h2⟩ := RepL.get' (i := i) r (by simpa using e)
    exact ⟨d, by simpa using h1, h2⟩
theorem RepL.append : ∀ {xs ys : List V} {ds es : List D}, RepL K F xs ds → RepL K F ys es → RepL K F (xs ++ ys) (ds ++ es)
  | _, _, _, _, .nil, s => s
  | _, _, _, _, .cons h r, s => .cons h (RepL.append r s)
theorem RepL.take : ∀ {xs : List V} {ds : List D} (n : Nat), RepL K F xs ds → RepL K F (xs.take n) (ds.take n)
  | _, _, 0, _ => .nil
  | _, _, _ + 1, .nil => .nil
  | _, _, n + 1, .cons h r => .cons h (RepL.take n r)
theorem RepL.drop : ∀ {xs : List V} {ds : List D} (n : Nat), RepL K F xs ds → RepL K F (xs.drop n) (ds.drop n)
  | _, _, 0, r => r
  | _, _, _ + 1, .nil => .nil
  | _, _, n + 1, .cons _ r => RepL.drop n r
theorem RepL.set {x : V} {d : D} (h : Rep K F x d) : ∀ {xs : List V} {ds : List D} (i : Nat), RepL K F xs ds → RepL K F (xs.set i x) (ds.set i d)
  | _, _, _, .nil => .nil
  | _, _, 0, .cons _ r => .cons h r
  | _, _, i + 1, .cons q r => .cons q (RepL.set h i r)
theorem RepL.dropLast {xs : List V} {ds : List D} (r : RepL K F xs ds) : RepL K F xs.dropLast ds.dropLast := by
  rw [List.dropLast_eq_take, List.dropLast_eq_take, r.length]
  exact r.take _
theorem RepL.reverse : ∀ {xs : List V} {ds : List D}, RepL K F xs ds → RepL K F xs.reverse ds.reverse
  | _, _, .nil => .nil
  | _, _, .cons h r => by
    rw [List.reverse_cons, List.reverse_cons]
    exact RepL.append (RepL.reverse r) (.cons h .nil)
theorem RepL.rep {x : V} {d : D} (h : Rep K F x d) : ∀ (n : Nat), RepL K F (List.replicate n x) (List.replicate n d)
  | 0 => .nil
  | n + 1 => .cons h (RepL.rep h n)
theorem repl_int : ∀ {xs : List V} {ns : List Int}, RepL K F xs (ns.map D.int) → xs = ns.map V.int
  | [], [], _ => rfl
  | [], _ :: _, h => nomatch h
  | _ :: _, [], h => nomatch h
  | x :: xs, n :: ns, h => by
    cases h with
    | cons h r =>
      cases h
      rw [repl_int r]
      rfl
theorem repl_of_int : ∀ (ns : List Int), RepL K F (ns.map V.int) (ns.map D.int)
  | [] => .nil
  | n :: r => .cons (.int n) (repl_of_int r)
end

/-! ### what may change: lists, instances -/
inductive GO where
  | lst (ds : List D) | ins (c : Str) (fs : List (Str × D))
abbrev Gp := Addr → Option GO
def gupd (G : Gp) (a : Addr) (o : GO) : Gp := fun b => if b = a then some o else G b
def gdel (G : Gp) (a : Addr) : Gp := fun b => if b = a then none else G b
theorem gupd_same {G : Gp} {a : Addr} {o : GO} : gupd G a o a = some o := by unfold gupd; rw [if_pos rfl]
theorem gupd_ne {G : Gp} {a b : Addr} {o : GO} (h : b ≠ a) : gupd G a o b = G b := by unfold gupd; rw [if_neg h]
theorem gdel_ne {G : Gp} {a b : Addr} (h : b ≠ a) : gdel G a b = G b := by unfold gdel; rw [if_neg h]
theorem gdel_same {G : Gp} {a : Addr} : gdel G a a = none := by unfold gdel; rw [if_pos rfl]
theorem gupd_gupd {G : Gp} {a : Addr} {o u : GO} : gupd (gupd G a o) a u = gupd G a u := by
  funext b; unfold gupd; split <;> rfl
theorem gdel_gupd {G : Gp} {a : Addr} {o : GO} (h : G a = none) : gdel (gupd G a o) a = G := by
  funext b
  unfold gdel gupd
  by_cases q : b = a
  · rw [if_pos q, q, h]
  · rw [if_neg q, if_neg q]
def GSub (G G' : Gp) : Prop := ∀ a g, G a = some g → G' a = some g
theorem GSub.refl (G : Gp) : GSub G G := fun _ _ h => h
theorem GSub.trans {G G1 G2 : Gp} (a : GSub G G1) (b : GSub G1 G2) : GSub G G2 := fun c o h => b c o (a c o h)
theorem gne {G : Gp} {a b : Addr} {g : GO} (h : G a = some g) (h' : G b = none) : a ≠ b := fun e => by
  rw [e, h'] at h
  cases h
theorem GSub.upd {G G' : Gp} {a : Addr} {o : GO} (s : GSub G G') (h : G a = none) : GSub G (gupd G' a o) := fun b g e => by
  rw [gupd_ne (gne e h)]
  exact s b g e
theorem GSub.del {G G' : Gp} {a : Addr} (s : GSub G G') (h : G a = none) : GSub G (gdel G' a) := fun b g e => by
  rw [gdel_ne (gne e h)]
  exact s b g e
theorem GSub.free {G G' : Gp} {a : Addr} (s : GSub G G') (h : G' a = none) : G a = none := by
  cases q : G a with
  | none => rfl
  | some g =>
    rw [s a g q] at h
    cases h

def RepF (K : PySem.W.Frag) (F : Fp) (vs : List (Str × V)) (fs : List (Str × D)) : Prop := vs.map (·.1) = fs.map (·.1) ∧ RepL K F (vs.map (·.2)) (fs.map (·.2))
theorem RepF.mono {K : PySem.W.Frag} {F F' : Fp} {vs : List (Str × V)} {fs : List (Str × D)} (e : FSame F F') (h : RepF K F vs fs) : RepF K F' vs fs := ⟨h.1, h.2.mono e⟩

def GOk (K : PySem.W.Frag) (F : Fp) (H : Hp) (a : Addr) : GO → Prop
  | .lst ds => ∃ xs, H a = some (.lst xs) ∧ RepL K F xs ds
  | .ins c fs => ∃ dx vs, H a = some (.ins (He.ga K c) dx vs) ∧ RepF K F vs fs
theorem GOk.mono {K : PySem.W.Frag} {F F' : Fp} {H H' : Hp} {a : Addr} {g : GO} (e : FSame F F') (hh : ∀ o, H a = some o → H' a = some o) (h : GOk K F H a g) : GOk K F' H' a g := by
  cases g with
  | lst ds =>
    obtain ⟨xs, h1, h2⟩ := h
    exact ⟨xs, hh _ h1, h2.mono e⟩
  | ins c fs =>
    obtain ⟨dx, vs, h1, h2⟩ := h
    exact ⟨dx, vs, hh _ h1, h2.mono e⟩
/-- the law's stream: three ints, the first one of bounded size -/
def StrmAt (H : Hp) (a : Addr) : Prop := ∃ x k y : Int, H a = some (.lst [.int x, .int k, .int y])

structure RS (K : PySem.W.Frag) (F : Fp) (H : Hp) (G : Gp) : Prop where
  fr : ∀ a o, F a = some (.ob o) → H a = some o
  st : ∀ a, F a = some .strm → StrmAt H a
  gf : ∀ a g, G a = some g → F a = none ∧ GOk K F H a g
section
variable {K : PySem.W.Frag} {F : Fp} {H : Hp} {G : Gp}
theorem RS.same (r : RS K F H G) : Same (toH F) H := fun a o e => r.fr a o (of_toH e)
theorem RS.free (r : RS K F H G) {a : Addr} (h : H a = none) : F a = none ∧ G a = none := by
  refine ⟨?_, ?_⟩
  · cases q : F a with
    | none => rfl
    | some o =>
      cases o with
      | ob o =>
        rw [r.fr a o q] at h
        cases h
      | strm =>
        obtain ⟨x, k, y, e⟩ := r.st a q
        rw [e] at h
        cases h
  · cases q : G a with
    | none => rfl
    | some g =>
      have z := (r.gf a g q).2
      cases g with
      | lst ds =>
        obtain ⟨xs, e, _⟩ := z
        rw [e] at h
        cases h
      | ins c fs =>
        obtain ⟨dx, vs, e, _⟩ := z
        rw [e] at h
        cases h
theorem RS.sub {G' : Gp} (r : RS K F H G) (s : GSub G' G) : RS K F H G' := ⟨r.fr, r.st, fun a g e => r.gf a g (s a g e)⟩
/-- a new frozen object -/
theorem RS.newF (r : RS K F H G) {p : Addr} (h : H p = none) (o : HO) : RS K (fupd F p (.ob o)) (upd H p o) G ∧ FSame F (fupd F p (.ob o)) := by
  obtain ⟨hF, hG⟩ := r.free h
  have e := FSame.upd (F := F) (a := p) (o := .ob o) hF
  refine ⟨⟨fun a u q => ?_, fun a q => ?_, fun a g q => ?_⟩, e⟩
  · by_cases z : a = p
    · subst z
      rw [fupd_same] at q
      cases q
      exact upd_same
    · rw [fupd_ne z] at q
      rw [upd_ne z]
      exact r.fr a u q
  · by_cases z : a = p
    · subst z
      rw [fupd_same] at q
      cases q
    · rw [fupd_ne z] at q
      obtain ⟨x, k, y, w⟩ := r.st a q
      exact ⟨x, k, y, by rw [upd_ne z]; exact w⟩
  · have z : a ≠ p := gne q hG
    obtain ⟨h1, h2⟩ := r.gf a g q
    exact ⟨by rw [fupd_ne z]; exact h1, h2.mono e fun o w => by rw [upd_ne z]; exact w⟩
/-- a new stream -/
theorem RS.newS (r : RS K F H G) {p : Addr} (h : H p = none) (x k y : Int) : RS K (fupd F p .strm) (upd H p (.lst [.int x, .int k, .int y])) G ∧ FSame F (fupd F p .strm) := by
  obtain ⟨hF, hG⟩ := r.free h
  have e := FSame.upd (F := F) (a := p) (o := .strm) hF
  refine ⟨⟨fun a u q => ?_, fun a q => ?_, fun a g q => ?_⟩, e⟩
  · by_cases z : a = p
    · subst z
      rw [fupd_same] at q
      cases q
    · rw [fupd_ne z] at q
      rw [upd_ne z]
      exact r.fr a u q
  · by_cases z : a = p
    · subst z
      exact ⟨x, k, y, upd_same⟩
    · rw [fupd_ne z] at q
      obtain ⟨x, k, y, w⟩ := r.st a q
      exact ⟨x, k, y, by rw [upd_ne z]; exact w⟩
  · have z : a ≠ p := gne q hG
    obtain ⟨h1, h2⟩ := r.gf a g q
    exact ⟨by rw [fupd_ne z]; exact h1, h2.mono e fun o w => by rw [upd_ne z]; exact w⟩
/-- a stream turns -/
theorem RS.turnS (r : RS K F H G) {p : Addr} (h : F p = some .strm) (x k y : Int) : RS K F (upd H p (.lst [.int x, .int k, .int y])) G := by
  refine ⟨fun a u q => ?_, fun a q => ?_, fun a g q => ?_⟩
  · have z : a ≠ p := fun e => by
      rw [e, h] at q
      cases q
    rw [upd_ne z]
    exact r.fr a u q
  · by_cases z : a = p
    · subst z
      exact ⟨x, k, y, upd_same⟩
    · obtain ⟨x, k, y, w⟩ := r.st a q
      exact ⟨x, k, y, by rw [upd_ne z]; exact w⟩
  · obtain ⟨h1, h2⟩ := r.gf a g q
    have z : a ≠ p := fun e => by
      rw [e, h] at h1
      cases h1
    exact ⟨h1, h2.mono (FSame.refl F) fun o w => by rw [upd_ne z]; exact w⟩
/-- a new object that may change -/
theorem RS.newG (r : RS K F H G) {p : Addr} (h : H p = none) {o : HO} {g : GO} (ok : GOk K F (upd H p o) p g) : RS K F (upd H p o) (gupd G p g) := by
  obtain ⟨hF, hG⟩ := r.free h
  refine ⟨fun a u q => ?_, fun a q => ?_, fun a u q => ?_⟩
  · have w := r.fr a u q
    rw [upd_ne (ne_of_none w h)]
    exact w
  · obtain ⟨x, k, y, w⟩ := r.st a q
    exact ⟨x, k, y, by rw [upd_ne (ne_of_none w h)]; exact w⟩
  · by_cases z : a = p
    · subst z
      rw [gupd_same] at q
      cases q
      exact ⟨hF, ok⟩
    · rw [gupd_ne z] at q
      obtain ⟨h1, h2⟩ := r.gf a u q
      exact ⟨h1, h2.mono (FSame.refl F) fun o w => by rw [upd_ne z]; exact w⟩
/-- an object that may change does -/
theorem RS.setG (r : RS K F H G) {p : Addr} {g0 : GO} (h : G p = some g0) {o : HO} {g : GO} (ok : GOk K F (upd H p o) p g) : RS K F (upd H p o) (gupd G p g) := by
  have hF := (r.gf p g0 h).1
  refine ⟨fun a u q => ?_, fun a q => ?_, fun a u q => ?_⟩
  · have z : a ≠ p := fun e => by
      rw [e, hF] at q
      cases q
    rw [upd_ne z]
    exact r.fr a u q
  · have z : a ≠ p := fun e => by
      rw [e, hF] at q
      cases q
    obtain ⟨x, k, y, w⟩ := r.st a q
    exact ⟨x, k, y, by rw [upd_ne z]; exact w⟩
  · by_cases z : a = p
    · subst z
      rw [gupd_same] at q
      cases q
      exact ⟨hF, ok⟩
    · rw [gupd_ne z] at q
      obtain ⟨h1, h2⟩ := r.gf a u q
      exact ⟨h1, h2.mono (FSame.refl F) fun o w => by rw [upd_ne z]; exact w⟩
/-- a list that will not change any more -/
theorem RS.freeze (r : RS K F H G) {p : Addr} {ds : List D} (h : G p = some (.lst ds)) : ∃ F', FSame F F' ∧ RS K F' H (gdel G p) ∧ Rep K F' (.ref p) (.lst ds) := by
  obtain ⟨hF, xs, hH, rl⟩ := r.gf p _ h
  have e := FSame.upd (F := F) (a := p) (o := .ob (.lst xs)) hF
  refine ⟨fupd F p (.ob (.lst xs)), e, ⟨fun a u q => ?_, fun a q => ?_, fun a g q => ?_⟩, .lst fupd_same (rl.mono e)⟩
  · by_cases z : a = p
    · subst z
      rw [fupd_same] at q
      cases q
      exact hH
    · rw [fupd_ne z] at q
      exact r.fr a u q
  · by_cases z : a = p
    · subst z
      rw [fupd_same] at q
      cases q
    · rw [fupd_ne z] at q
      exact r.st a q
  · by_cases z : a = p
    · subst z
      rw [gdel_same] at q
      cases q
    · rw [gdel_ne z] at q
      obtain ⟨h1, h2⟩ := r.gf a g q
      exact ⟨by rw [fupd_ne z]; exact h1, h2.mono e fun o w => w⟩
end

/-! ### states, ends -/
abbrev DSt := List (Option D)
inductive RepO (K : PySem.W.Frag) (F : Fp) : Option V → Option D → Prop
  | none {x : Option V} : RepO K F x none
  | some {v : V} {d : D} : Rep K F v d → RepO K F (some v) (some d)
structure RepSt (K : PySem.W.Frag) (F : Fp) (σ : St) (s : DSt) : Prop where
  len : σ.length = s.length
  at_ : ∀ (i : Nat) (d : D), s[i]? = some (some d) → ∃ v, σ[i]? = some (some v) ∧ Rep K F v d
section
variable {K : PySem.W.Frag} {F F' : Fp} {σ : St} {s : DSt}
theorem RepSt.mono (e : FSame F F') (r : RepSt K F σ s) : RepSt K F' σ s := ⟨r.len, fun i d h => by
  obtain ⟨v, h1, h2⟩ := r.at_ i d h
  exact ⟨v, h1, h2.mono e⟩⟩
theorem RepSt.set {v : V} {d : D} (r : RepSt K F σ s) (i : Nat) (h : Rep K F v d) : RepSt K F (σ.set i (some v)) (s.set i (some d)) := by
  refine ⟨by rw [List.length_set, List.length_set, r.len], fun j x q => ?_⟩
  by_cases z : i = j
  · subst z
    by_cases l : i < s.length
    · rw [List.getElem?_set_self l] at q
      cases q
      exact ⟨v, List.getElem?_set_self (by rw [r.len]; exact l), h⟩
    · rw [List.getElem?_eq_none (by rw [List.length_set]; omega)] at q
      cases q
  · rw [List.getElem?_set_ne z] at q
    rw [List.getElem?_set_ne z]
    exact r.at_ j x q
theorem RepSt.clear (r : RepSt K F σ s) (i : Nat) (v : Option V) : RepSt K F (σ.set i v) (s.set i none) := by
  refine ⟨by rw [List.length_set, List.length_set, r.len], fun j x q => ?_⟩
  by_cases z : i = j
  · subst z
    by_cases l : i < s.length
    · rw [List.getElem?_set_self l] at q
      cases q
    · rw [List.getElem?_eq_none (by rw [List.length_set]; omega)] at q
      cases q
  · rw [List.getElem?_set_ne z] at q
    rw [List.getElem?_set_ne z]
    exact r.at_ j x q
theorem RepSt.start : ∀ {vs : List V} {ds : List D}, RepL K F vs ds → ∀ n : Nat, RepSt K F (vs.map some ++ List.replicate n none) (ds.map some ++ List.replicate n none) := fun {vs ds} r n => by
  refine ⟨by simp [r.length], fun i d h => ?_⟩
  by_cases l : i < ds.length
  · rw [List.getElem?_append_left (by simpa using l), List.getElem?_map] at h
    obtain ⟨d', e1, e2⟩ := Option.map_eq_some_iff.mp h
    cases e2
    obtain ⟨x, h1, h2⟩ := r.get e1
    refine ⟨x, ?_, h2⟩
    rw [List.getElem?_append_left (by simpa [r.length] using l), List.getElem?_map, h1]
    rfl
  · rw [List.getElem?_append_right (by simpa using Nat.le_of_not_lt l)] at h
    rw [List.getElem?_replicate] at h
    split at h <;> cases h
end

/-- an exception: its class by the module's name, its own dict -/
structure Exn where
  cls : Str
  fs : Option (List (Str × D)) := none
def RepX (K : PySem.W.Frag) (F : Fp) (cls : Value) (dd : Option Addr) (e : Exn) : Prop :=
  cls = .ref (He.ga K e.cls) ∧ match e.fs with
    | none => dd = none
    | some fs => ∃ a vs, dd = some a ∧ F a = some (.ob (.xd vs)) ∧ RepF K F vs fs
theorem RepX.mono {K : PySem.W.Frag} {F F' : Fp} {cls : Value} {dd : Option Addr} {e : Exn} (h : FSame F F') (r : RepX K F cls dd e) : RepX K F' cls dd e := by
  obtain ⟨c, fs⟩ := e
  obtain ⟨h1, h2⟩ := r
  refine ⟨h1, ?_⟩
  cases fs with
  | none => exact h2
  | some fs =>
    obtain ⟨a, vs, e1, e2, e3⟩ := h2
    exact ⟨a, vs, e1, h _ _ e2, e3.mono h⟩

abbrev DK := D → Gp → Prop
abbrev DX := Exn → Gp → Prop
abbrev DTE := DSt → Gp → DK → DX → Prop
abbrev DTT := DSt → Gp → (Bool → Gp → Prop) → DX → Prop
abbrev DTA := DSt → Gp → (List D → Gp → Prop) → DX → Prop
structure DEnds where
  nx : DSt → Gp → Prop
  rt : DK
  ex : Exn → DSt → Gp → Prop
  bk : DSt → Gp → Prop
  ct : DSt → Gp → Prop
abbrev DTS := DEnds → DSt → Gp → Prop

section
variable (K : PySem.W.Frag) (F : Fp)
def Cont (Qd : DK) (Q : VK) : Prop := ∀ F' H' G' v x, FSame F F' → RS K F' H' G' → Rep K F' v x → Qd x G' → Q v H'
def ContT (Qd : Bool → Gp → Prop) (Q : Bool → Hp → Prop) : Prop := ∀ F' H' G' b, FSame F F' → RS K F' H' G' → Qd b G' → Q b H'
def ContA (Qd : List D → Gp → Prop) (Q : List V → Hp → Prop) : Prop := ∀ F' H' G' vs xs, FSame F F' → RS K F' H' G' → RepL K F' vs xs → Qd xs G' → Q vs H'
def ContS (Qd : DSt → Gp → Prop) (Q : St → Hp → Prop) : Prop := ∀ F' H' G' σ s, FSame F F' → RS K F' H' G' → RepSt K F' σ s → Qd s G' → Q σ H'
def ContX (W : WX) (σ : St) (Ed : DX) : Prop := ∀ F' H' G' cls dd e, FSame F F' → RS K F' H' G' → RepX K F' cls dd e → Ed e G' → W cls dd σ H'
def ContXS (W : WX) (Ed : Exn → DSt → Gp → Prop) : Prop := ∀ F' H' G' cls dd e σ s, FSame F F' → RS K F' H' G' → RepX K F' cls dd e → RepSt K F' σ s → Ed e s G' → W cls dd σ H'
end
section
variable {K : PySem.W.Frag} {F F1 : Fp}
theorem Cont.mono (e : FSame F F1) {Qd : DK} {Q : VK} (c : Cont K F Qd Q) : Cont K F1 Qd Q := fun F' H' G' v x h => c F' H' G' v x (e.trans h)
theorem ContT.mono (e : FSame F F1) {Qd : Bool → Gp → Prop} {Q : Bool → Hp → Prop} (c : ContT K F Qd Q) : ContT K F1 Qd Q := fun F' H' G' v h => c F' H' G' v (e.trans h)
theorem ContA.mono (e : FSame F F1) {Qd : List D → Gp → Prop} {Q : List V → Hp → Prop} (c : ContA K F Qd Q) : ContA K F1 Qd Q := fun F' H' G' v x h => c F' H' G' v x (e.trans h)
theorem ContS.mono (e : FSame F F1) {Qd : DSt → Gp → Prop} {Q : St → Hp → Prop} (c : ContS K F Qd Q) : ContS K F1 Qd Q := fun F' H' G' v x h => c F' H' G' v x (e.trans h)
theorem ContX.mono (e : FSame F F1) {W : WX} {σ : St} {Ed : DX} (c : ContX K F W σ Ed) : ContX K F1 W σ Ed := fun F' H' G' v x y h => c F' H' G' v x y (e.trans h)
theorem ContXS.mono (e : FSame F F1) {W : WX} {Ed : Exn → DSt → Gp → Prop} (c : ContXS K F W Ed) : ContXS K F1 W Ed := fun F' H' G' v x y z u h => c F' H' G' v x y z u (e.trans h)
theorem ContXS.at_ {W : WX} {σ : St} {s : DSt} {Ed : Exn → DSt → Gp → Prop} (c : ContXS K F W Ed) (r : RepSt K F σ s) : ContX K F W σ fun x G => Ed x s G := fun F' H' G' cls dd x h rs rx q => c F' H' G' cls dd x σ s h rs rx (r.mono h) q
end
structure EndsR (K : PySem.W.Frag) (F : Fp) (W : WX) (Dd : DEnds) (E : Ends) : Prop where
  nx : ContS K F Dd.nx E.nx
  rt : Cont K F Dd.rt E.rt
  ex : ContXS K F W Dd.ex
  bk : ContS K F Dd.bk E.bk
  ct : ContS K F Dd.ct E.ct
theorem EndsR.mono {K : PySem.W.Frag} {F F1 : Fp} {W : WX} {Dd : DEnds} {E : Ends} (e : FSame F F1) (r : EndsR K F W Dd E) : EndsR K F1 W Dd E := ⟨r.nx.mono e, r.rt.mono e, r.ex.mono e, r.bk.mono e, r.ct.mono e⟩

/-! ### adequacy -/
def AE (K : PySem.W.Frag) (W : WX) (t : TE) (d : DTE) : Prop := ∀ F σ H s G Qd Ed Q, RS K F H G → RepSt K F σ s → d s G Qd Ed → Cont K F Qd Q → ContX K F W σ Ed → t σ H Q
def AT (K : PySem.W.Frag) (W : WX) (t : TT) (d : DTT) : Prop := ∀ F σ H s G Qd Ed Q, RS K F H G → RepSt K F σ s → d s G Qd Ed → ContT K F Qd Q → ContX K F W σ Ed → t σ H Q
def AA (K : PySem.W.Frag) (W : WX) (t : TA) (d : DTA) : Prop := ∀ F σ H s G Qd Ed Q, RS K F H G → RepSt K F σ s → d s G Qd Ed → ContA K F Qd Q → ContX K F W σ Ed → t σ H Q
def AS (K : PySem.W.Frag) (W : WX) (t : TS) (d : DTS) : Prop := ∀ F σ H s G Dd E, RS K F H G → RepSt K F σ s → d Dd s G → EndsR K F W Dd E → t E σ H
structure DE (X : Cx) (W : WX) (e : Expr) (d : DTE) : Prop where
  ex : ∃ t, PE X e t ∧ AE X.K W t d
structure DT (X : Cx) (W : WX) (e : Expr) (d : DTT) : Prop where
  ex : ∃ t, PT X e t ∧ AT X.K W t d
structure DW (X : Cx) (W : WX) (e : Expr) (d : DTT) : Prop where
  ex : ∃ t, PW X e t ∧ AT X.K W t d
structure DA (X : Cx) (W : WX) (es : List Expr) (d : DTA) : Prop where
  ex : ∃ t, PA X es t ∧ AA X.K W t d
structure DS (X : Cx) (W : WX) (st : Stmt) (d : DTS) : Prop where
  ex : ∃ t, PS X st t ∧ AS X.K W t d
structure DSs (X : Cx) (W : WX) (st : List Stmt) (d : DTS) : Prop where
  ex : ∃ t, PSs X st t ∧ AS X.K W t d

/-! ### functions -/
abbrev DSp := List D → Gp → DK → DX → Prop
def lift (K : PySem.W.Frag) (sp : DSp) : Sp := fun vs H Q E => ∃ F G ds Qd Ed, RS K F H G ∧ RepL K F vs ds ∧ sp ds G Qd Ed ∧ Cont K F Qd Q ∧ ContX K F (fun cls dd _ H' => E cls dd H') [] Ed
/-- less may be told of what may change -/
def dn (Q : DK) : DK := fun d G' => ∃ G0, GSub G0 G' ∧ Q d G0
def dnX (E : DX) : DX := fun e G' => ∃ G0, GSub G0 G' ∧ E e G0
abbrev dstart (n : Nat) (ds : List D) : DSt := ds.map some ++ List.replicate (n - ds.length) none
theorem dn_of {Q : DK} {d : D} {G G' : Gp} (s : GSub G G') (h : Q d G) : dn Q d G' := ⟨G, s, h⟩
theorem dn_id {Q : DK} {d : D} {G : Gp} (h : Q d G) : dn Q d G := ⟨G, GSub.refl G, h⟩
theorem dnX_id {E : DX} {e : Exn} {G : Gp} (h : E e G) : dnX E e G := ⟨G, GSub.refl G, h⟩
abbrev fEnds (Q : DK) (E : DX) : DEnds := { nx := fun _ G => dn Q .non G, rt := dn Q, ex := fun e _ G => dnX E e G, bk := fun _ _ => False, ct := fun _ _ => False }
abbrev WF (E : XK) : WX := fun cls d _ H => E cls d H
section
variable {P : Program} {w : World} {K : PySem.W.Frag} {mg : Str → Option Value} {base : Heap}
abbrev DFn (P : Program) (w : World) (K : PySem.W.Frag) (mg : Str → Option Value) (base : Heap) (k : Nat) (f : Addr) (fd : FuncData) (ps : List Str) (sp : DSp) : Prop := FnOk P w K mg base (L2.CX P w) k f fd ps (lift K sp)
theorem fn_ok {x qual : Str} {params : Arguments} {body : List Stmt} {scope : Scope} {dvs : List V} {kws : List (Str × V)} {f : Addr} {fd : FuncData} {N ps : List Str} {k : Nat} {sp : DSp} {d : DTS}
    (F : FunD K x qual params body scope dvs kws f fd) (S : FnScope N ps scope)
    (hb : ∀ (cdv : Value) (A : Around) (outer : List Env) (s : Shared) (H : Hp) (E : XK), Room k (A.deeper (envOfC qual scope s.heap.objs.size f cdv)) →
      Takes (cxOf (L2.CX P w) P w K mg base N qual scope f cdv A outer s H E) (WF E) → PassesOwn (model P w) (A.deeper (envOfC qual scope s.heap.objs.size f cdv)) (envOfC qual scope s.heap.objs.size f cdv) (cxOf (L2.CX P w) P w K mg base N qual scope f cdv A outer s H E).xe →
      DSs (cxOf (L2.CX P w) P w K mg base N qual scope f cdv A outer s H E) (WF E) body d)
    (hp : ∀ ds G Q E, sp ds G Q E → ds.length = ps.length ∧ d (fEnds Q E) (dstart N.length ds) G) : DFn P w K mg base (k + 1) f fd ps sp := by
  refine F.ok S (fun vs H Q E h => ?_) (fun cdv A outer s H vs Q E hr h => ?_)
  · obtain ⟨F, G, ds, Qd, Ed, rs, rl, q, _⟩ := h
    rw [rl.length]
    exact (hp _ _ _ _ q).1
  · obtain ⟨Fr, G, ds, Qd, Ed, rs, rl, q, c, cx⟩ := h
    obtain ⟨t, ht, ha⟩ := (hb cdv A outer s H E hr (takes_of rfl rfl rfl rfl) (passes_of rfl)).ex
    refine ⟨t, ht, ha Fr _ H (dstart N.length ds) G (fEnds Qd Ed) _ rs ?_ (hp _ _ _ _ q).2 ⟨?_, ?_, ?_, ?_, ?_⟩⟩
    · have z := RepSt.start rl (N.length - ds.length)
      unfold L2.start dstart
      rw [rl.length]
      exact z
    · intro F' H' G' σ s e rs' _ q'
      obtain ⟨G0, s0, q0⟩ := q'
      exact c F' H' G0 .non .non e (rs'.sub s0) .non q0
    · intro F' H' G' v x e rs' rv q'
      obtain ⟨G0, s0, q0⟩ := q'
      exact c F' H' G0 v x e (rs'.sub s0) rv q0
    · intro F' H' G' cls dd x σ s e rs' rx _ q'
      obtain ⟨G0, s0, q0⟩ := q'
      exact cx F' H' G0 cls dd x e (rs'.sub s0) rx q0
    · intro F' H' G' σ s e rs' _ q'
      exact q'.elim
    · intro F' H' G' σ s e rs' _ q'
      exact q'.elim
/-- what a call wants of its callee -/
structure Callee (P : Program) (w : World) (K : PySem.W.Frag) (mg : Str → Option Value) (base : Heap) (x : Str) (k : Nat) (ps : List Str) (sp : DSp) : Prop where
  ex : ∃ fd, DFn P w K mg base k (He.ga K x) fd ps sp ∧ Binds K fd ps []
  g : mg x = some (.ref (He.ga K x))
  kp : PySem.W.keepIn K (.ref (He.ga K x)) = true
end
end Dl
set_option Elab.async false
set_option linter.all false
set_option maxRecDepth 100000
set_option maxHeartbeats 4000000
/-! The data layer: rules of expressions and statements. -/
namespace Dl
open PySem PySem.Spec PyProof.Rows L2
set_option autoImplicit false
section
variable {X : Cx} {W : WX}
/-! ### names, constants -/
abbrev dVar (i : Nat) : DTE := fun s G Q _ => match s[i]? with
  | some (some d) => Q d G
  | _ => False
theorem ae_var {K : PySem.W.Frag} {i : Nat} : AE K W (tVar i) (dVar i) := fun F σ H s G Qd Ed Q rs st h c _ => by
  unfold dVar at h
  split at h
  · rename_i d e
    obtain ⟨v, h1, h2⟩ := st.at_ i d e
    exact ⟨v, h1, c F H G v d (FSame.refl F) rs h2 h⟩
  · exact h.elim
theorem dv (i : Nat) {x : Str} {pos : Pos} (hN : X.N[i]? = some x := by rfl) (hv : Vis X.env.scope x := by first | exact Or.inl rfl | exact Or.inr (Or.inl rfl) | exact Or.inr (Or.inr rfl)) (hd : (x == ("__debug__" : Str)) = false := by decide)
    (hcd : (x == ("__classdict__" : Str)) = false := by decide) : DE X W (.Name x pos) (dVar i) := ⟨⟨_, pe_var hN hv hd hcd, ae_var⟩⟩
abbrev dC (d : D) : DTE := fun _ G Q _ => Q d G
theorem ae_c {K : PySem.W.Frag} {v : V} {d : D} (h : ∀ F, Rep K F v d) : AE K W (tC v) (dC d) := fun F σ H s G Qd Ed Q rs st q c _ => c F H G v d (FSame.refl F) rs (h F) q
theorem de_int {i : Int} {j : Nat} {pos : Pos} : DE X W (.Constant (.int i) j pos) (dC (.int i)) := ⟨⟨_, pe_int, ae_c fun _ => .int i⟩⟩
theorem de_bl {b : Bool} {j : Nat} {pos : Pos} : DE X W (.Constant (.bool b) j pos) (dC (.bl b)) := ⟨⟨_, pe_bl, ae_c fun _ => .bl b⟩⟩
theorem de_non {j : Nat} {pos : Pos} : DE X W (.Constant .none j pos) (dC .non) := ⟨⟨_, pe_non, ae_c fun _ => .non⟩⟩
theorem de_str {x : Str} {j : Nat} {pos : Pos} : DE X W (.Constant (.str x) j pos) (dC (.str x)) := ⟨⟨_, pe_str, ae_c fun _ => .str x⟩⟩
/-- a module's constant -/
def GloV (K : PySem.W.Frag) (u : Value) (d : D) : Prop := ∃ v, RelV v u ∧ ∀ F, Rep K F v d
theorem de_glob {x : Str} {u : Value} {d : D} {pos : Pos} (hm : X.mg x = some u) (r : GloV X.K u d) (hg : Gl X x := by rfl) (hd : (x == ("__debug__" : Str)) = false := by decide) : DE X W (.Name x pos) (dC d) := by
  obtain ⟨v, h1, h2⟩ := r
  exact ⟨⟨_, pe_glob hg hm h1 hd, ae_c h2⟩⟩
/-- a built-in class, as a value -/
theorem de_ty {x : Str} {n : String} {pos : Pos} (hm : X.mg x = none) (hv : bootBuiltins x = some (.type n)) (hg : Gl X x := by rfl) (hn : x ≠ "__name__" := by decide) (hd : (x == ("__debug__" : Str)) = false := by decide) : DE X W (.Name x pos) (dC (.ty n)) :=
  ⟨⟨_, pe_bltn (v := .ty n) hg hm hv rfl hn hd, ae_c fun _ => .ty n⟩⟩

/-! ### operators by values -/
abbrev G2 := D → D → Gp → DK → Prop
def OpA (K : PySem.W.Frag) (r : R2) (g : G2) : Prop := ∀ F H G x y dx dy Qd Q, RS K F H G → Rep K F x dx → Rep K F y dy → g dx dy G Qd → Cont K F Qd Q → r x y H Q
structure DOp (X : Cx) (f : Value → Value → Sem Value) (g : G2) : Prop where
  ex : ∃ r, OpR X f r ∧ OpA X.K r g
abbrev dOp (g : G2) (da db : DTE) : DTE := fun s G Q E => da s G (fun x G1 => db s G1 (fun y G2 => g x y G2 Q) E) E
theorem ae_op {K : PySem.W.Frag} {r : R2} {g : G2} {ta tb : TE} {da db : DTE} (hr : OpA K r g) (ha : AE K W ta da) (hb : AE K W tb db) : AE K W (tOp r ta tb) (dOp g da db) := fun F σ H s G Qd Ed Q rs st h c cx =>
  ha F σ H s G _ Ed _ rs st h (fun F1 H1 G1 v x e1 rs1 rv q1 =>
    hb F1 σ H1 s G1 _ Ed _ rs1 (st.mono e1) q1 (fun F2 H2 G2 u y e2 rs2 ru q2 => hr F2 H2 G2 v u x y Qd Q rs2 (rv.mono e2) ru q2 (c.mono (e1.trans e2))) (cx.mono e1)) cx
theorem de_op {op : Operator} {g : G2} {a b : Expr} {da db : DTE} {pos : Pos} (ho : DOp X (binaryOp op) g) (ha : DE X W a da) (hb : DE X W b db) : DE X W (.BinOp a op b pos) (dOp g da db) := by
  obtain ⟨r, h1, h2⟩ := ho
  obtain ⟨ta, p1, a1⟩ := ha
  obtain ⟨tb, p2, a2⟩ := hb
  exact ⟨⟨_, pe_op h1 p1 p2, ae_op h2 a1 a2⟩⟩
theorem de_cmp {op : CmpOp} {g : G2} {a b : Expr} {da db : DTE} {pos : Pos} (ho : DOp X (compareOp op) g) (ha : DE X W a da) (hb : DE X W b db) (hm : behindInMarks op b = false := by first | exact nobehind _ (by decide) (by decide) | rfl) : DE X W (.Compare a [op] [b] pos) (dOp g da db) := by
  obtain ⟨r, h1, h2⟩ := ho
  obtain ⟨ta, p1, a1⟩ := ha
  obtain ⟨tb, p2, a2⟩ := hb
  exact ⟨⟨_, pe_cmpR h1 p1 p2 hm, ae_op h2 a1 a2⟩⟩
/-- a test by a value that is a bool -/
abbrev dTest (d : DTE) : DTT := fun s G Q E => d s G (fun x G1 => match x with
  | .bl b => Q b G1
  | _ => False) E
theorem at_test {K : PySem.W.Frag} {t : TE} {d : DTE} (h : AE K W t d) : AT K W (tTest t) (dTest d) := fun F σ H s G Qd Ed Q rs st q c cx =>
  h F σ H s G _ Ed _ rs st q (fun F1 H1 G1 v x e1 rs1 rv q1 => by
    cases rv with
    | bl b => exact ⟨b, rfl, c F1 H1 G1 b e1 rs1 q1⟩
    | _ => exact q1.elim) cx
theorem at_B {K : PySem.W.Frag} {t : TE} {d : DTE} (h : AE K W t d) : AT K W (tB t) (dTest d) := fun F σ H s G Qd Ed Q rs st q c cx =>
  h F σ H s G _ Ed _ rs st q (fun F1 H1 G1 v x e1 rs1 rv q1 => by
    cases rv with
    | bl b => exact ⟨b, rfl, c F1 H1 G1 b e1 rs1 q1⟩
    | _ => exact q1.elim) cx
theorem dt_cmp {op : CmpOp} {g : G2} {a b : Expr} {da db : DTE} {pos : Pos} (ho : DOp X (compareOp op) g) (ha : DE X W a da) (hb : DE X W b db) (hm : behindInMarks op b = false := by first | exact nobehind _ (by decide) (by decide) | rfl) : DT X W (.Compare a [op] [b] pos) (dTest (dOp g da db)) := by
  obtain ⟨r, h1, h2⟩ := ho
  obtain ⟨ta, p1, a1⟩ := ha
  obtain ⟨tb, p2, a2⟩ := hb
  exact ⟨⟨_, pt_cmpR h1 p1 p2 hm, at_test (ae_op h2 a1 a2)⟩⟩
abbrev dChain (g g' : G2) (da db dc : DTE) : DTE := fun s G Q E => da s G (fun x G1 => db s G1 (fun y G2 => g x y G2 fun z G3 => match z with
  | .bl k => if k = true then dc s G3 (fun w G4 => g' y w G4 Q) E else Q (.bl false) G3
  | _ => False) E) E
theorem ae_chain {K : PySem.W.Frag} {r r' : R2} {g g' : G2} {ta tb tc : TE} {da db dc : DTE} (hr : OpA K r g) (hr' : OpA K r' g') (ha : AE K W ta da) (hb : AE K W tb db) (hc : AE K W tc dc) : AE K W (tChain r r' ta tb tc) (dChain g g' da db dc) := fun F σ H s G Qd Ed Q rs st h c cx =>
  ha F σ H s G _ Ed _ rs st h (fun F1 H1 G1 v x e1 rs1 rv q1 =>
    hb F1 σ H1 s G1 _ Ed _ rs1 (st.mono e1) q1 (fun F2 H2 G2 u y e2 rs2 ru q2 => hr F2 H2 G2 v u x y _ _ rs2 (rv.mono e2) ru q2 fun F3 H3 G3 z k e3 rs3 rz q3 => by
      cases rz with
      | bl b =>
        refine ⟨b, rfl, ?_⟩
        cases b with
        | false => exact c F3 H3 G3 _ _ ((e1.trans e2).trans e3) rs3 (.bl false) q3
        | true => exact hc F3 σ H3 s G3 _ Ed _ rs3 (st.mono ((e1.trans e2).trans e3)) q3 (fun F4 H4 G4 w t e4 rs4 rw q4 => hr' F4 H4 G4 u w y t Qd Q rs4 (ru.mono (e3.trans e4)) rw q4 (c.mono (((e1.trans e2).trans e3).trans e4))) (cx.mono ((e1.trans e2).trans e3))
      | _ => exact q3.elim) (cx.mono e1)) cx
theorem de_chain {op op' : CmpOp} {g g' : G2} {a b c : Expr} {da db dc : DTE} {pos : Pos} (ho : DOp X (compareOp op) g) (ho' : DOp X (compareOp op') g') (ha : DE X W a da) (hb : DE X W b db) (hc : DE X W c dc)
    (hm : lastMarks [op, op'] [b, c] = false := by with_unfolding_all rfl) : DE X W (.Compare a [op, op'] [b, c] pos) (dChain g g' da db dc) := by
  obtain ⟨r, h1, h2⟩ := ho
  obtain ⟨r', h1', h2'⟩ := ho'
  obtain ⟨ta, p1, a1⟩ := ha
  obtain ⟨tb, p2, a2⟩ := hb
  obtain ⟨tc, p3, a3⟩ := hc
  exact ⟨⟨_, pe_chain h1 h1' p1 p2 p3 hm, ae_chain h2 h2' a1 a2 a3⟩⟩
theorem dt_chain {op op' : CmpOp} {g g' : G2} {a b c : Expr} {da db dc : DTE} {pos : Pos} (ho : DOp X (compareOp op) g) (ho' : DOp X (compareOp op') g') (ha : DE X W a da) (hb : DE X W b db) (hc : DE X W c dc)
    (hm : lastMarks [op, op'] [b, c] = false := by with_unfolding_all rfl) : DT X W (.Compare a [op, op'] [b, c] pos) (dTest (dChain g g' da db dc)) := by
  obtain ⟨r, h1, h2⟩ := ho
  obtain ⟨r', h1', h2'⟩ := ho'
  obtain ⟨ta, p1, a1⟩ := ha
  obtain ⟨tb, p2, a2⟩ := hb
  obtain ⟨tc, p3, a3⟩ := hc
  exact ⟨⟨_, pt_chain h1 h1' p1 p2 p3 hm, at_test (ae_chain h2 h2' a1 a2 a3)⟩⟩

/-! the lists that a datum stands for -/
def lv (x : D) (G : Gp) : Option (List D) := match x with
  | .lst ds => some ds
  | .ref a => match G a with
    | some (.lst ds) => some ds
    | _ => none
  | _ => none
theorem lv_at {K : PySem.W.Frag} {F : Fp} {H : Hp} {G : Gp} {v : V} {x : D} {ds : List D} (rs : RS K F H G) (r : Rep K F v x) (h : lv x G = some ds) : ∃ a xs, v = .ref a ∧ H a = some (.lst xs) ∧ RepL K F xs ds := by
  cases x with
  | lst es =>
    have h' : es = ds := Option.some.inj h
    subst h'
    cases r with
    | lst h1 h2 => exact ⟨_, _, rfl, rs.fr _ _ h1, h2⟩
  | ref a =>
    have h' : (match G a with | some (.lst ds) => some ds | _ => none) = some ds := h
    split at h'
    · rename_i es eg
      cases h'
      cases r with
      | ref =>
        obtain ⟨xs, h1, h2⟩ := (rs.gf a _ eg).2
        exact ⟨a, xs, rfl, h1, h2⟩
    · cases h'
  | non => exact nomatch (show (none : Option (List D)) = some ds from h)
  | bl b => exact nomatch (show (none : Option (List D)) = some ds from h)
  | int i => exact nomatch (show (none : Option (List D)) = some ds from h)
  | str i => exact nomatch (show (none : Option (List D)) = some ds from h)
  | ty i => exact nomatch (show (none : Option (List D)) = some ds from h)
  | tup i => exact nomatch (show (none : Option (List D)) = some ds from h)
  | strm => exact nomatch (show (none : Option (List D)) = some ds from h)
  | glo i => exact nomatch (show (none : Option (List D)) = some ds from h)
  | scr i => exact nomatch (show (none : Option (List D)) = some ds from h)

theorem sqt_at {K : PySem.W.Frag} {F : Fp} {H : Hp} {G : Gp} {a : Addr} {xs : List V} (rs : RS K F H G) (h : SqT K (toH F) a xs) : SqT K H a xs := same_t rs.same h
/-- a new tuple, frozen list -/
theorem Cont.tup {K : PySem.W.Frag} {F : Fp} {H : Hp} {G : Gp} {Qd : DK} {Q : VK} {xs : List V} {ds : List D} (c : Cont K F Qd Q) (rs : RS K F H G) (r : RepL K F xs ds) (q : Qd (.tup ds) G) : ∀ p, H p = none → Q (.ref p) (upd H p (.tup xs)) := fun p hp => by
  obtain ⟨h1, h2⟩ := rs.newF hp (.tup xs)
  exact c _ _ G _ _ h2 h1 (.tup (.inl (.inl (toH_at fupd_same))) (r.mono h2)) q
theorem Cont.lst {K : PySem.W.Frag} {F : Fp} {H : Hp} {G : Gp} {Qd : DK} {Q : VK} {xs : List V} {ds : List D} (c : Cont K F Qd Q) (rs : RS K F H G) (r : RepL K F xs ds) (q : Qd (.lst ds) G) : ∀ p, H p = none → Q (.ref p) (upd H p (.lst xs)) := fun p hp => by
  obtain ⟨h1, h2⟩ := rs.newF hp (.lst xs)
  exact c _ _ G _ _ h2 h1 (.lst fupd_same (r.mono h2)) q
theorem Cont.lstM {K : PySem.W.Frag} {F : Fp} {H : Hp} {G : Gp} {Qd : DK} {Q : VK} {xs : List V} {ds : List D} (c : Cont K F Qd Q) (rs : RS K F H G) (r : RepL K F xs ds) (q : ∀ p, G p = none → Qd (.ref p) (gupd G p (.lst ds))) : ∀ p, H p = none → Q (.ref p) (upd H p (.lst xs)) := fun p hp => by
  have h1 := rs.newG hp (o := .lst xs) (g := .lst ds) ⟨xs, upd_same, r⟩
  exact c _ _ _ _ _ (FSame.refl F) h1 (.ref p) (q p (rs.free hp).2)

/-! ints -/
def gI (C : Int → Int → Prop) (f : Int → Int → D) : G2 := fun x y G Q => match x, y with
  | .int i, .int j => C i j ∧ Q (f i j) G
  | _, _ => False
def gI0 (f : Int → Int → D) : G2 := fun x y G Q => match x, y with
  | .int i, .int j => Q (f i j) G
  | _, _ => False
theorem opa_I {K : PySem.W.Frag} {C : Int → Int → Prop} {f : Int → Int → V} {g : Int → Int → D} (h : ∀ F i j, Rep K F (f i j) (g i j)) : OpA K (rI C f) (gI C g) := fun F H G x y dx dy Qd Q rs rx ry q c => by
  cases rx with
  | int i =>
    cases ry with
    | int j => exact ⟨i, j, rfl, rfl, q.1, c F H G _ _ (FSame.refl F) rs (h F i j) q.2⟩
    | _ => exact False.elim q
  | _ => exact False.elim q
theorem opa_I0 {K : PySem.W.Frag} {f : Int → Int → V} {g : Int → Int → D} (h : ∀ F i j, Rep K F (f i j) (g i j)) : OpA K (rI0 f) (gI0 g) := fun F H G x y dx dy Qd Q rs rx ry q c => by
  cases rx with
  | int i =>
    cases ry with
    | int j => exact ⟨i, j, rfl, rfl, c F H G _ _ (FSame.refl F) rs (h F i j) q⟩
    | _ => exact False.elim q
  | _ => exact False.elim q
theorem do_sub : DOp X (binaryOp .Sub) (gI0 fun i j => .int (i - j)) := ⟨⟨_, op_sub, opa_I0 fun _ _ _ => .int _⟩⟩
theorem do_div : DOp X (binaryOp .FloorDiv) (gI CDivW fun i j => .int (i / j)) := ⟨⟨_, op_fdivW, opa_I fun _ _ _ => .int _⟩⟩
theorem do_divN : DOp X (binaryOp .FloorDiv) (gI CDivN fun i j => .int (i.fdiv j)) := ⟨⟨_, op_fdivN, opa_I fun _ _ _ => .int _⟩⟩
theorem do_mod : DOp X (binaryOp .Mod) (gI (fun _ j => 0 < j) fun i j => .int (i % j)) := ⟨⟨_, op_mod, opa_I fun _ _ _ => .int _⟩⟩
theorem do_modN : DOp X (binaryOp .Mod) (gI (fun _ j => j ≠ 0) fun i j => .int (i.fmod j)) := ⟨⟨_, op_modN, opa_I fun _ _ _ => .int _⟩⟩
theorem do_pow : DOp X (binaryOp .Pow) (gI CPow fun i j => .int (i ^ j.toNat)) := ⟨⟨_, op_pow, opa_I fun _ _ _ => .int _⟩⟩
theorem do_lt : DOp X (compareOp .Lt) (gI0 fun i j => .bl (decide (i < j))) := ⟨⟨_, op_lt, opa_I0 fun _ _ _ => .bl _⟩⟩
theorem do_le : DOp X (compareOp .LtE) (gI0 fun i j => .bl (decide (i ≤ j))) := ⟨⟨_, op_le, opa_I0 fun _ _ _ => .bl _⟩⟩
theorem do_gt : DOp X (compareOp .Gt) (gI0 fun i j => .bl (decide (j < i))) := ⟨⟨_, op_gt, opa_I0 fun _ _ _ => .bl _⟩⟩
theorem do_ge : DOp X (compareOp .GtE) (gI0 fun i j => .bl (decide (j ≤ i))) := ⟨⟨_, op_ge, opa_I0 fun _ _ _ => .bl _⟩⟩
/-- an int product; a list, a tuple times an int -/
def CMulD (i j : Int) : Prop := CMulW i j ∨ CMul i j
def gMul : G2 := fun x y G Q => match x, y with
  | .int i, .int j => CMulD i j ∧ Q (.int (i * j)) G
  | .tup ds, .int k => ds ≠ [] ∧ (2 ≤ k ∧ k ≤ 1000) ∧ ds.length ≤ 1000 ∧ Q (.tup (List.replicate k.toNat ds).flatten) G
  | x, .int k => match lv x G with
    | some ds => (-(2 ^ 63) ≤ k ∧ k < 2 ^ 63) ∧ ds.length * k.toNat ≤ sizeLine ∧ Q (.lst (List.replicate k.toNat ds).flatten) G
    | none => False
  | _, _ => False
end
end Dl
set_option Elab.async false
set_option linter.all false
set_option maxRecDepth 100000
set_option maxHeartbeats 4000000
namespace Dl
open PySem PySem.Spec PyProof.Rows L2
set_option autoImplicit false
theorem RepL.flat {K : PySem.W.Frag} {F : Fp} {xs : List V} {ds : List D} (r : RepL K F xs ds) : ∀ n : Nat, RepL K F (List.replicate n xs).flatten (List.replicate n ds).flatten
  | 0 => .nil
  | n + 1 => by
    rw [List.replicate_succ, List.replicate_succ, List.flatten_cons, List.flatten_cons]
    exact RepL.append r (RepL.flat r n)
theorem RepL.nil_iff {K : PySem.W.Frag} {F : Fp} {xs : List V} {ds : List D} (r : RepL K F xs ds) : xs = [] ↔ ds = [] := by
  cases r with
  | nil => simp
  | cons h r => simp
section
variable {X : Cx} {W : WX}
theorem opa_or {K : PySem.W.Frag} {r r' : R2} {g g' : G2} (h1 : OpA K r g) (h2 : OpA K r' g') : OpA K (fun x y H Q => r x y H Q ∨ r' x y H Q) (fun x y G Q => g x y G Q ∨ g' x y G Q) := fun F H G x y dx dy Qd Q rs rx ry q c =>
  q.elim (fun q => .inl (h1 F H G x y dx dy Qd Q rs rx ry q c)) fun q => .inr (h2 F H G x y dx dy Qd Q rs rx ry q c)
theorem DOp.or {f : Value → Value → Sem Value} {g g' : G2} (a : DOp X f g) (b : DOp X f g') : DOp X f (fun x y G Q => g x y G Q ∨ g' x y G Q) := by
  obtain ⟨r, h1, h2⟩ := a
  obtain ⟨r', h1', h2'⟩ := b
  exact ⟨⟨_, h1.or h1', opa_or h2 h2'⟩⟩
theorem DOp.imp {f : Value → Value → Sem Value} {g g' : G2} (a : DOp X f g) (h : ∀ x y G Q, g' x y G Q → g x y G Q) : DOp X f g' := by
  obtain ⟨r, h1, h2⟩ := a
  exact ⟨⟨r, h1, fun F H G x y dx dy Qd Q rs rx ry q c => h2 F H G x y dx dy Qd Q rs rx ry (h _ _ _ _ q) c⟩⟩
theorem do_add0 : DOp X (binaryOp .Add) (gI0 fun i j => .int (i + j)) := ⟨⟨_, op_add, opa_I0 fun _ _ _ => .int _⟩⟩
theorem do_addS : DOp X (binaryOp .Add) (fun x y G Q => match x, y with
  | .str a, .str b => a.length + b.length ≤ sizeLine ∧ Q (.str (a ++ b)) G
  | _, _ => False) := ⟨⟨_, op_add_str, fun F H G x y dx dy Qd Q rs rx ry q c => by
    cases rx with
    | str a =>
      cases ry with
      | str b => exact ⟨a, b, rfl, rfl, q.1, c F H G _ _ (FSame.refl F) rs (.str _) q.2⟩
      | _ => exact False.elim q
    | _ => exact False.elim q⟩⟩
theorem do_addT : DOp X (binaryOp .Add) (fun x y G Q => match x, y with
  | .tup a, .tup b => a.length + b.length ≤ sizeLine ∧ Q (.tup (a ++ b)) G
  | _, _ => False) := ⟨⟨_, op_catA, fun F H G x y dx dy Qd Q rs rx ry q c => by
    cases rx with
    | @tup a xs ds h1 r1 =>
      cases ry with
      | @tup b ys es h2 r2 =>
        refine ⟨a, b, xs, ys, rfl, rfl, same_t rs.same h1, same_t rs.same h2, by rw [r1.length, r2.length]; exact q.1, fun z => ?_, fun _ z => ?_, fun _ _ => c.tup rs (r1.append r2) q.2⟩
        · have z2 := r1.nil_iff.mp z
          subst z2
          exact c F H G _ _ (FSame.refl F) rs (.tup h2 r2) q.2
        · have z2 := r2.nil_iff.mp z
          subst z2
          have q' : Qd (.tup (ds ++ [])) G := q.2
          rw [List.append_nil] at q'
          exact c F H G _ _ (FSame.refl F) rs (.tup h1 r1) q'
      | _ => exact False.elim q
    | _ => exact False.elim q⟩⟩
def gCatL : G2 := fun x y G Q => match lv x G, lv y G with
  | some a, some b => a.length + b.length ≤ sizeLine ∧ Q (.lst (a ++ b)) G
  | _, _ => False
theorem do_addL : DOp X (binaryOp .Add) gCatL := ⟨⟨_, op_cat, fun F H G x y dx dy Qd Q rs rx ry q c => by
    unfold gCatL at q
    split at q
    · rename_i a b ea eb
      obtain ⟨l, xs, rfl, h1, r1⟩ := lv_at rs rx ea
      obtain ⟨m, ys, rfl, h2, r2⟩ := lv_at rs ry eb
      exact ⟨l, m, xs, ys, rfl, rfl, h1, h2, by rw [r1.length, r2.length]; exact q.1, c.lst rs (r1.append r2) q.2⟩
    · exact q.elim⟩⟩
/-- a list + a list that may still change -/
def gCatM : G2 := fun x y G Q => match lv x G, lv y G with
  | some a, some b => a.length + b.length ≤ sizeLine ∧ ∀ p, G p = none → Q (.ref p) (gupd G p (.lst (a ++ b)))
  | _, _ => False
theorem do_addM : DOp X (binaryOp .Add) gCatM := ⟨⟨_, op_cat, fun F H G x y dx dy Qd Q rs rx ry q c => by
    unfold gCatM at q
    split at q
    · rename_i a b ea eb
      obtain ⟨l, xs, rfl, h1, r1⟩ := lv_at rs rx ea
      obtain ⟨m, ys, rfl, h2, r2⟩ := lv_at rs ry eb
      exact ⟨l, m, xs, ys, rfl, rfl, h1, h2, by rw [r1.length, r2.length]; exact q.1, c.lstM rs (r1.append r2) q.2⟩
    · exact q.elim⟩⟩
def gAdd : G2 := fun x y G Q => match x, y with
  | .int i, .int j => Q (.int (i + j)) G
  | .str a, .str b => a.length + b.length ≤ sizeLine ∧ Q (.str (a ++ b)) G
  | .tup a, .tup b => a.length + b.length ≤ sizeLine ∧ Q (.tup (a ++ b)) G
  | x, y => gCatL x y G Q
theorem do_add : DOp X (binaryOp .Add) gAdd := (((do_add0 (X := X)).or do_addS).or (do_addT.or do_addL)).imp fun x y G Q q => by
  unfold gAdd at q
  split at q
  · exact .inl (.inl q)
  · exact .inl (.inr q)
  · exact .inr (.inl q)
  · exact .inr (.inr q)
theorem do_mulI : DOp X (binaryOp .Mult) (gI CMulD fun i j => .int (i * j)) := (DOp.or (g := gI CMulW fun i j => .int (i * j)) (g' := gI CMul fun i j => .int (i * j)) ⟨⟨_, op_mulW, opa_I fun _ _ _ => .int _⟩⟩ ⟨⟨_, op_mul, opa_I fun _ _ _ => .int _⟩⟩).imp fun x y G Q q => by
  unfold gI at q
  split at q
  · exact q.1.elim (fun z => .inl ⟨z, q.2⟩) fun z => .inr ⟨z, q.2⟩
  · exact q.elim
def gRepL : G2 := fun x y G Q => match y with
  | .int k => match lv x G with
    | some ds => (-(2 ^ 63) ≤ k ∧ k < 2 ^ 63) ∧ ds.length * k.toNat ≤ sizeLine ∧ Q (.lst (List.replicate k.toNat ds).flatten) G
    | none => False
  | _ => False
theorem do_repL : DOp X (binaryOp .Mult) gRepL := ⟨⟨_, op_rep, fun F H G x y dx dy Qd Q rs rx ry q c => by
    cases ry with
    | int k =>
      unfold gRepL at q
      dsimp only at q
      split at q
      · rename_i ds e
        obtain ⟨l, xs, rfl, h1, r1⟩ := lv_at rs rx e
        exact ⟨l, k, xs, rfl, rfl, h1, q.1.1, q.1.2, by rw [r1.length]; exact q.2.1, c.lst rs (r1.flat k.toNat) q.2.2⟩
      · exact q.elim
    | _ => exact False.elim q⟩⟩
theorem tup_mul1 (l : Addr) (xs : Array Value) (n : Nat) (dd : Option Addr) (sl : Array (Option Value)) (u : Tok) :
    Meets (Builtin.«tuple.__mul__» ⟨[.ref l, .int 1 u], []⟩) (fun _ R s => s.heap.get? l = some { cls := .type "tuple", dict := dd, data := .seq xs n, slots := sl } ∧ R (.ok (.ret (Value.ref l))) s) := by
  refine .of_wp fun prog w A R s h => ?_
  obtain ⟨hp, g, d, tk, os⟩ := s
  obtain ⟨hl, h⟩ := h
  have f1 := AutoSeq1.idx_int
  wp_walk using wpAny_loadPart' hl
  exact ⟨_, rfl, h⟩
theorem tup_mul0 (l : Addr) (xs : Array Value) (n : Nat) (dd : Option Addr) (sl : Array (Option Value)) (u : Tok) (h0 : xs.isEmpty = false) :
    Meets (Builtin.«tuple.__mul__» ⟨[.ref l, .int 0 u], []⟩) (fun _ R s => s.heap.get? l = some { cls := .type "tuple", dict := dd, data := .seq xs n, slots := sl } ∧
      R (.ok (.ret (Value.ref s.heap.objs.size))) { s with heap := s.heap.push { cls := Value.type "tuple", data := Data.seq #[] }, toks := s.toks }) := by
  refine .of_wp fun prog w A R s h => ?_
  obtain ⟨hp, g, d, tk, os⟩ := s
  obtain ⟨hl, h⟩ := h
  have f1 := AutoSeq1.idx_int
  wp_walk using wpAny_loadPart' hl
  exact ⟨_, rfl, h⟩
def rRep01 (K : PySem.W.Frag) : R2 := fun x y H Q => ∃ l k xs, x = .ref l ∧ y = .int k ∧ SqT K H l xs ∧ xs ≠ [] ∧ ((k = 1 ∧ Q (.ref l) H) ∨ (k = 0 ∧ ∀ p, H p = none → Q (.ref p) (upd H p (.tup []))))
theorem op_rep01 : OpR X (binaryOp .Mult) (rRep01 X.K) := by
  intro pins s σ H x y v u Q I rx ry h
  obtain ⟨l, k, xs, rfl, rfl, hT, hne, q⟩ := h
  cases rx
  obtain ⟨t, rfl⟩ := ry
  obtain ⟨its, r, hl, hs⟩ := I.tuple hT
  obtain ⟨⟨c0, d0, dat, sl⟩, ho, hc, n, hd⟩ := hl
  dsimp only at hc hd
  subst hc hd
  have hi : its.toArray.isEmpty = false := by
    cases its with
    | nil => exact absurd (List.eq_nil_of_length_eq_zero r.length) hne
    | cons a b => rfl
  refine wpAny_binaryOp_repeat_ref (T := "tuple") (U := "int") (by decide) ⟨_, ho, rfl⟩ (fun s' => typeIs_int s' k t) noFill_tuple_mul F.fills_int_mul F.slot_int_rmul repeat_tuple F.slot_int_index.lookup ?_
  refine call_meets F.slot_int_rmul (typeIs_int s k t) F.entry_int_rmul (F.args_int_rmul_2 _ _) (int_rmul_tuple k t l its.toArray n d0 sl) ⟨ho, rfl, ⟨_, ho, rfl⟩, ?_⟩
  rcases q with ⟨rfl, q⟩ | ⟨rfl, q⟩
  · refine call_meets F.slot_tuple_mul ⟨_, ho, rfl⟩ F.entry_tuple_mul (F.args_tuple_mul_2 _ _) (tup_mul1 l its.toArray n d0 sl t) ⟨ho, ?_⟩
    exact ⟨.ref l, H, I, rfl, q⟩
  · refine call_meets F.slot_tuple_mul ⟨_, ho, rfl⟩ F.entry_tuple_mul (F.args_tuple_mul_2 _ _) (tup_mul0 l its.toArray n d0 sl t hi) ⟨ho, ?_⟩
    refine ⟨.ref s.heap.objs.size, _, I.laid (t' := s.toks) (o := .tup []) (fun b ob q => Heap.get?_push_of_some _ q) (Nat.le_refl _) ?_, rfl, q _ (I.hok.fresh (Nat.le_refl _))⟩
    exact ⟨Nat.zero_le _, [], .nil, IsTup.new _ _⟩
def gRepT : G2 := fun x y G Q => match x, y with
  | .tup ds, .int k => ds ≠ [] ∧ (0 ≤ k ∧ k ≤ 1000) ∧ ds.length ≤ 1000 ∧ Q (.tup (List.replicate k.toNat ds).flatten) G
  | _, _ => False
theorem do_repT : DOp X (binaryOp .Mult) gRepT := by
  refine ⟨⟨_, op_repT.or op_rep01, fun F H G x y dx dy Qd Q rs rx ry q c => ?_⟩⟩
  cases rx with
  | @tup l xs ds h1 r1 =>
    cases ry with
    | int k =>
      have hn : xs ≠ [] := fun z => q.1 (r1.nil_iff.mp z)
      obtain ⟨_, ⟨k0, k1⟩, hz, q2⟩ := q
      have hk : k = 0 ∨ k = 1 ∨ 2 ≤ k := by omega
      rcases hk with rfl | rfl | hk
      · exact .inr ⟨l, 0, xs, rfl, rfl, same_t rs.same h1, hn, .inr ⟨rfl, c.tup (xs := []) rs .nil q2⟩⟩
      · have e : (List.replicate (1 : Int).toNat ds).flatten = ds := by simp
        rw [e] at q2
        exact .inr ⟨l, 1, xs, rfl, rfl, same_t rs.same h1, hn, .inl ⟨rfl, c F H G _ _ (FSame.refl F) rs (.tup h1 r1) q2⟩⟩
      · exact .inl ⟨l, k, xs, rfl, rfl, same_t rs.same h1, hn, hk, k1, by rw [r1.length]; exact hz, c.tup rs (r1.flat k.toNat) q2⟩
    | _ => exact False.elim q
  | _ => exact False.elim q
def gMulA : G2 := fun x y G Q => match x, y with
  | .int i, .int j => CMulD i j ∧ Q (.int (i * j)) G
  | .tup ds, .int k => ds ≠ [] ∧ (0 ≤ k ∧ k ≤ 1000) ∧ ds.length ≤ 1000 ∧ Q (.tup (List.replicate k.toNat ds).flatten) G
  | x, y => gRepL x y G Q
theorem do_mul : DOp X (binaryOp .Mult) gMulA := ((do_mulI (X := X)).or (do_repT.or do_repL)).imp fun x y G Q q => by
  unfold gMulA at q
  split at q
  · exact .inl q
  · exact .inr (.inl q)
  · exact .inr (.inr q)

/-! == by data -/
def toP : D → PyData
  | .non => .none
  | .bl b => .bool b
  | .int i => .int i
  | .str x => .str x
  | .tup ds => .tuple (toPs ds)
  | .lst ds => .list (toPs ds)
  | _ => .dict []
where toPs : List D → List PyData
  | [] => []
  | d :: ds => toP d :: toPs ds
def pure? : D → Bool
  | .non => true
  | .bl b => true
  | .int i => true
  | .str x => true
  | .tup ds => pures ds
  | .lst ds => pures ds
  | _ => false
where pures : List D → Bool
  | [] => true
  | d :: ds => pure? d && pures ds
mutual
theorem dp_of {K : PySem.W.Frag} {F : Fp} {H : Hp} {G : Gp} (rs : RS K F H G) : ∀ {d : D} {v : V}, Rep K F v d → pure? d = true → Dp K H v (toP d)
  | _, _, .non, _ => by
    unfold toP
    exact .non
  | _, _, .bl b, _ => by
    unfold toP
    exact .bl b
  | _, _, .int i, _ => by
    unfold toP
    exact .int i
  | _, _, .str x, _ => by
    unfold toP
    exact .str x
  | _, _, .tup h r, p => by
    unfold toP
    unfold pure? at p
    exact .tup (same_t rs.same h) (dps_of rs r p)
  | _, _, .lst h r, p => by
    unfold toP
    unfold pure? at p
    exact .lst (.inl (.inl (rs.fr _ _ h))) (dps_of rs r p)
  | _, _, .ty _, p => by simp [pure?] at p
  | _, _, .ref _, p => by simp [pure?] at p
  | _, _, .glo _, p => by simp [pure?] at p
  | _, _, .strm _, p => by simp [pure?] at p
  | _, _, .scr _, p => by simp [pure?] at p
theorem dps_of {K : PySem.W.Frag} {F : Fp} {H : Hp} {G : Gp} (rs : RS K F H G) : ∀ {ds : List D} {vs : List V}, RepL K F vs ds → pure?.pures ds = true → DpAll K H vs (toP.toPs ds)
  | _, _, .nil, _ => by
    unfold toP.toPs
    exact .nil
  | _, _, .cons h r, p => by
    unfold toP.toPs
    unfold pure?.pures at p
    have p' := Bool.and_eq_true_iff.mp p
    exact .cons (dp_of rs h p'.1) (dps_of rs r p'.2)
end
def EqOk (d : D) : Prop := pure? d = true ∧ SeqAt.shaped (toP d) = true
def deq (x y : D) : Bool := PyData.eqv (toP x) (toP y)
/-- what a datum compares as: a list that may still change by what it holds now -/
def cv (x : D) (G : Gp) : D := match x with
  | .ref a => match G a with
    | some (.lst ds) => .lst ds
    | _ => x
  | x => x
def gEq (neg : Bool) : G2 := fun x y G Q => match x, y with
  | .int i, .int j => Q (.bl (if neg then !decide (i = j) else decide (i = j))) G
  | x, y => EqOk (cv x G) ∧ EqOk (cv y G) ∧ Q (.bl (if neg then !deq (cv x G) (cv y G) else deq (cv x G) (cv y G))) G
theorem geq_ii {neg : Bool} {i j : Int} {G : Gp} {Q : DK} : gEq neg (.int i) (.int j) G Q = Q (.bl (if neg then !decide (i = j) else decide (i = j))) G := rfl
theorem geq_tup {neg : Bool} {a : List D} {y : D} {G : Gp} {Q : DK} : gEq neg (.tup a) y G Q = (EqOk (.tup a) ∧ EqOk (cv y G) ∧ Q (.bl (if neg then !deq (.tup a) (cv y G) else deq (.tup a) (cv y G))) G) := rfl
theorem geq_lst {neg : Bool} {a : List D} {y : D} {G : Gp} {Q : DK} : gEq neg (.lst a) y G Q = (EqOk (.lst a) ∧ EqOk (cv y G) ∧ Q (.bl (if neg then !deq (.lst a) (cv y G) else deq (.lst a) (cv y G))) G) := rfl
theorem geq_ref {neg : Bool} {a : Addr} {y : D} {G : Gp} {Q : DK} : gEq neg (.ref a) y G Q = (EqOk (cv (.ref a) G) ∧ EqOk (cv y G) ∧ Q (.bl (if neg then !deq (cv (.ref a) G) (cv y G) else deq (cv (.ref a) G) (cv y G))) G) := rfl
theorem geq_non {neg : Bool} {y : D} {G : Gp} {Q : DK} : gEq neg .non y G Q = (EqOk .non ∧ EqOk (cv y G) ∧ Q (.bl (if neg then !deq .non (cv y G) else deq .non (cv y G))) G) := rfl
theorem geq_bl {neg b : Bool} {y : D} {G : Gp} {Q : DK} : gEq neg (.bl b) y G Q = (EqOk (.bl b) ∧ EqOk (cv y G) ∧ Q (.bl (if neg then !deq (.bl b) (cv y G) else deq (.bl b) (cv y G))) G) := rfl
theorem geq_str {neg : Bool} {b : Str} {y : D} {G : Gp} {Q : DK} : gEq neg (.str b) y G Q = (EqOk (.str b) ∧ EqOk (cv y G) ∧ Q (.bl (if neg then !deq (.str b) (cv y G) else deq (.str b) (cv y G))) G) := rfl
theorem geq_it {neg : Bool} {i : Int} {a : List D} {G : Gp} {Q : DK} : gEq neg (.int i) (.tup a) G Q = (EqOk (.int i) ∧ EqOk (.tup a) ∧ Q (.bl (if neg then !deq (.int i) (.tup a) else deq (.int i) (.tup a))) G) := rfl
theorem geq_il {neg : Bool} {i : Int} {a : List D} {G : Gp} {Q : DK} : gEq neg (.int i) (.lst a) G Q = (EqOk (.int i) ∧ EqOk (.lst a) ∧ Q (.bl (if neg then !deq (.int i) (.lst a) else deq (.int i) (.lst a))) G) := rfl
theorem geq_in {neg : Bool} {i : Int} {G : Gp} {Q : DK} : gEq neg (.int i) .non G Q = (EqOk (.int i) ∧ EqOk .non ∧ Q (.bl (if neg then !deq (.int i) .non else deq (.int i) .non)) G) := rfl
theorem dp_cv {K : PySem.W.Frag} {F : Fp} {H : Hp} {G : Gp} (rs : RS K F H G) {d : D} {v : V} (r : Rep K F v d) (p : pure? (cv d G) = true) : Dp K H v (toP (cv d G)) := by
  cases r with
  | ref a =>
    unfold cv at p ⊢
    dsimp only at p ⊢
    split at p
    · rename_i ds e
      obtain ⟨xs, h1, r1⟩ := (rs.gf a _ e).2
      unfold toP
      unfold pure? at p
      exact .lst (.inl (.inl h1)) (dps_of rs r1 p)
    · simp [pure?] at p
  | non => exact dp_of rs .non p
  | bl b => exact dp_of rs (.bl b) p
  | int b => exact dp_of rs (.int b) p
  | str b => exact dp_of rs (.str b) p
  | tup a b => exact dp_of rs (.tup a b) p
  | lst a b => exact dp_of rs (.lst a b) p
  | ty b => exact dp_of rs (.ty b) p
  | glo b => exact dp_of rs (.glo b) p
  | strm b => exact dp_of rs (.strm b) p
  | scr b => exact dp_of rs (.scr b) p
theorem shaped_int (i : Int) : SeqAt.shaped (.int i) = true := by
  unfold SeqAt.shaped
  rw [Bool.and_eq_true]
  refine ⟨by simp only [PyData.canLay0], ?_⟩
  rw [decide_eq_true_eq]
  simp [PyData.depth]
theorem do_eq (hu : X.A.units + 64 < cLine) : DOp X (compareOp .Eq) (gEq false) := ⟨⟨_, op_eqD hu, fun F H G x y dx dy Qd Q rs rx ry q c => by
  unfold gEq at q
  split at q
  · rename_i i j
    cases rx
    cases ry
    refine ⟨.int i, .int j, .int i, .int j, shaped_int i, shaped_int j, ?_⟩
    have e : PyData.eqv (.int i) (.int j) = decide (i = j) := by simp only [PyData.eqv, Bool.beq_eq_decide_eq]
    rw [e]
    exact c F H G _ _ (FSame.refl F) rs (.bl _) q
  · exact ⟨_, _, dp_cv rs rx q.1.1, dp_cv rs ry q.2.1.1, q.1.2, q.2.1.2, c F H G _ _ (FSame.refl F) rs (.bl _) q.2.2⟩⟩⟩
theorem do_ne (hu : X.A.units + 64 < cLine) : DOp X (compareOp .NotEq) (gEq true) := ⟨⟨_, op_neD hu, fun F H G x y dx dy Qd Q rs rx ry q c => by
  unfold gEq at q
  split at q
  · rename_i i j
    cases rx
    cases ry
    refine ⟨.int i, .int j, .int i, .int j, shaped_int i, shaped_int j, ?_⟩
    have e : PyData.eqv (.int i) (.int j) = decide (i = j) := by simp only [PyData.eqv, Bool.beq_eq_decide_eq]
    rw [e]
    exact c F H G _ _ (FSame.refl F) rs (.bl _) q
  · exact ⟨_, _, dp_cv rs rx q.1.1, dp_cv rs ry q.2.1.1, q.1.2, q.2.1.2, c F H G _ _ (FSame.refl F) rs (.bl _) q.2.2⟩⟩⟩

/-! is None -/
def isNon : D → Bool
  | .non => true
  | _ => false
theorem isNon_eq {K : PySem.W.Frag} {F : Fp} {v : V} {d : D} (r : Rep K F v d) : decide (v = .non) = isNon d := by
  cases r <;> simp [isNon]
abbrev dIsN (neg : Bool) (da : DTE) : DTE := fun s G Q E => da s G (fun x G1 => Q (.bl (if neg then !isNon x else isNon x)) G1) E
theorem ae_isN {K : PySem.W.Frag} {ta : TE} {da : DTE} (h : AE K W ta da) : AE K W (tIsN ta) (dIsN false da) := fun F σ H s G Qd Ed Q rs st q c cx =>
  h F σ H s G _ Ed _ rs st q (fun F1 H1 G1 v x e1 rs1 rv q1 => by
    rw [isNon_eq rv]
    exact c F1 H1 G1 _ _ e1 rs1 (.bl _) q1) cx
theorem ae_notN {K : PySem.W.Frag} {ta : TE} {da : DTE} (h : AE K W ta da) : AE K W (tNotN ta) (dIsN true da) := fun F σ H s G Qd Ed Q rs st q c cx =>
  h F σ H s G _ Ed _ rs st q (fun F1 H1 G1 v x e1 rs1 rv q1 => by
    rw [isNon_eq rv]
    exact c F1 H1 G1 _ _ e1 rs1 (.bl _) q1) cx
variable {a b : Expr} {da db : DTE} {pos : Pos}
theorem de_isN {j : Nat} {pos' : Pos} (h : DE X W a da) : DE X W (.Compare a [.Is] [.Constant .none j pos'] pos) (dIsN false da) := by
  obtain ⟨t, p, q⟩ := h
  exact ⟨⟨_, pe_cmp (pc_isN p) rfl, ae_isN q⟩⟩
theorem de_notN {j : Nat} {pos' : Pos} (h : DE X W a da) : DE X W (.Compare a [.IsNot] [.Constant .none j pos'] pos) (dIsN true da) := by
  obtain ⟨t, p, q⟩ := h
  exact ⟨⟨_, pe_cmp (pc_notN p) rfl, ae_notN q⟩⟩
theorem dt_isN {j : Nat} {pos' : Pos} (h : DE X W a da) : DT X W (.Compare a [.Is] [.Constant .none j pos'] pos) (dTest (dIsN false da)) := by
  obtain ⟨t, p, q⟩ := h
  exact ⟨⟨_, pt_cmp (pc_isN p) rfl, at_B (ae_isN q)⟩⟩
theorem dt_notN {j : Nat} {pos' : Pos} (h : DE X W a da) : DT X W (.Compare a [.IsNot] [.Constant .none j pos'] pos) (dTest (dIsN true da)) := by
  obtain ⟨t, p, q⟩ := h
  exact ⟨⟨_, pt_cmp (pc_notN p) rfl, at_B (ae_notN q)⟩⟩

/-! one-place operators -/
abbrev dNeg (da : DTE) : DTE := fun s G Q E => da s G (fun x G1 => match x with
  | .int i => Q (.int (-i)) G1
  | _ => False) E
theorem de_neg (h : DE X W a da) : DE X W (.UnaryOp .USub a pos) (dNeg da) := by
  obtain ⟨t, p, q⟩ := h
  refine ⟨⟨_, pe_un un_neg p, fun F σ H s G Qd Ed Q rs st hq c cx => q F σ H s G _ Ed _ rs st hq (fun F1 H1 G1 v x e1 rs1 rv q1 => ?_) cx⟩⟩
  cases rv with
  | int i => exact ⟨i, rfl, c F1 H1 G1 _ _ e1 rs1 (.int _) q1⟩
  | _ => exact False.elim q1
/-! tests -/
variable {tA tB' : DTT} {rest : List Expr}
/-- any value's truth -/
def truth (x : D) (G : Gp) : Option Bool := match x with
  | .non => some false
  | .bl b => some b
  | .int i => some (i != 0)
  | .tup ds => some (!ds.isEmpty)
  | x => (lv x G).map fun ds => !ds.isEmpty
theorem isEmpty_rep {K : PySem.W.Frag} {F : Fp} {xs : List V} {ds : List D} (r : RepL K F xs ds) : xs.isEmpty = ds.isEmpty := by
  cases r <;> rfl
theorem truth_ok {K : PySem.W.Frag} {F : Fp} {H : Hp} {G : Gp} {v : V} {x : D} {b : Bool} (rs : RS K F H G) (r : Rep K F v x) (h : truth x G = some b) : TruV K v H b := by
  have viaL : (lv x G).map (fun ds => !ds.isEmpty) = some b → TruV K v H b := fun h => by
    obtain ⟨ds, e1, e2⟩ := Option.map_eq_some_iff.mp h
    obtain ⟨a, xs, rfl, h1, r1⟩ := lv_at rs r e1
    exact .inl ⟨xs, .inl (.inl h1), by rw [isEmpty_rep r1]; exact e2.symm⟩
  cases r with
  | non => cases h; rfl
  | bl c => cases h; rfl
  | int i => cases h; rfl
  | @tup a xs ds h1 r1 =>
    cases h
    exact .inr (.inl ⟨xs, same_t rs.same h1, by rw [isEmpty_rep r1]⟩)
  | ref a => exact viaL h
  | lst a r => exact viaL h
  | str _ => exact viaL h
  | ty _ => exact viaL h
  | glo _ => exact viaL h
  | strm _ => exact viaL h
  | scr _ => exact viaL h
abbrev dTru (d : DTE) : DTT := fun s G Q E => d s G (fun x G1 => match truth x G1 with
  | some b => Q b G1
  | none => False) E
theorem dt_tru (h : DE X W a da) (he : ∀ whole, isTrue a X.env whole = (do let v ← whole; standAt a.pos; holding [v] (truthy v)) := by intro _; rfl) : DT X W a (dTru da) := by
  obtain ⟨t, p, q⟩ := h
  refine ⟨⟨_, pt_truth p he, fun F σ H s G Qd Ed Q rs st hq c cx => q F σ H s G _ Ed _ rs st hq (fun F1 H1 G1 v x e1 rs1 rv q1 => ?_) cx⟩⟩
  split at q1
  · rename_i b e
    exact ⟨b, truth_ok rs1 rv e, c F1 H1 G1 b e1 rs1 q1⟩
  · exact q1.elim
abbrev dAnd (t u : DTT) : DTT := fun s G Q E => t s G (fun c G1 => if c = true then u s G1 Q E else Q false G1) E
abbrev dOr (t u : DTT) : DTT := fun s G Q E => t s G (fun c G1 => if c = true then Q true G1 else u s G1 Q E) E
abbrev dNot (t : DTT) : DTT := fun s G Q E => t s G (fun c G1 => Q (!c) G1) E
theorem at_and {K : PySem.W.Frag} {t u : TT} {d e : DTT} (h1 : AT K W t d) (h2 : AT K W u e) : AT K W (tAnd t u) (dAnd d e) := fun F σ H s G Qd Ed Q rs st q c cx =>
  h1 F σ H s G _ Ed _ rs st q (fun F1 H1 G1 b e1 rs1 q1 => by
    cases b with
    | true => exact h2 F1 σ H1 s G1 Qd Ed Q rs1 (st.mono e1) q1 (c.mono e1) (cx.mono e1)
    | false => exact c F1 H1 G1 _ e1 rs1 q1) cx
theorem at_or {K : PySem.W.Frag} {t u : TT} {d e : DTT} (h1 : AT K W t d) (h2 : AT K W u e) : AT K W (tOr t u) (dOr d e) := fun F σ H s G Qd Ed Q rs st q c cx =>
  h1 F σ H s G _ Ed _ rs st q (fun F1 H1 G1 b e1 rs1 q1 => by
    cases b with
    | false => exact h2 F1 σ H1 s G1 Qd Ed Q rs1 (st.mono e1) q1 (c.mono e1) (cx.mono e1)
    | true => exact c F1 H1 G1 _ e1 rs1 q1) cx
theorem dw_and1 (h : DT X W a tA) : DW X W (.BoolOp .And [a] pos) tA := by
  obtain ⟨t, p, q⟩ := h
  exact ⟨⟨_, pw_and1 p, q⟩⟩
theorem dw_or1 (h : DT X W a tA) : DW X W (.BoolOp .Or [a] pos) tA := by
  obtain ⟨t, p, q⟩ := h
  exact ⟨⟨_, pw_or1 p, q⟩⟩
theorem dw_and (h : DT X W a tA) (h2 : DW X W (.BoolOp .And (b :: rest) pos) tB') : DW X W (.BoolOp .And (a :: b :: rest) pos) (dAnd tA tB') := by
  obtain ⟨t, p, q⟩ := h
  obtain ⟨u, p2, q2⟩ := h2
  exact ⟨⟨_, pw_and p p2, at_and q q2⟩⟩
theorem dw_or (h : DT X W a tA) (h2 : DW X W (.BoolOp .Or (b :: rest) pos) tB') : DW X W (.BoolOp .Or (a :: b :: rest) pos) (dOr tA tB') := by
  obtain ⟨t, p, q⟩ := h
  obtain ⟨u, p2, q2⟩ := h2
  exact ⟨⟨_, pw_or p p2, at_or q q2⟩⟩
theorem DW.dt {e : Expr} (h : DW X W e tA) : DT X W e tA := by
  obtain ⟨t, p, q⟩ := h
  exact ⟨⟨_, p.pt, q⟩⟩
theorem dt_not (h : DT X W a tA) : DT X W (.UnaryOp .Not a pos) (dNot tA) := by
  obtain ⟨t, p, q⟩ := h
  exact ⟨⟨_, pt_not p, fun F σ H s G Qd Ed Q rs st hq c cx => q F σ H s G _ Ed _ rs st hq (fun F1 H1 G1 b e1 rs1 q1 => c F1 H1 G1 _ e1 rs1 q1) cx⟩⟩
/-- an expression that gives True or False, as a test -/
theorem dt_val (h : DE X W a da) (he : ∀ whole, isTrue a X.env whole = (do let v ← whole; standAt a.pos; holding [v] (truthy v)) := by intro _; rfl) : DT X W a (dTest da) := by
  obtain ⟨t, p, q⟩ := h
  exact ⟨⟨_, pt_val p he, at_B q⟩⟩
/-! and, or, not as values (bools) -/
abbrev dAndV (da db : DTE) : DTE := fun s G Q E => da s G (fun x G1 => match x with
  | .bl c => if c = true then db s G1 Q E else Q (.bl false) G1
  | _ => False) E
abbrev dOrV (da db : DTE) : DTE := fun s G Q E => da s G (fun x G1 => match x with
  | .bl c => if c = true then Q (.bl true) G1 else db s G1 Q E
  | _ => False) E
abbrev dNotV (da : DTE) : DTE := fun s G Q E => da s G (fun x G1 => match x with
  | .bl c => Q (.bl (!c)) G1
  | _ => False) E
theorem de_one {op : BoolOp} (h : DE X W a da) : DE X W (.BoolOp op [a] pos) da := by
  obtain ⟨t, p, q⟩ := h
  exact ⟨⟨_, pe_one p, q⟩⟩
theorem de_and (h : DE X W a da) (h2 : DE X W (.BoolOp .And (b :: rest) pos) db) : DE X W (.BoolOp .And (a :: b :: rest) pos) (dAndV da db) := by
  obtain ⟨t, p, q⟩ := h
  obtain ⟨u, p2, q2⟩ := h2
  refine ⟨⟨_, pe_and p p2, fun F σ H s G Qd Ed Q rs st hq c cx => q F σ H s G _ Ed _ rs st hq (fun F1 H1 G1 v x e1 rs1 rv q1 => ?_) cx⟩⟩
  cases rv with
  | bl k =>
    refine ⟨k, rfl, ?_⟩
    cases k with
    | true => exact q2 F1 σ H1 s G1 Qd Ed Q rs1 (st.mono e1) q1 (c.mono e1) (cx.mono e1)
    | false => exact c F1 H1 G1 _ _ e1 rs1 (.bl _) q1
  | _ => exact False.elim q1
theorem de_or (h : DE X W a da) (h2 : DE X W (.BoolOp .Or (b :: rest) pos) db) : DE X W (.BoolOp .Or (a :: b :: rest) pos) (dOrV da db) := by
  obtain ⟨t, p, q⟩ := h
  obtain ⟨u, p2, q2⟩ := h2
  refine ⟨⟨_, pe_or p p2, fun F σ H s G Qd Ed Q rs st hq c cx => q F σ H s G _ Ed _ rs st hq (fun F1 H1 G1 v x e1 rs1 rv q1 => ?_) cx⟩⟩
  cases rv with
  | bl k =>
    refine ⟨k, rfl, ?_⟩
    cases k with
    | false => exact q2 F1 σ H1 s G1 Qd Ed Q rs1 (st.mono e1) q1 (c.mono e1) (cx.mono e1)
    | true => exact c F1 H1 G1 _ _ e1 rs1 (.bl _) q1
  | _ => exact False.elim q1
theorem de_not (h : DE X W a da) : DE X W (.UnaryOp .Not a pos) (dNotV da) := by
  obtain ⟨t, p, q⟩ := h
  refine ⟨⟨_, pe_not p, fun F σ H s G Qd Ed Q rs st hq c cx => q F σ H s G _ Ed _ rs st hq (fun F1 H1 G1 v x e1 rs1 rv q1 => ?_) cx⟩⟩
  cases rv with
  | bl k => exact ⟨k, rfl, c F1 H1 G1 _ _ e1 rs1 (.bl _) q1⟩
  | _ => exact False.elim q1
abbrev dIf (t : DTT) (da db : DTE) : DTE := fun s G Q E => t s G (fun c G1 => if c = true then da s G1 Q E else db s G1 Q E) E
theorem de_ifExp {c : Expr} (hc : DT X W c tA) (h : DE X W a da) (h2 : DE X W b db) : DE X W (.IfExp c a b pos) (dIf tA da db) := by
  obtain ⟨t0, p0, q0⟩ := hc
  obtain ⟨t, p, q⟩ := h
  obtain ⟨u, p2, q2⟩ := h2
  refine ⟨⟨_, pe_ifExp p0 p p2, fun F σ H s G Qd Ed Q rs st hq c cx => q0 F σ H s G _ Ed _ rs st hq (fun F1 H1 G1 k e1 rs1 q1 => ?_) cx⟩⟩
  cases k with
  | true => exact q F1 σ H1 s G1 Qd Ed Q rs1 (st.mono e1) q1 (c.mono e1) (cx.mono e1)
  | false => exact q2 F1 σ H1 s G1 Qd Ed Q rs1 (st.mono e1) q1 (c.mono e1) (cx.mono e1)

/-! arguments, displays -/
abbrev dNil : DTA := fun _ G Q _ => Q [] G
abbrev dCons (d : DTE) (ds : DTA) : DTA := fun s G Q E => d s G (fun x G1 => ds s G1 (fun xs G2 => Q (x :: xs) G2) E) E
variable {e : Expr} {es : List Expr} {de : DTE} {dA : DTA}
theorem da_nil : DA X W [] dNil := ⟨⟨_, pa_nil, fun F σ H s G Qd Ed Q rs st q c cx => c F H G [] [] (FSame.refl F) rs .nil q⟩⟩
theorem da_cons (h : DE X W e de) (h2 : DA X W es dA) (hs : starEach (e :: es) X.env = (false, eval e X.env) :: starEach es X.env := by rfl) : DA X W (e :: es) (dCons de dA) := by
  obtain ⟨t, p, q⟩ := h
  obtain ⟨u, p2, q2⟩ := h2
  exact ⟨⟨_, pa_cons p p2 hs, fun F σ H s G Qd Ed Q rs st hq c cx => q F σ H s G _ Ed _ rs st hq (fun F1 H1 G1 v x e1 rs1 rv q1 =>
    q2 F1 σ H1 s G1 _ Ed _ rs1 (st.mono e1) q1 (fun F2 H2 G2 vs xs e2 rs2 rvs q2 => c F2 H2 G2 _ _ (e1.trans e2) rs2 (.cons (rv.mono e2) rvs) q2) (cx.mono e1)) cx⟩⟩
abbrev dTup (d : DTA) : DTE := fun s G Q E => d s G (fun xs G1 => xs.length ≤ sizeLine ∧ Q (.tup xs) G1) E
abbrev dLst (d : DTA) : DTE := fun s G Q E => d s G (fun xs G1 => xs.length ≤ sizeLine ∧ Q (.lst xs) G1) E
/-- a display that may still change -/
abbrev dLstM (d : DTA) : DTE := fun s G Q E => d s G (fun xs G1 => xs.length ≤ sizeLine ∧ ∀ p, G1 p = none → Q (.ref p) (gupd G1 p (.lst xs))) E
theorem de_tup {k : Nat} (h : DA X W es dA) : DE X W (.Tuple es k pos) (dTup dA) := by
  obtain ⟨t, p, q⟩ := h
  exact ⟨⟨_, pe_tup p, fun F σ H s G Qd Ed Q rs st hq c cx => q F σ H s G _ Ed _ rs st hq (fun F1 H1 G1 vs xs e1 rs1 rv q1 => ⟨by rw [rv.length]; exact q1.1, (c.mono e1).tup rs1 rv q1.2⟩) cx⟩⟩
theorem de_lst (h : DA X W es dA) : DE X W (.List es pos) (dLst dA) := by
  obtain ⟨t, p, q⟩ := h
  exact ⟨⟨_, pe_lst p, fun F σ H s G Qd Ed Q rs st hq c cx => q F σ H s G _ Ed _ rs st hq (fun F1 H1 G1 vs xs e1 rs1 rv q1 => ⟨by rw [rv.length]; exact q1.1, (c.mono e1).lst rs1 rv q1.2⟩) cx⟩⟩
theorem de_lstM (h : DA X W es dA) : DE X W (.List es pos) (dLstM dA) := by
  obtain ⟨t, p, q⟩ := h
  exact ⟨⟨_, pe_lst p, fun F σ H s G Qd Ed Q rs st hq c cx => q F σ H s G _ Ed _ rs st hq (fun F1 H1 G1 vs xs e1 rs1 rv q1 => ⟨by rw [rv.length]; exact q1.1, (c.mono e1).lstM rs1 rv q1.2⟩) cx⟩⟩

/-- a display that is a law's stream -/
abbrev dStrm (d : DTA) : DTE := fun s G Q E => d s G (fun xs G1 => match xs with
  | [.int _, .int _, .int _] => Q .strm G1
  | _ => False) E
theorem de_strm (h : DA X W es dA) : DE X W (.List es pos) (dStrm dA) := by
  obtain ⟨t, p, q⟩ := h
  refine ⟨⟨_, pe_lst p, fun F σ H s G Qd Ed Q rs st hq c cx => q F σ H s G _ Ed _ rs st hq (fun F1 H1 G1 vs xs e1 rs1 rv q1 => ?_) cx⟩⟩
  split at q1
  · rename_i x k y
    cases rv with
    | cons r1 rv =>
      cases rv with
      | cons r2 rv =>
        cases rv with
        | cons r3 rv =>
          cases rv
          cases r1
          cases r2
          cases r3
          refine ⟨by show 3 ≤ sizeLine; decide, fun p hp => ?_⟩
          obtain ⟨h1, h2⟩ := rs1.newS hp x k y
          exact c _ _ G1 _ _ (e1.trans h2) h1 (.strm fupd_same) q1
  · exact q1.elim

/-! subscripts -/
def gIx : G2 := fun x y G Q => match y with
  | .int i => match x with
    | .tup ds => match atI ds i with
      | some d => Q d G
      | none => False
    | .scr ns => match atI ns i with
      | some n => Q (.int n) G
      | none => False
    | .strm => (0 ≤ i ∧ i < 3) ∧ ∀ n : Int, Q (.int n) G
    | .str z => z.length ≤ sizeLine ∧ match atI z.cps.toList i with
      | some k => Q (.str ⟨#[k]⟩) G
      | none => False
    | x => match lv x G with
      | some ds => match atI ds i with
        | some d => Q d G
        | none => False
      | none => False
  | _ => False
theorem atI_rep {K : PySem.W.Frag} {F : Fp} {xs : List V} {ds : List D} {i : Int} {d : D} (r : RepL K F xs ds) (h : atI ds i = some d) : ∃ v, atI xs i = some v ∧ Rep K F v d := by
  unfold atI at h ⊢
  rw [r.length]
  cases q : ixN ds.length i with
  | none =>
    rw [q] at h
    cases h
  | some j =>
    rw [q] at h
    exact r.get h
theorem atI_map {α β : Type} (f : α → β) {xs : List α} {i : Int} {x : α} (h : atI xs i = some x) : atI (xs.map f) i = some (f x) := by
  unfold atI at h ⊢
  rw [List.length_map]
  cases q : ixN xs.length i with
  | none =>
    rw [q] at h
    cases h
  | some j =>
    rw [q] at h
    rw [Option.bind_some] at h ⊢
    rw [List.getElem?_map, h]
    rfl
theorem opa_ix {K : PySem.W.Frag} : OpA K (rIx K) gIx := fun F H G x y dx dy Qd Q rs rx ry q c => by
  have viaL : ∀ i, (match lv dx G with
      | some ds => match atI ds i with
        | some d => Qd d G
        | none => False
      | none => False) → rIx K x (.int i) H Q := fun i q => by
    split at q
    · rename_i ds e
      split at q
      · rename_i d ed
        obtain ⟨a, xs, rfl, h1, r1⟩ := lv_at rs rx e
        obtain ⟨v, h2, r2⟩ := atI_rep r1 ed
        exact .inl ⟨a, xs, i, v, rfl, rfl, .inl (.inl h1), h2, c F H G v d (FSame.refl F) rs r2 q⟩
      · exact q.elim
    · exact q.elim
  cases ry with
  | int i =>
    cases rx with
    | @tup a xs ds h1 r1 =>
      unfold gIx at q
      dsimp only at q
      split at q
      · rename_i d ed
        obtain ⟨v, h2, r2⟩ := atI_rep r1 ed
        exact .inr (.inl ⟨a, xs, i, v, rfl, rfl, same_t rs.same h1, h2, c F H G v d (FSame.refl F) rs r2 q⟩)
      · exact q.elim
    | @scr a ns h1 =>
      unfold gIx at q
      dsimp only at q
      split at q
      · rename_i n en
        exact .inl ⟨a, _, i, _, rfl, rfl, rs.same.seq h1, atI_map V.int en, c F H G _ _ (FSame.refl F) rs (.int n) q⟩
      · exact q.elim
    | ref a => exact viaL i q
    | lst h r => exact viaL i q
    | non => exact viaL i q
    | bl _ => exact viaL i q
    | int _ => exact viaL i q
    | str z =>
      obtain ⟨hz, q⟩ : z.length ≤ sizeLine ∧ (match atI z.cps.toList i with
        | some k => Qd (.str ⟨#[k]⟩) G
        | none => False) := q
      split at q
      · rename_i k ek
        exact .inr (.inr ⟨z, i, k, rfl, rfl, hz, ek, c F H G _ _ (FSame.refl F) rs (.str _) q⟩)
      · exact q.elim
    | ty _ => exact viaL i q
    | glo _ => exact viaL i q
    | strm h =>
      obtain ⟨x, k, y, e⟩ := rs.st _ h
      have q2 : (0 ≤ i ∧ i < 3) ∧ ∀ n : Int, Qd (.int n) G := q
      have fin : ∀ n : Int, Q (.int n) H := fun n => c F H G _ _ (FSame.refl F) rs (.int n) (q2.2 n)
      have hi : i = 0 ∨ i = 1 ∨ i = 2 := by omega
      rcases hi with rfl | rfl | rfl
      · exact .inl ⟨_, _, _, _, rfl, rfl, .inl (.inl e), rfl, fin x⟩
      · exact .inl ⟨_, _, _, _, rfl, rfl, .inl (.inl e), rfl, fin k⟩
      · exact .inl ⟨_, _, _, _, rfl, rfl, .inl (.inl e), rfl, fin y⟩
  | _ => exact False.elim q
theorem de_ix (h : DE X W a da) (h2 : DE X W b db) (hp : PlainIx b := by exact fun _ _ => rfl) : DE X W (.Subscript a b pos) (dOp gIx da db) := by
  obtain ⟨t, p, q⟩ := h
  obtain ⟨u, p2, q2⟩ := h2
  exact ⟨⟨_, pe_ix ix_seq p p2 hp, ae_op opa_ix q q2⟩⟩
/-! slices -/
abbrev DTO := DSt → Gp → (Option Int → Gp → Prop) → DX → Prop
def AO (K : PySem.W.Frag) (W : WX) (t : TO) (d : DTO) : Prop := ∀ F σ H s G Qd Ed (Q : Option Int → Hp → Prop), RS K F H G → RepSt K F σ s → d s G Qd Ed → (∀ F' H' G' o, FSame F F' → RS K F' H' G' → Qd o G' → Q o H') → ContX K F W σ Ed → t σ H Q
structure DO (X : Cx) (W : WX) (e : Option Expr) (d : DTO) : Prop where
  ex : ∃ t, PO X e t ∧ AO X.K W t d
abbrev dNoPart : DTO := fun _ G Q _ => Q none G
abbrev dPart (d : DTE) : DTO := fun s G Q E => d s G (fun x G1 => match x with
  | .int i => Q (some i) G1
  | _ => False) E
theorem do_none : DO X W none dNoPart := ⟨⟨_, po_none, fun F σ H s G Qd Ed Q rs st q c cx => c F H G none (FSame.refl F) rs q⟩⟩
theorem do_some (h : DE X W e de) : DO X W (some e) (dPart de) := by
  obtain ⟨t, p, q⟩ := h
  refine ⟨⟨_, po_some p, fun F σ H s G Qd Ed Q rs st hq c cx => q F σ H s G _ Ed _ rs st hq (fun F1 H1 G1 v x e1 rs1 rv q1 => ?_) cx⟩⟩
  cases rv with
  | int i => exact ⟨i, rfl, c F1 H1 G1 _ e1 rs1 q1⟩
  | _ => exact False.elim q1
def cutD (xs : List D) (lo hi : Option Int) : List D := (xs.drop (HT.sIx xs.length 0 lo)).take (HT.sIx xs.length xs.length hi - HT.sIx xs.length 0 lo)
theorem RepL.cut {K : PySem.W.Frag} {F : Fp} {xs : List V} {ds : List D} (r : RepL K F xs ds) (lo hi : Option Int) : RepL K F (cutV xs lo hi) (cutD ds lo hi) := by
  unfold cutV cutD
  rw [r.length]
  exact (r.drop _).take _
theorem cutD_len (xs : List D) (lo hi : Option Int) : (cutD xs lo hi).length ≤ xs.length := by
  unfold cutD
  rw [List.length_take, List.length_drop]
  omega
def gSl (x : D) (lo hi : Option Int) (G : Gp) (Q : DK) : Prop := match x with
  | .tup ds => Q (.tup (cutD ds lo hi)) G
  | x => match lv x G with
    | some ds => Q (.lst (cutD ds lo hi)) G
    | none => False
/-- a slice of a list that may still change -/
def gSlM (x : D) (lo hi : Option Int) (G : Gp) (Q : DK) : Prop := match lv x G with
    | some ds => ∀ p, G p = none → Q (.ref p) (gupd G p (.lst (cutD ds lo hi)))
    | none => False
abbrev dSl (g : D → Option Int → Option Int → Gp → DK → Prop) (d : DTE) (l h : DTO) : DTE := fun s G Q E => d s G (fun x G1 => l s G1 (fun lo G2 => h s G2 (fun hi G3 => g x lo hi G3 Q) E) E) E
theorem ae_sl {K : PySem.W.Frag} {r : V → Option Int → Option Int → Hp → VK → Prop} {g : D → Option Int → Option Int → Gp → DK → Prop} (hr : ∀ F H G x dx lo hi Qd Q, RS K F H G → Rep K F x dx → g dx lo hi G Qd → Cont K F Qd Q → r x lo hi H Q)
    {te : TE} {tl th : TO} {d : DTE} {l h : DTO} (q : AE K W te d) (ql : AO K W tl l) (qh : AO K W th h) : AE K W (tSl r te tl th) (dSl g d l h) := fun F σ H s G Qd Ed Q rs st hq c cx =>
  q F σ H s G _ Ed _ rs st hq (fun F1 H1 G1 v x e1 rs1 rv q1 => ql F1 σ H1 s G1 _ Ed _ rs1 (st.mono e1) q1 (fun F2 H2 G2 lo e2 rs2 q2 =>
    qh F2 σ H2 s G2 _ Ed _ rs2 (st.mono (e1.trans e2)) q2 (fun F3 H3 G3 hi e3 rs3 q3 => hr F3 H3 G3 v x lo hi Qd Q rs3 (rv.mono (e2.trans e3)) q3 (c.mono ((e1.trans e2).trans e3))) (cx.mono (e1.trans e2))) (cx.mono e1)) cx
variable {lo hi : Option Expr} {dl dh : DTO}
theorem whole_cut {α : Type} (xs : List α) (lo hi : Option Int) (h : HT.sIx xs.length 0 lo = 0 ∧ HT.sIx xs.length xs.length hi = xs.length) : (xs.drop (HT.sIx xs.length 0 lo)).take (HT.sIx xs.length xs.length hi - HT.sIx xs.length 0 lo) = xs := by
  rw [h.1, h.2, Nat.sub_zero, List.drop_zero, List.take_length]
theorem de_slice {p2 : Pos} (h : DE X W e de) (hl : DO X W lo dl) (hh : DO X W hi dh) : DE X W (.Subscript e (.Slice lo hi none p2) pos) (dSl gSl de dl dh) := by
  obtain ⟨t, p, q⟩ := h
  obtain ⟨tl, pl, ql⟩ := hl
  obtain ⟨th, ph, qh⟩ := hh
  refine ⟨⟨_, pe_slice (sl_tupA.or sl_list) p pl ph, ae_sl (fun F H G x dx lo hi Qd Q rs rx q c => ?_) q ql qh⟩⟩
  have viaL : (match lv dx G with
    | some ds => Qd (.lst (cutD ds lo hi)) G
    | none => False) → rSlA X.K x lo hi H Q ∨ rSlL X.K x lo hi H Q := fun q => by
    split at q
    · rename_i ds e
      obtain ⟨a, xs, rfl, h1, r1⟩ := lv_at rs rx e
      exact .inr ⟨a, xs, rfl, .inl (.inl h1), c.lst rs (r1.cut lo hi) q⟩
    · exact q.elim
  cases rx with
  | @tup a xs ds h1 r1 =>
    refine .inl ⟨a, xs, rfl, same_t rs.same h1, fun z => ?_, fun _ => c.tup rs (r1.cut lo hi) q⟩
    have w : cutD ds lo hi = ds := by
      rw [r1.length] at z
      exact whole_cut ds lo hi z
    have q' : Qd (.tup (cutD ds lo hi)) G := q
    rw [w] at q'
    exact c F H G _ _ (FSame.refl F) rs (.tup h1 r1) q'
  | ref a => exact viaL q
  | lst h r => exact viaL q
  | non => exact viaL q
  | bl _ => exact viaL q
  | int _ => exact viaL q
  | str _ => exact viaL q
  | ty _ => exact viaL q
  | glo _ => exact viaL q
  | strm _ => exact viaL q
  | scr _ => exact viaL q
theorem de_sliceM {p2 : Pos} (h : DE X W e de) (hl : DO X W lo dl) (hh : DO X W hi dh) : DE X W (.Subscript e (.Slice lo hi none p2) pos) (dSl gSlM de dl dh) := by
  obtain ⟨t, p, q⟩ := h
  obtain ⟨tl, pl, ql⟩ := hl
  obtain ⟨th, ph, qh⟩ := hh
  refine ⟨⟨_, pe_slice sl_list p pl ph, ae_sl (fun F H G x dx lo hi Qd Q rs rx q c => ?_) q ql qh⟩⟩
  unfold gSlM at q
  split at q
  · rename_i ds e
    obtain ⟨a, xs, rfl, h1, r1⟩ := lv_at rs rx e
    exact ⟨a, xs, rfl, .inl (.inl h1), c.lstM rs (r1.cut lo hi) q⟩
  · exact q.elim
end
end Dl
set_option Elab.async false
set_option linter.all false
set_option maxRecDepth 100000
set_option maxHeartbeats 4000000
namespace Dl
open PySem PySem.Spec PyProof.Rows L2
set_option autoImplicit false
section
variable {X : Cx} {W : WX}
/-! calls of the text's own functions -/
abbrev dCall (sp : DSp) (dA : DTA) : DTE := fun s G Q E => dA s G (fun ds G1 => sp ds G1 Q E) E
variable {e : Expr} {es : List Expr} {de : DTE} {dA : DTA} {pos : Pos}
theorem ae_call {K : PySem.W.Frag} {sp : DSp} {t : TA} (h : AA K W t dA) : AE K W (tCallSD (lift K sp) [] (WE W) t) (dCall sp dA) := fun F σ H s G Qd Ed Q rs st q c cx =>
  h F σ H s G _ Ed _ rs st q (fun F1 H1 G1 vs xs e1 rs1 rv q1 => by
    rw [List.append_nil]
    exact ⟨F1, G1, xs, Qd, Ed, rs1, rv, q1, c.mono e1, fun F2 H2 G2 cls dd x e2 rs2 rx q2 => cx F2 H2 G2 cls dd x (e1.trans e2) rs2 rx q2⟩) cx
theorem de_call {x : Str} {k : Nat} {ps : List Str} {sp : DSp} {p : Pos} (c : Callee X.prog X.w X.K X.mg X.base x k ps sp) (hr : Room k X.A) (tk : Takes X W) (ha : DA X W (e :: es) dA)
    (hg : Gl X x := by rfl) (hdb : (x == ("__debug__" : Str)) = false := by decide) (he : starEach (e :: es) X.env = (false, eval e X.env) :: starEach es X.env := by rfl) (hpl : (backTo pos (starEach es X.env)).any (·.1) = false := by rfl) :
    DE X W (.Call (.Name x p) (e :: es) [] pos) (dCall sp dA) := by
  obtain ⟨⟨fd, F, hb⟩, g, kp⟩ := c
  obtain ⟨t, p, q⟩ := ha
  exact ⟨⟨_, pe_callSD F hr hg g kp hb .nil (fun σ => passAt tk σ) p hdb he hpl, ae_call q⟩⟩

/-! built-in functions and classes -/
abbrev GC := List D → Gp → DK → Prop
structure DCall (X : Cx) (f : Value) (g : GC) : Prop where
  ex : ∃ r, CallR X f r ∧ ∀ F H G vs xs Qd Q, RS X.K F H G → RepL X.K F vs xs → g xs G Qd → Cont X.K F Qd Q → r vs H Q
abbrev dCB (g : GC) (dA : DTA) : DTE := fun s G Q E => dA s G (fun xs G1 => g xs G1 Q) E
theorem de_callB {id : String} {g : GC} {x : Str} {p : Pos} (hc : DCall X (.builtin id) g) (hm : X.mg x = none) (hv : bootBuiltins x = some (.builtin id)) (ha : DA X W (e :: es) dA) (hg : Gl X x := by rfl) (hn : x ≠ "__name__" := by decide) (hdb : (x == ("__debug__" : Str)) = false := by decide)
    (he : starEach (e :: es) X.env = (false, eval e X.env) :: starEach es X.env := by rfl) (hpl : (backTo pos (starEach es X.env)).any (·.1) = false := by rfl) : DE X W (.Call (.Name x p) (e :: es) [] pos) (dCB g dA) := by
  obtain ⟨r, h1, h2⟩ := hc
  obtain ⟨t, p, q⟩ := ha
  exact ⟨⟨_, pe_callB h1 hg hm hv p hn hdb he hpl, fun F σ H s G Qd Ed Q rs st hq c cx => q F σ H s G _ Ed _ rs st hq (fun F1 H1 G1 vs xs e1 rs1 rv q1 => h2 F1 H1 G1 vs xs Qd Q rs1 rv q1 (c.mono e1)) cx⟩⟩
theorem de_callTy {n : String} {g : GC} {x : Str} {p : Pos} (hc : DCall X (.type n) g) (hm : X.mg x = none) (hv : bootBuiltins x = some (.type n)) (ha : DA X W (e :: es) dA) (hg : Gl X x := by rfl) (hn : x ≠ "__name__" := by decide) (hdb : (x == ("__debug__" : Str)) = false := by decide)
    (he : starEach (e :: es) X.env = (false, eval e X.env) :: starEach es X.env := by rfl) (hpl : (backTo pos (starEach es X.env)).any (·.1) = false := by rfl) : DE X W (.Call (.Name x p) (e :: es) [] pos) (dCB g dA) := by
  obtain ⟨r, h1, h2⟩ := hc
  obtain ⟨t, p, q⟩ := ha
  exact ⟨⟨_, pe_callTy h1 hg hm hv p hn hdb he hpl, fun F σ H s G Qd Ed Q rs st hq c cx => q F σ H s G _ Ed _ rs st hq (fun F1 H1 G1 vs xs e1 rs1 rv q1 => h2 F1 H1 G1 vs xs Qd Q rs1 rv q1 (c.mono e1)) cx⟩⟩
theorem repl1 {K : PySem.W.Frag} {F : Fp} {vs : List V} {x : D} (r : RepL K F vs [x]) : ∃ v, vs = [v] ∧ Rep K F v x := by
  cases r with
  | cons h r =>
    cases r
    exact ⟨_, rfl, h⟩
theorem repl2 {K : PySem.W.Frag} {F : Fp} {vs : List V} {x y : D} (r : RepL K F vs [x, y]) : ∃ v u, vs = [v, u] ∧ Rep K F v x ∧ Rep K F u y := by
  cases r with
  | cons h r =>
    obtain ⟨u, rfl, h2⟩ := repl1 r
    exact ⟨_, _, rfl, h, h2⟩
/-- a built-in of one place, of two -/
def g1 (g : D → Gp → DK → Prop) : GC := fun xs G Q => match xs with
  | [x] => g x G Q
  | _ => False
def g2 (g : D → D → Gp → DK → Prop) : GC := fun xs G Q => match xs with
  | [x, y] => g x y G Q
  | _ => False
theorem dcall1 {f : Value} {g : D → Gp → DK → Prop} {r : List V → Hp → VK → Prop} (h : CallR X f r) (hg : ∀ F H G v x Qd Q, RS X.K F H G → Rep X.K F v x → g x G Qd → Cont X.K F Qd Q → r [v] H Q) : DCall X f (g1 g) := ⟨⟨r, h, fun F H G vs xs Qd Q rs rv q c => by
  unfold g1 at q
  split at q
  · obtain ⟨v, rfl, r1⟩ := repl1 rv
    exact hg F H G v _ Qd Q rs r1 q c
  · exact q.elim⟩⟩
theorem dcall2 {f : Value} {g : D → D → Gp → DK → Prop} {r : List V → Hp → VK → Prop} (h : CallR X f r) (hg : ∀ F H G v u x y Qd Q, RS X.K F H G → Rep X.K F v x → Rep X.K F u y → g x y G Qd → Cont X.K F Qd Q → r [v, u] H Q) : DCall X f (g2 g) := ⟨⟨r, h, fun F H G vs xs Qd Q rs rv q c => by
  unfold g2 at q
  split at q
  · obtain ⟨v, u, rfl, r1, r2⟩ := repl2 rv
    exact hg F H G v u _ _ Qd Q rs r1 r2 q c
  · exact q.elim⟩⟩
def gLen : D → Gp → DK → Prop := fun x G Q => match x with
  | .tup ds => Q (.int ds.length) G
  | .scr ns => Q (.int ns.length) G
  | .str z => z.length ≤ sizeLine ∧ Q (.int z.length) G
  | x => match lv x G with
    | some ds => Q (.int ds.length) G
    | none => False
theorem dc_len : DCall X (.builtin "len") (g1 gLen) := dcall1 call_len fun F H G v x Qd Q rs rv q c => by
  have viaL : (match lv x G with
    | some ds => Qd (.int ds.length) G
    | none => False) → ∃ x n, [v] = [x] ∧ LenV X.K x H n ∧ Q (.int n) H := fun q => by
    split at q
    · rename_i ds e
      obtain ⟨a, xs, rfl, h1, r1⟩ := lv_at rs rv e
      exact ⟨_, xs.length, rfl, .inl ⟨xs, .inl (.inl h1), rfl⟩, by rw [r1.length]; exact c F H G _ _ (FSame.refl F) rs (.int _) q⟩
    · exact q.elim
  cases rv with
  | @tup a xs ds h1 r1 => exact ⟨_, xs.length, rfl, .inr ⟨xs, same_t rs.same h1, rfl⟩, by rw [r1.length]; exact c F H G _ _ (FSame.refl F) rs (.int _) q⟩
  | @scr a ns h1 => exact ⟨_, _, rfl, .inl ⟨_, rs.same.seq h1, rfl⟩, by rw [List.length_map]; exact c F H G _ _ (FSame.refl F) rs (.int _) q⟩
  | str z => exact ⟨_, z.length, rfl, ⟨q.1, rfl⟩, c F H G _ _ (FSame.refl F) rs (.int _) q.2⟩
  | ref a => exact viaL q
  | lst h r => exact viaL q
  | non => exact viaL q
  | bl _ => exact viaL q
  | int _ => exact viaL q
  | ty _ => exact viaL q
  | glo _ => exact viaL q
  | strm _ => exact viaL q
def gInt : D → Gp → DK → Prop := fun x G Q => match x with
  | .int i => Q (.int i) G
  | .bl b => Q (.int (if b then 1 else 0)) G
  | _ => False
theorem dc_int : DCall X (.type "int") (g1 gInt) := dcall1 call_int1 fun F H G v x Qd Q rs rv q c => by
  cases rv with
  | int i => exact .inl ⟨i, rfl, c F H G _ _ (FSame.refl F) rs (.int _) q⟩
  | bl b => exact .inr ⟨b, rfl, c F H G _ _ (FSame.refl F) rs (.int _) q⟩
  | _ => exact False.elim q
def gAbs : D → Gp → DK → Prop := fun x G Q => match x with
  | .int i => Q (.int (if i < 0 then -i else i)) G
  | _ => False
theorem dc_abs : DCall X (.builtin "abs") (g1 gAbs) := dcall1 call_abs fun F H G v x Qd Q rs rv q c => by
  cases rv with
  | int i => exact ⟨i, rfl, c F H G _ _ (FSame.refl F) rs (.int _) q⟩
  | _ => exact False.elim q
theorem dc_gcd : DCall X (.builtin "math.gcd") (g2 (gI0 fun i j => .int ((Nat.gcd i.natAbs j.natAbs : Nat) : Int))) := dcall2 cr_gcd fun F H G v u x y Qd Q rs rv ru q c => by
  cases rv with
  | int i =>
    cases ru with
    | int j => exact ⟨i, j, rfl, c F H G _ _ (FSame.refl F) rs (.int _) q⟩
    | _ => exact False.elim q
  | _ => exact False.elim q
theorem dc_max2 (hc : X.calm = true) : DCall X (.builtin "max") (g2 (gI0 fun i j => .int (if j > i then j else i))) := dcall2 (call_max2 hc) fun F H G v u x y Qd Q rs rv ru q c => by
  cases rv with
  | int i =>
    cases ru with
    | int j => exact ⟨i, j, rfl, c F H G _ _ (FSame.refl F) rs (.int _) q⟩
    | _ => exact False.elim q
  | _ => exact False.elim q
theorem dc_min2 (hc : X.calm = true) : DCall X (.builtin "min") (g2 (gI0 fun i j => .int (if j < i then j else i))) := dcall2 (call_min2 hc) fun F H G v u x y Qd Q rs rv ru q c => by
  cases rv with
  | int i =>
    cases ru with
    | int j => exact ⟨i, j, rfl, c F H G _ _ (FSame.refl F) rs (.int _) q⟩
    | _ => exact False.elim q
  | _ => exact False.elim q
def gListOf : D → Gp → DK → Prop := fun x G Q => match x with
  | .tup ds => Q (.lst ds) G
  | .scr ns => Q (.lst (ns.map .int)) G
  | x => match lv x G with
    | some ds => Q (.lst ds) G
    | none => False
theorem dc_list : DCall X (.type "list") (g1 gListOf) := dcall1 call_list_of fun F H G v x Qd Q rs rv q c => by
  have viaL : (match lv x G with
    | some ds => Qd (.lst ds) G
    | none => False) → ∃ p ys, [v] = [.ref p] ∧ (SqL X.K H p ys ∨ SqT X.K H p ys) ∧ ∀ l, H l = none → Q (.ref l) (upd H l (.lst ys)) := fun q => by
    split at q
    · rename_i ds e
      obtain ⟨a, xs, rfl, h1, r1⟩ := lv_at rs rv e
      exact ⟨a, xs, rfl, .inl (.inl (.inl h1)), c.lst rs r1 q⟩
    · exact q.elim
  cases rv with
  | @tup a xs ds h1 r1 => exact ⟨a, xs, rfl, .inr (same_t rs.same h1), c.lst rs r1 q⟩
  | @scr a ns h1 => exact ⟨a, _, rfl, .inl (rs.same.seq h1), c.lst rs (repl_of_int ns) q⟩
  | ref a => exact viaL q
  | lst h r => exact viaL q
  | str _ => exact viaL q
  | non => exact viaL q
  | bl _ => exact viaL q
  | int _ => exact viaL q
  | ty _ => exact viaL q
  | glo _ => exact viaL q
  | strm _ => exact viaL q
/-- list(..), to be changed -/
def gListM : D → Gp → DK → Prop := fun x G Q => match x with
  | .tup ds => ∀ p, G p = none → Q (.ref p) (gupd G p (.lst ds))
  | .scr ns => ∀ p, G p = none → Q (.ref p) (gupd G p (.lst (ns.map .int)))
  | x => match lv x G with
    | some ds => ∀ p, G p = none → Q (.ref p) (gupd G p (.lst ds))
    | none => False
theorem dc_listM : DCall X (.type "list") (g1 gListM) := dcall1 call_list_of fun F H G v x Qd Q rs rv q c => by
  have viaL : (match lv x G with
    | some ds => ∀ p, G p = none → Qd (.ref p) (gupd G p (.lst ds))
    | none => False) → ∃ p ys, [v] = [.ref p] ∧ (SqL X.K H p ys ∨ SqT X.K H p ys) ∧ ∀ l, H l = none → Q (.ref l) (upd H l (.lst ys)) := fun q => by
    split at q
    · rename_i ds e
      obtain ⟨a, xs, rfl, h1, r1⟩ := lv_at rs rv e
      exact ⟨a, xs, rfl, .inl (.inl (.inl h1)), c.lstM rs r1 q⟩
    · exact q.elim
  cases rv with
  | @tup a xs ds h1 r1 => exact ⟨a, xs, rfl, .inr (same_t rs.same h1), c.lstM rs r1 q⟩
  | @scr a ns h1 => exact ⟨a, _, rfl, .inl (rs.same.seq h1), c.lstM rs (repl_of_int ns) q⟩
  | ref a => exact viaL q
  | lst h r => exact viaL q
  | str _ => exact viaL q
  | non => exact viaL q
  | bl _ => exact viaL q
  | int _ => exact viaL q
  | ty _ => exact viaL q
  | glo _ => exact viaL q
  | strm _ => exact viaL q
def gTupOf : D → Gp → DK → Prop := fun x G Q => match x with
  | .tup ds => Q (.tup ds) G
  | x => match lv x G with
    | some ds => Q (.tup ds) G
    | none => False
theorem dc_tuple : DCall X (.type "tuple") (g1 gTupOf) := dcall1 call_tuple_of fun F H G v x Qd Q rs rv q c => by
  have viaL : (match lv x G with
    | some ds => Qd (.tup ds) G
    | none => False) → ∃ p ys, [v] = [.ref p] ∧ ((SqL X.K H p ys ∧ ∀ l, H l = none → Q (.ref l) (upd H l (.tup ys))) ∨ (SqT X.K H p ys ∧ Q (.ref p) H)) := fun q => by
    split at q
    · rename_i ds e
      obtain ⟨a, xs, rfl, h1, r1⟩ := lv_at rs rv e
      exact ⟨a, xs, rfl, .inl ⟨.inl (.inl h1), c.tup rs r1 q⟩⟩
    · exact q.elim
  cases rv with
  | @tup a xs ds h1 r1 => exact ⟨a, xs, rfl, .inr ⟨same_t rs.same h1, c F H G _ _ (FSame.refl F) rs (.tup h1 r1) q⟩⟩
  | scr _ => exact viaL q
  | ref a => exact viaL q
  | lst h r => exact viaL q
  | str _ => exact viaL q
  | non => exact viaL q
  | bl _ => exact viaL q
  | int _ => exact viaL q
  | ty _ => exact viaL q
  | glo _ => exact viaL q
  | strm _ => exact viaL q
/-! isinstance against a built-in class -/
def tyOf : D → Option String
  | .non => some "NoneType"
  | .bl _ => some "bool"
  | .int _ => some "int"
  | .str _ => some "str"
  | .tup _ => some "tuple"
  | .lst _ => some "list"
  | _ => none
theorem tyx_of {K : PySem.W.Frag} {F : Fp} {H : Hp} {G : Gp} {v : V} {x : D} {n : String} (rs : RS K F H G) (r : Rep K F v x) (h : tyOf x = some n) : TyX K H v (.type n) := by
  cases r with
  | non => cases h; exact .base .non
  | bl b => cases h; exact .base (.bl b)
  | int b => cases h; exact .base (.int b)
  | str b => cases h; exact .base (.str b)
  | lst h1 r1 => cases h; exact .base (.lst (rs.fr _ _ h1))
  | tup h1 r1 =>
    cases h
    rcases same_t rs.same h1 with (z | ⟨o, z⟩) | ⟨o, its, n, hk, hc, _⟩
    · exact .base (.tup z)
    · exact .fTuple z
    · exact .kTuple hk hc
  | _ => cases h
/-- which built-in class is which's -/
def gIsi : D → D → Gp → DK → Prop := fun x c G Q => match c with
  | .ty n => match tyOf x with
    | some m => match kitB m n with
      | some b => Q (.bl b) G
      | none => False
    | none => False
  | _ => False
theorem dc_isi : DCall X (.builtin "isinstance") (g2 gIsi) := dcall2 call_isi fun F H G v u x y Qd Q rs rv ru q c => by
  cases ru with
  | ty n =>
    unfold gIsi at q
    dsimp only at q
    split at q
    · rename_i m e
      split at q
      · rename_i b eb
        exact ⟨v, _, _, _, b, rfl, .ty n, tyx_of rs rv e, kit_ty eb, c F H G _ _ (FSame.refl F) rs (.bl b) q⟩
      · exact q.elim
    · exact q.elim
  | _ => exact False.elim q
end

/-! targets -/
abbrev DTG := D → DSt → Gp → (DSt → Gp → Prop) → Prop
abbrev DTGs := List D → DSt → Gp → (DSt → Gp → Prop) → Prop
def AG (K : PySem.W.Frag) (t : TG) (d : DTG) : Prop := ∀ F σ H s G v x Qd (Q : St → Hp → Prop), RS K F H G → RepSt K F σ s → Rep K F v x → d x s G Qd → ContS K F Qd Q → t v σ H Q
def AGs (K : PySem.W.Frag) (t : TGs) (d : DTGs) : Prop := ∀ F σ H s G vs xs Qd (Q : St → Hp → Prop), RS K F H G → RepSt K F σ s → RepL K F vs xs → d xs s G Qd → ContS K F Qd Q → t vs σ H Q
structure DG (X : Cx) (e : Expr) (d : DTG) : Prop where
  ex : ∃ t, PG X e t ∧ AG X.K t d
structure DGs (X : Cx) (es : List Expr) (d : DTGs) : Prop where
  ex : ∃ t, PGs X es t ∧ AGs X.K t d
/-- nothing is let out -/
abbrev W0 : WX := fun _ _ _ _ => False
abbrev X0 : DX := fun _ _ => False
theorem cx0 {K : PySem.W.Frag} {F : Fp} {W : WX} {σ : St} : ContX K F W σ X0 := fun _ _ _ _ _ _ _ _ _ q => q.elim
section
variable {X : Cx} {W : WX} {pos : Pos}
abbrev dgName (i : Nat) : DTG := fun x s G Q => Q (s.set i (some x)) G
theorem dg_name (i : Nat) {x : Str} (hN : X.N.Nodup) (hi : X.N[i]? = some x := by rfl) (hx : Loc X.env.scope x := by first | exact Or.inl rfl | exact Or.inr rfl) (hf : X.fn x = true ∨ X.env.scope.names.lookup x = some .local := by first | exact .inl rfl | exact .inr rfl) : DG X (.Name x pos) (dgName i) :=
  ⟨⟨_, pg_name hN hi hx hf, fun F σ H s G v x Qd Q rs st rv q c => c F H G _ _ (FSame.refl F) rs (st.set i rv) q⟩⟩
abbrev dgNil : DTGs := fun xs s G Q => xs = [] ∧ Q s G
abbrev dgCons (d : DTG) (ds : DTGs) : DTGs := fun xs s G Q => match xs with
  | x :: r => d x s G fun s' G' => ds r s' G' Q
  | [] => False
theorem dgs_nil : DGs X [] dgNil := ⟨⟨_, pgs_nil, fun F σ H s G vs xs Qd Q rs st rv q c => by
  obtain ⟨rfl, q⟩ := q
  cases rv
  exact ⟨rfl, c F H G _ _ (FSame.refl F) rs st q⟩⟩⟩
theorem dgs_cons {e : Expr} {es : List Expr} {d : DTG} {ds : DTGs} (h : DG X e d) (h2 : DGs X es ds) (hs : (assignEach (e :: es) X.env).map (·.2) = assign e X.env :: (assignEach es X.env).map (·.2) := by rfl) : DGs X (e :: es) (dgCons d ds) := by
  obtain ⟨t, p, a⟩ := h
  obtain ⟨u, p2, a2⟩ := h2
  refine ⟨⟨_, pgs_cons p p2 hs, fun F σ H s G vs xs Qd Q rs st rv q c => ?_⟩⟩
  cases rv with
  | nil => exact False.elim q
  | cons rx rr =>
    rename_i x0 d0 xs0 ds0
    refine ⟨_, _, rfl, a F σ H s G _ _ _ _ rs st rx q fun F1 H1 G1 σ1 s1 e1 rs1 st1 q1 => ?_⟩
    exact a2 F1 σ1 H1 s1 G1 _ _ Qd Q rs1 st1 (rr.mono e1) q1 (c.mono e1)
/-- (a, b, ..) = a tuple, a list of that length -/
abbrev dgTup (n : Nat) (d : DTGs) : DTG := fun x s G Q => match x with
  | .tup ds => ds.length = n ∧ d ds s G Q
  | x => match lv x G with
    | some ds => ds.length = n ∧ d ds s G Q
    | none => False
theorem pg_or {e : Expr} {t u : TG} (h : PG X e t) (h2 : PG X e u) : PG X e (fun v σ H Q => t v σ H Q ∨ u v σ H Q) :=
  ⟨fun pins s σ H v w Q I r q => q.elim (fun q => h.run pins s σ H v w Q I r q) fun q => h2.run pins s σ H v w Q I r q⟩
theorem dg_tup {es : List Expr} {k n : Nat} {d : DTGs} (hc : X.calm = true) (h : DGs X es d)
    (hn : (assignEach es X.env).length = n := by rfl) (hst : (assignEach es X.env).findIdx? (·.1) = none := by rfl) : DG X (.Tuple es k pos) (dgTup n d) := by
  obtain ⟨t, p, a⟩ := h
  refine ⟨⟨_, pg_or (pg_tup hc p hn hst) (pg_unl hc p hn hst), fun F σ H s G v x Qd Q rs st rv q c => ?_⟩⟩
  have viaL : (match lv x G with
    | some ds => ds.length = n ∧ d ds s G Qd
    | none => False) → gUnl X.K n t v σ H Q := fun q => by
    split at q
    · rename_i ds e
      obtain ⟨b, xs, rfl, h1, r1⟩ := lv_at rs rv e
      exact ⟨b, xs, rfl, .inl (.inl h1), by rw [r1.length]; exact q.1, a F σ H s G xs ds Qd Q rs st r1 q.2 c⟩
    · exact q.elim
  cases rv with
  | @tup b xs ds h1 r1 => exact .inl ⟨b, xs, rfl, same_t rs.same h1, by rw [r1.length]; exact q.1, a F σ H s G xs ds Qd Q rs st r1 q.2 c⟩
  | ref a => exact .inr (viaL q)
  | lst h r => exact .inr (viaL q)
  | str _ => exact .inr (viaL q)
  | non => exact .inr (viaL q)
  | bl _ => exact .inr (viaL q)
  | int _ => exact .inr (viaL q)
  | ty _ => exact .inr (viaL q)
  | glo _ => exact .inr (viaL q)
  | strm _ => exact .inr (viaL q)
  | scr _ => exact .inr (viaL q)
/-- o[i] = .., a list -/
def gSetL (o i x : D) (G : Gp) (Q : Gp → Prop) : Prop := match o, i with
  | .ref a, .int k => match G a with
    | some (.lst ds) => match ixN ds.length k with
      | some j => Q (gupd G a (.lst (ds.set j x)))
      | none => False
    | _ => False
  | .strm, .int k => match x with
    | .int _ => (0 ≤ k ∧ k < 3) ∧ Q G
    | _ => False
  | _, _ => False
abbrev dgSub (do_ di : DTE) : DTG := fun x s G Q => do_ s G (fun o G1 => di s G1 (fun i G2 => gSetL o i x G2 fun G3 => Q s G3) X0) X0
theorem dg_sub {o i : Expr} {do_ di : DTE} (h : DE X W0 o do_) (h2 : DE X W0 i di) (ha : ∀ v, assign (.Subscript o i pos) X.env v = (do
      let ov ← holding [v] (eval o X.env)
      let iv ← holding [v, ov] (eval i X.env)
      standAt pos
      holding [v, ov, iv] (setItem ov iv v)
      release [v, ov, iv] []) := by intro _; rfl) : DG X (.Subscript o i pos) (dgSub do_ di) := by
  obtain ⟨t, p, a⟩ := h
  obtain ⟨u, p2, a2⟩ := h2
  refine ⟨⟨_, pg_sub p p2 set_list ha, fun F σ H s G v x Qd Q rs st rv q c => ?_⟩⟩
  refine a F σ H s G _ X0 _ rs st q (fun F1 H1 G1 ov ox e1 rs1 ro q1 => ?_) cx0
  refine a2 F1 σ H1 s G1 _ X0 _ rs1 (st.mono e1) q1 (fun F2 H2 G2 iv ix e2 rs2 ri q2 => ?_) cx0
  cases ri with
  | int k =>
    cases ro with
    | ref b =>
      unfold gSetL at q2
      dsimp only at q2
      split at q2
      · rename_i ds eg
        split at q2
        · rename_i j ej
          obtain ⟨xs, h1, r1⟩ := (rs2.gf b _ eg).2
          have rv2 := rv.mono (e1.trans e2)
          refine ⟨b, xs, k, j, rfl, rfl, h1, by rw [r1.length]; exact ej, ?_⟩
          exact c F2 _ _ σ s (e1.trans e2) (rs2.setG eg (o := .lst (xs.set j v)) (g := .lst (ds.set j x)) ⟨_, upd_same, r1.set rv2 j⟩) (st.mono (e1.trans e2)) q2
        · exact q2.elim
      · exact q2.elim
    | strm h =>
      cases x with
      | int z =>
        cases rv
        have q3 : (0 ≤ k ∧ k < 3) ∧ Qd s G2 := q2
        have h := e2 _ _ h
        obtain ⟨x, i, y, e⟩ := rs2.st _ h
        have hi : k = 0 ∨ k = 1 ∨ k = 2 := by omega
        rcases hi with rfl | rfl | rfl
        · exact ⟨_, _, 0, 0, rfl, rfl, e, rfl, c F2 _ _ σ s (e1.trans e2) (rs2.turnS h z i y) (st.mono (e1.trans e2)) q3.2⟩
        · exact ⟨_, _, 1, 1, rfl, rfl, e, rfl, c F2 _ _ σ s (e1.trans e2) (rs2.turnS h x z y) (st.mono (e1.trans e2)) q3.2⟩
        · exact ⟨_, _, 2, 2, rfl, rfl, e, rfl, c F2 _ _ σ s (e1.trans e2) (rs2.turnS h x i z) (st.mono (e1.trans e2)) q3.2⟩
      | _ => exact False.elim q2
    | _ => exact False.elim q2
  | _ =>
    unfold gSetL at q2
    cases ro <;> exact False.elim q2
end
end Dl
set_option Elab.async false
set_option linter.all false
set_option maxRecDepth 100000
set_option maxHeartbeats 4000000
namespace Dl
open PySem PySem.Spec PyProof.Rows L2
set_option autoImplicit false
/-! statements -/
section
variable {X : Cx} {W : WX} {st : Stmt} {rest : List Stmt} {d d2 : DTS} {e : Expr} {de : DTE} {pos : Pos}
abbrev dNext : DTS := fun D s G => D.nx s G
abbrev dSeq (t u : DTS) : DTS := fun D s G => t { D with nx := u D } s G
theorem dss_nil : DSs X W [] dNext := ⟨⟨_, pss_nil, fun F σ H s G Dd E rs st q r => r.nx F H G σ s (FSame.refl F) rs st q⟩⟩
theorem as_seq {K : PySem.W.Frag} {t u : TS} (h1 : AS K W t d) (h2 : AS K W u d2) : AS K W (tSeq t u) (dSeq d d2) := fun F σ H s G Dd E rs st q r =>
  h1 F σ H s G _ _ rs st q ⟨fun F1 H1 G1 σ1 s1 e1 rs1 st1 q1 => h2 F1 σ1 H1 s1 G1 Dd E rs1 st1 q1 (r.mono e1), r.rt, r.ex, r.bk, r.ct⟩
theorem dss_cons (h1 : DS X W st d) (h2 : DSs X W rest d2) : DSs X W (st :: rest) (dSeq d d2) := by
  obtain ⟨t, p, a⟩ := h1
  obtain ⟨u, p2, a2⟩ := h2
  exact ⟨⟨_, pss_cons p p2, as_seq a a2⟩⟩
theorem dss_one (h1 : DS X W st d) : DSs X W [st] d := by
  obtain ⟨t, p, a⟩ := h1
  exact ⟨⟨_, pss_one p, a⟩⟩
abbrev dBreak : DTS := fun D s G => D.bk s G
abbrev dCont : DTS := fun D s G => D.ct s G
theorem ds_pass : DS X W (.Pass pos) dNext := ⟨⟨_, ps_pass, fun F σ H s G Dd E rs st q r => r.nx F H G σ s (FSame.refl F) rs st q⟩⟩
theorem ds_break : DS X W (.Break pos) dBreak := ⟨⟨_, ps_break, fun F σ H s G Dd E rs st q r => r.bk F H G σ s (FSame.refl F) rs st q⟩⟩
theorem ds_continue : DS X W (.Continue pos) dCont := ⟨⟨_, ps_continue, fun F σ H s G Dd E rs st q r => r.ct F H G σ s (FSame.refl F) rs st q⟩⟩
abbrev dDrop (de : DTE) : DTS := fun D s G => de s G (fun _ G1 => D.nx s G1) (fun x G1 => D.ex x s G1)
theorem ds_expr (h : DE X W e de) (hs : swapsWith e none pos.line X.env = pure false := by rfl) : DS X W (.Expr e pos) (dDrop de) := by
  obtain ⟨t, p, a⟩ := h
  exact ⟨⟨_, ps_expr p hs, fun F σ H s G Dd E rs st q r => a F σ H s G _ _ _ rs st q (fun F1 H1 G1 v x e1 rs1 rv q1 => r.nx F1 H1 G1 σ s e1 rs1 (st.mono e1) q1) (r.ex.at_ st)⟩⟩
abbrev dRet (de : DTE) : DTS := fun D s G => de s G D.rt (fun x G1 => D.ex x s G1)
theorem ds_ret (h : DE X W e de) : DS X W (.Return (some e) pos) (dRet de) := by
  obtain ⟨t, p, a⟩ := h
  exact ⟨⟨_, ps_ret p, fun F σ H s G Dd E rs st q r => a F σ H s G _ _ _ rs st q r.rt (r.ex.at_ st)⟩⟩
/-- what is handed back: a list that changes no more -/
def frzD (x : D) (G : Gp) (Q : DK) : Prop := match x with
  | .ref a => match G a with
    | some (.lst ds) => Q (.lst ds) (gdel G a)
    | _ => False
  | x => Q x G
abbrev dFrz (de : DTE) : DTE := fun s G Q E => de s G (fun x G1 => frzD x G1 Q) E
theorem ae_frz {K : PySem.W.Frag} {t : TE} (h : AE K W t de) : AE K W t (dFrz de) := fun F σ H s G Qd Ed Q rs st q c cx =>
  h F σ H s G _ Ed _ rs st q (fun F1 H1 G1 v x e1 rs1 rv q1 => by
    cases rv with
    | ref a =>
      unfold frzD at q1
      dsimp only at q1
      split at q1
      · rename_i ds eg
        obtain ⟨F2, e2, rs2, r2⟩ := rs1.freeze eg
        exact c F2 H1 _ _ _ (e1.trans e2) rs2 r2 q1
      · exact q1.elim
    | non => exact c F1 H1 G1 _ _ e1 rs1 .non q1
    | bl b => exact c F1 H1 G1 _ _ e1 rs1 (.bl b) q1
    | int b => exact c F1 H1 G1 _ _ e1 rs1 (.int b) q1
    | str b => exact c F1 H1 G1 _ _ e1 rs1 (.str b) q1
    | ty b => exact c F1 H1 G1 _ _ e1 rs1 (.ty b) q1
    | glo b => exact c F1 H1 G1 _ _ e1 rs1 (.glo b) q1
    | strm b => exact c F1 H1 G1 _ _ e1 rs1 (.strm b) q1
    | tup b b2 => exact c F1 H1 G1 _ _ e1 rs1 (.tup b b2) q1
    | lst b b2 => exact c F1 H1 G1 _ _ e1 rs1 (.lst b b2) q1
    | scr b => exact c F1 H1 G1 _ _ e1 rs1 (.scr b) q1) cx
theorem de_frz (h : DE X W e de) : DE X W e (dFrz de) := by
  obtain ⟨t, p, a⟩ := h
  exact ⟨⟨_, p, ae_frz a⟩⟩
abbrev dRetN : DTS := fun D _ G => D.rt .non G
theorem ds_retN : DS X W (.Return none pos) dRetN := ⟨⟨_, ps_retN, fun F σ H s G Dd E rs st q r => r.rt F H G _ _ (FSame.refl F) rs .non q⟩⟩
abbrev dIfS (c : DTT) (t u : DTS) : DTS := fun D s G => c s G (fun b G1 => if b = true then t D s G1 else u D s G1) (fun x G1 => D.ex x s G1)
theorem ds_if {c : Expr} {a b : List Stmt} {dc : DTT} (hc : DT X W c dc) (ha : DSs X W a d) (hb : DSs X W b d2) : DS X W (.If c a b pos) (dIfS dc d d2) := by
  obtain ⟨tc, pc, ac⟩ := hc
  obtain ⟨t, p, a⟩ := ha
  obtain ⟨u, p2, a2⟩ := hb
  refine ⟨⟨_, ps_if pc p p2, fun F σ H s G Dd E rs st q r => ac F σ H s G _ _ _ rs st q (fun F1 H1 G1 b e1 rs1 q1 => ?_) (r.ex.at_ st)⟩⟩
  cases b with
  | true => exact a F1 σ H1 s G1 Dd E rs1 (st.mono e1) q1 (r.mono e1)
  | false => exact a2 F1 σ H1 s G1 Dd E rs1 (st.mono e1) q1 (r.mono e1)
abbrev dNever : DTS := fun _ _ _ => False
theorem ds_never : DS X W st dNever := ⟨⟨_, ps_never, fun F σ H s G Dd E rs st q r => q.elim⟩⟩
abbrev dAsg (de : DTE) (g : DTG) : DTS := fun D s G => de s G (fun x G1 => g x s G1 D.nx) (fun x G1 => D.ex x s G1)
theorem ds_asg {tg : Expr} {g : DTG} (h : DE X W e de) (hg : DG X tg g) (hs : swapsWithSole [tg] e pos.line X.env = pure false := by rfl) (hw : swappedStores [tg] e X.env = pure none := by rfl)
    (h1 : (assignEach [tg] X.env).map (·.2) = [assign tg X.env] := by rfl) : DS X W (.Assign [tg] e pos) (dAsg de g) := by
  obtain ⟨t, p, a⟩ := h
  obtain ⟨u, p2, a2⟩ := hg
  exact ⟨⟨_, ps_asg p p2 hs hw h1, fun F σ H s G Dd E rs st q r => a F σ H s G _ _ _ rs st q (fun F1 H1 G1 v x e1 rs1 rv q1 => a2 F1 σ H1 s G1 v x _ _ rs1 (st.mono e1) rv q1 (r.nx.mono e1)) (r.ex.at_ st)⟩⟩
abbrev dSet (i : Nat) (de : DTE) : DTS := fun D s G => de s G (fun x G1 => D.nx (s.set i (some x)) G1) (fun x G1 => D.ex x s G1)
theorem ds_set (i : Nat) {x : Str} {pos' : Pos} (hN : X.N.Nodup) (h : DE X W e de) (hi : X.N[i]? = some x := by rfl) (hx : Loc X.env.scope x := by first | exact Or.inl rfl | exact Or.inr rfl) (hs : swapsWith e (some (.Name x pos')) pos.line X.env = pure false := by rfl)
    (hf : X.fn x = true ∨ X.env.scope.names.lookup x = some .local := by first | exact .inl rfl | exact .inr rfl) : DS X W (.Assign [.Name x pos'] e pos) (dSet i de) := by
  obtain ⟨t, p, a⟩ := h
  exact ⟨⟨_, ps_set hN hi hx p hs hf, fun F σ H s G Dd E rs st q r => a F σ H s G _ _ _ rs st q (fun F1 H1 G1 v x e1 rs1 rv q1 => r.nx F1 H1 G1 _ _ e1 rs1 ((st.mono e1).set i rv) q1) (r.ex.at_ st)⟩⟩
abbrev dPar (i j : Nat) (dA : DTA) : DTS := fun D s G => dA s G (fun xs G1 => match xs with
  | [x, y] => D.nx ((s.set i (some x)).set j (some y)) G1
  | _ => False) (fun x G1 => D.ex x s G1)
theorem ds_par {i j : Nat} {x y : Str} {a b : Expr} {dA : DTA} {px py pt : Pos} {kt k2 : Nat} {pt2 : Pos}
    (hp : ∀ ta, PA X [a, b] ta → PS X (.Assign [.Tuple [.Name x px, .Name y py] kt pt] (.Tuple [a, b] k2 pt2) pos) (tPar i j ta)) (ha : DA X W [a, b] dA) : DS X W (.Assign [.Tuple [.Name x px, .Name y py] kt pt] (.Tuple [a, b] k2 pt2) pos) (dPar i j dA) := by
  obtain ⟨ta, p, q⟩ := ha
  refine ⟨⟨_, hp ta p, fun F σ H s G Dd E rs st hq r => q F σ H s G _ _ _ rs st hq (fun F1 H1 G1 vs xs e1 rs1 rv q1 => ?_) (r.ex.at_ st)⟩⟩
  split at q1
  · obtain ⟨v, u, rfl, r1, r2⟩ := repl2 rv
    exact ⟨v, u, rfl, r.nx F1 H1 G1 _ _ e1 rs1 (((st.mono e1).set i r1).set j r2) q1⟩
  · exact q1.elim
/-- x op= e -/
abbrev dAug (i : Nat) (de : DTE) (g : G2) : DTS := fun D s G => match s[i]? with
  | some (some x) => de s G (fun y G1 => g x y G1 fun z G2 => D.nx (s.set i (some z)) G2) (fun x G1 => D.ex x s G1)
  | _ => False
theorem ds_aug (i : Nat) {x : Str} {op : Operator} {g : G2} {pos' : Pos} (hN : X.N.Nodup) (h : DE X W e de) (ho : DOp X (inplaceOp op) g) (hi : X.N[i]? = some x := by rfl) (hx : Loc X.env.scope x := by first | exact Or.inl rfl | exact Or.inr rfl)
    (hf : X.fn x = true ∨ X.env.scope.names.lookup x = some .local := by first | exact .inl rfl | exact .inr rfl) : DS X W (.AugAssign (.Name x pos') op e pos) (dAug i de g) := by
  obtain ⟨t, p, a⟩ := h
  obtain ⟨r, h1, h2⟩ := ho
  refine ⟨⟨_, ps_aug (ti := r) hN hi hx p h1 hf, fun F σ H s G Dd E rs st q re => ?_⟩⟩
  unfold dAug at q
  split at q
  · rename_i x0 ex
    obtain ⟨v0, e0, r0⟩ := st.at_ i x0 ex
    refine ⟨v0, e0, a F σ H s G _ _ _ rs st q (fun F1 H1 G1 v y e1 rs1 rv q1 => ?_) (re.ex.at_ st)⟩
    exact h2 F1 H1 G1 v0 v x0 y _ _ rs1 (r0.mono e1) rv q1 fun F2 H2 G2 w z e2 rs2 rw q2 => re.nx F2 H2 G2 _ _ (e1.trans e2) rs2 ((st.mono (e1.trans e2)).set i rw) q2
  · exact q.elim
theorem io_add : DOp X (inplaceOp .Add) (gI0 fun i j => .int (i + j)) := ⟨⟨_, iop_add, opa_I0 fun _ _ _ => .int _⟩⟩
theorem io_sub : DOp X (inplaceOp .Sub) (gI0 fun i j => .int (i - j)) := ⟨⟨_, iop_sub, opa_I0 fun _ _ _ => .int _⟩⟩
/-- raise X('..') -/
abbrev dRaise (c : Str) : DTS := fun D s G => D.ex ⟨c, none⟩ s G
structure ExcF (K : PySem.W.Frag) (mg : Str → Option Value) (x : Str) : Prop where
  g : mg x = some (.ref (He.ga K x))
  ok : PySem.W.excIn K (He.ga K x) He.veBase "ValueError.__new__" = true ∧ PySem.W.keepIn K (.ref (He.ga K x)) = true ∧ PySem.W.subIn K (.ref (He.ga K x)) (.type "BaseException") = some true ∧ PySem.W.typeIn K (.ref (He.ga K x)) = some (.type "type")
theorem ds_raise {x m : Str} {j : Nat} {p p2 pos' : Pos} (tk : Takes X W) (f : ExcF X.K X.mg x) (hc : X.calm = true := by rfl) (hg : Gl X x := by rfl) (hdb : (x == ("__debug__" : Str)) = false := by decide) :
    DS X W (.Raise (some (.Call (.Name x p) [.Constant (.str m) j p2] [] pos')) none pos) (dRaise x) := by
  obtain ⟨g, q, kC, bC, tC⟩ := f
  exact ⟨⟨_, ps_raise hc tk (pmk_own PySem.F.excBase_ValueError q g kC (raises_own bC tC) hg hdb), fun F σ H s G Dd E rs st q r => r.ex F H G _ _ _ _ _ (FSame.refl F) rs ⟨rfl, rfl⟩ st q⟩⟩
/-! loops -/
abbrev dWhile (c : DTT) (b : DTS) : DTS := fun D s G => ∃ W : Nat → DSt → Gp → Prop, (∃ m, W m s G) ∧ ∀ m s G, W m s G →
  c s G (fun t G1 => if t = true then b { D with nx := fun s' G' => ∃ m', m' < m ∧ W m' s' G', ct := fun s' G' => ∃ m', m' < m ∧ W m' s' G', bk := D.nx } s G1 else D.nx s G1) (fun x G1 => D.ex x s G1)
theorem ds_while {c : Expr} {body : List Stmt} {dc : DTT} (po : PassesOwn (model X.prog X.w) X.A X.env X.xe) (hc : DT X W c dc) (hb : DSs X W body d) : DS X W (.While c body [] pos) (dWhile dc d) := by
  obtain ⟨tc, pc, ac⟩ := hc
  obtain ⟨t, p, a⟩ := hb
  refine ⟨⟨_, ps_while po pc p, fun F σ H s G Dd E rs st q r => ?_⟩⟩
  obtain ⟨V, ⟨m0, v0⟩, turn⟩ := q
  refine ⟨fun m σ' H' => ∃ F' s' G', FSame F F' ∧ RS X.K F' H' G' ∧ RepSt X.K F' σ' s' ∧ V m s' G', ⟨m0, F, s, G, FSame.refl F, rs, st, v0⟩, fun m σ1 H1 hW => ?_⟩
  obtain ⟨F1, s1, G1, e1, rs1, st1, v1⟩ := hW
  refine ac F1 σ1 H1 s1 G1 _ _ _ rs1 st1 (turn m s1 G1 v1) (fun F2 H2 G2 b e2 rs2 q2 => ?_) ((r.ex.mono e1).at_ st1)
  cases b with
  | false => exact r.nx F2 H2 G2 _ _ (e1.trans e2) rs2 (st1.mono e2) q2
  | true =>
    refine ⟨fun σ' H' => ∃ F' s' G', FSame F F' ∧ RS X.K F' H' G' ∧ RepSt X.K F' σ' s' ∧ ∃ m', m' < m ∧ V m' s' G', fun σ' H' hN => ?_, ?_⟩
    · obtain ⟨F', s', G', e', rs', st', m', lt, v'⟩ := hN
      exact ⟨m', lt, F', s', G', e', rs', st', v'⟩
    · refine a F2 σ1 H2 s1 G2 _ _ rs2 (st1.mono e2) q2 ⟨?_, r.rt.mono (e1.trans e2), r.ex.mono (e1.trans e2), r.nx.mono (e1.trans e2), ?_⟩
      · exact fun F' H' G' σ' s' e' rs' st' q' => ⟨F', s', G', (e1.trans e2).trans e', rs', st', q'⟩
      · exact fun F' H' G' σ' s' e' rs' st' q' => ⟨F', s', G', (e1.trans e2).trans e', rs', st', q'⟩
/-- what a loop walks: n items, the i-th by what is known; at each turn it may still be there -/
structure DIt where
  n : Nat
  item : Nat → D → Prop
  here : Gp → Prop
abbrev DTI := DSt → Gp → (DIt → Gp → Prop) → DX → Prop
structure ItR (K : PySem.W.Frag) (F : Fp) (J : It) (I : DIt) : Prop where
  stop : ∀ F' H G, FSame F F' → RS K F' H G → I.here G → J.stop I.n H
  go : ∀ F' H G i, FSame F F' → RS K F' H G → I.here G → i < I.n → J.go i H
  yld : ∀ F' H G i x H', FSame F F' → RS K F' H G → I.here G → i < I.n → J.yld i H x H' → ∃ F2 d, FSame F' F2 ∧ RS K F2 H' G ∧ Rep K F2 x d ∧ I.item i d
def AI (K : PySem.W.Frag) (W : WX) (t : TI) (d : DTI) : Prop := ∀ F σ H s G Qd Ed (Q : It → Hp → Prop), RS K F H G → RepSt K F σ s → d s G Qd Ed → (∀ F' H' G' J I, FSame F F' → RS K F' H' G' → ItR K F' J I → Qd I G' → Q J H') → ContX K F W σ Ed → t σ H Q
structure DI (X : Cx) (W : WX) (tg e : Expr) (d : DTI) : Prop where
  ex : ∃ t, PI X tg e t ∧ AI X.K W t d
def forGo (I : DIt) (g : DTG) (b : DTS) (D : DEnds) (s : DSt) (G1 : Gp) : Prop := ∃ V : Nat → DSt → Gp → Prop, V 0 s G1 ∧ (∀ i s' G', i ≤ I.n → V i s' G' → I.here G') ∧
  (∀ i x s' G', i < I.n → I.item i x → V i s' G' → g x s' G' fun s2 G2 => b { D with nx := V (i + 1), ct := V (i + 1), bk := D.nx } s2 G2) ∧ ∀ s' G', V I.n s' G' → D.nx s' G'
abbrev dFor (di : DTI) (g : DTG) (b : DTS) : DTS := fun D s G => di s G (fun I G1 => forGo I g b D s G1) (fun x G1 => D.ex x s G1)
theorem ds_for {tg iter : Expr} {body : List Stmt} {di : DTI} {g : DTG} (po : PassesOwn (model X.prog X.w) X.A X.env X.xe) (hi : DI X W tg iter di) (hg : DG X tg g) (hb : DSs X W body d) (hc : X.calm = true := by rfl)
    (hs : ∀ x, foldedSetIterable iter X.env x = pure x := by intro _; rfl) : DS X W (.For tg iter body [] pos) (dFor di g d) := by
  obtain ⟨ti, pi_, ai⟩ := hi
  obtain ⟨tg', pg', ag⟩ := hg
  obtain ⟨t, p, a⟩ := hb
  refine ⟨⟨_, ps_for po hc pi_ pg' p hs, fun F σ H s G Dd E rs st q r => ?_⟩⟩
  refine ai F σ H s G _ _ _ rs st q (fun F1 H1 G1 J I e1 rs1 ir q1 => ?_) (r.ex.at_ st)
  obtain ⟨V, v0, here, turn, done⟩ := q1
  refine ⟨fun i m σ' H' => i + m = I.n ∧ ∃ F' s' G', FSame F1 F' ∧ RS X.K F' H' G' ∧ RepSt X.K F' σ' s' ∧ V i s' G', ⟨I.n, Nat.zero_add _, F1, s, G1, FSame.refl F1, rs1, st.mono e1, v0⟩, fun i m σ2 H2 hW => ?_⟩
  obtain ⟨em, F2, s2, G2, e2, rs2, st2, v2⟩ := hW
  by_cases hlt : i < I.n
  · refine .inr ⟨ir.go F2 H2 G2 i e2 rs2 (here i s2 G2 (Nat.le_of_lt hlt) v2) hlt, fun σ' H' => ∃ F' s' G', FSame F1 F' ∧ RS X.K F' H' G' ∧ RepSt X.K F' σ' s' ∧ V (i + 1) s' G', fun σ' H' hN => ?_, fun x H3 hy => ?_⟩
    · exact ⟨m - 1, by omega, by omega, hN⟩
    · obtain ⟨F3, dx, e3, rs3, rx, it⟩ := ir.yld F2 H2 G2 i x H3 e2 rs2 (here i s2 G2 (Nat.le_of_lt hlt) v2) hlt hy
      refine ag F3 σ2 H3 s2 G2 x dx _ _ rs3 (st2.mono e3) rx (turn i dx s2 G2 hlt it v2) fun F4 H4 G4 σ4 s4 e4 rs4 st4 q4 => ?_
      have e14 : FSame F1 F4 := (e2.trans e3).trans e4
      refine a F4 σ4 H4 s4 G4 _ _ rs4 st4 q4 ⟨?_, r.rt.mono (e1.trans e14), r.ex.mono (e1.trans e14), r.nx.mono (e1.trans e14), ?_⟩
      · exact fun F' H' G' σ' s' e' rs' st' q' => ⟨F', s', G', e14.trans e', rs', st', q'⟩
      · exact fun F' H' G' σ' s' e' rs' st' q' => ⟨F', s', G', e14.trans e', rs', st', q'⟩
  · have ei : i = I.n := by omega
    subst ei
    exact .inl ⟨ir.stop F2 H2 G2 e2 rs2 (here _ s2 G2 (Nat.le_refl _) v2), r.nx F2 H2 G2 _ _ (e1.trans e2) rs2 st2 (done s2 G2 v2)⟩
/-! what is walked -/
def itInts (lo : Int) (n : Nat) : DIt := ⟨n, fun i x => x = .int (lo + i), fun _ => True⟩
theorem itr_rng {K : PySem.W.Frag} {F : Fp} {lo : Int} {n : Nat} : ItR K F (Itr lo n) (itInts lo n) := ⟨fun _ _ _ _ _ _ => Nat.le_refl n, fun _ _ _ i _ _ _ h => h, fun F' H G i x H' e rs _ h y => by
  obtain ⟨rfl, rfl⟩ := y
  exact ⟨F', .int (lo + i), FSame.refl F', rs, .int _, rfl⟩⟩
def Sm (i : Int) : Prop := -(2 ^ 62) ≤ i ∧ i < 2 ^ 62
abbrev dRng1 (dA : DTA) : DTI := fun s G Q E => dA s G (fun xs G1 => match xs with
  | [.int j] => Sm j ∧ Q (itInts 0 j.toNat) G1
  | _ => False) E
abbrev dRng2 (dA : DTA) : DTI := fun s G Q E => dA s G (fun xs G1 => match xs with
  | [.int i, .int j] => (Sm i ∧ Sm j) ∧ Q (itInts i (j - i).toNat) G1
  | _ => False) E
variable {tg a b : Expr} {dA : DTA} {p : Pos}
theorem di_rng1 (hm : X.mg "range" = none) (h : DA X W [a] dA) (hg : Gl X "range" := by rfl) (hs : starEach [a] X.env = [(false, eval a X.env)] := by rfl) : DI X W tg (.Call (.Name "range" p) [a] [] pos) (dRng1 dA) := by
  obtain ⟨t, pa, q⟩ := h
  refine ⟨⟨_, pi_range1 hg hm pa hs, fun F σ H s G Qd Ed Q rs st hq c cx => q F σ H s G _ Ed _ rs st hq (fun F1 H1 G1 vs xs e1 rs1 rv q1 => ?_) cx⟩⟩
  split at q1
  · obtain ⟨v, rfl, r1⟩ := repl1 rv
    cases r1
    exact ⟨_, rfl, q1.1.1, q1.1.2, c F1 H1 G1 _ _ e1 rs1 itr_rng q1.2⟩
  · exact q1.elim
theorem di_rng2 (hm : X.mg "range" = none) (h : DA X W [a, b] dA) (hg : Gl X "range" := by rfl) (hs : starEach [a, b] X.env = [(false, eval a X.env), (false, eval b X.env)] := by rfl) (hs2 : starEach [b] X.env = [(false, eval b X.env)] := by rfl) : DI X W tg (.Call (.Name "range" p) [a, b] [] pos) (dRng2 dA) := by
  obtain ⟨t, pa, q⟩ := h
  refine ⟨⟨_, pi_range2 hg hm pa hs hs2, fun F σ H s G Qd Ed Q rs st hq c cx => q F σ H s G _ Ed _ rs st hq (fun F1 H1 G1 vs xs e1 rs1 rv q1 => ?_) cx⟩⟩
  split at q1
  · obtain ⟨v, u, rfl, r1, r2⟩ := repl2 rv
    cases r1
    cases r2
    exact ⟨_, _, rfl, ⟨q1.1.1.1, q1.1.1.2, q1.1.2.1, q1.1.2.2⟩, c F1 H1 G1 _ _ e1 rs1 itr_rng q1.2⟩
  · exact q1.elim
theorem for_rng {lo : Int} {n : Nat} {g : DTG} {b : DTS} {D : DEnds} {s : DSt} {G : Gp} (V : Nat → DSt → Gp → Prop) (h0 : V 0 s G)
    (turn : ∀ i s' G', i < n → V i s' G' → g (.int (lo + i)) s' G' fun s2 G2 => b { D with nx := V (i + 1), ct := V (i + 1), bk := D.nx } s2 G2) (done : ∀ s' G', V n s' G' → D.nx s' G') : forGo (itInts lo n) g b D s G :=
  ⟨V, h0, fun _ _ _ _ _ => trivial, fun i x s' G' hi it v => by
    cases it
    exact turn i s' G' hi v, done⟩
/-- the items of a list that stands still, of a tuple -/
def itList (ds : List D) : DIt := ⟨ds.length, fun i x => ds[i]? = some x, fun _ => True⟩
/-- .. of a list that might change, as long as it doesn't -/
def itRef (a : Addr) (ds : List D) : DIt := ⟨ds.length, fun i x => ds[i]? = some x, fun G => G a = some (.lst ds)⟩
theorem for_lst {ds : List D} {g : DTG} {b : DTS} {D : DEnds} {s : DSt} {G : Gp} (V : Nat → DSt → Gp → Prop) (h0 : V 0 s G)
    (turn : ∀ i x s' G', ds[i]? = some x → V i s' G' → g x s' G' fun s2 G2 => b { D with nx := V (i + 1), ct := V (i + 1), bk := D.nx } s2 G2) (done : ∀ s' G', V ds.length s' G' → D.nx s' G') : forGo (itList ds) g b D s G :=
  ⟨V, h0, fun _ _ _ _ _ => trivial, fun i x s' G' _ it v => turn i x s' G' it v, done⟩
theorem for_ref {a : Addr} {ds : List D} {g : DTG} {b : DTS} {D : DEnds} {s : DSt} {G : Gp} (V : Nat → DSt → Gp → Prop) (h0 : V 0 s G) (here : ∀ i s' G', V i s' G' → G' a = some (.lst ds))
    (turn : ∀ i x s' G', ds[i]? = some x → V i s' G' → g x s' G' fun s2 G2 => b { D with nx := V (i + 1), ct := V (i + 1), bk := D.nx } s2 G2) (done : ∀ s' G', V ds.length s' G' → D.nx s' G') : forGo (itRef a ds) g b D s G :=
  ⟨V, h0, fun i s' G' _ v => here i s' G' v, fun i x s' G' _ it v => turn i x s' G' it v, done⟩
theorem itr_list {K : PySem.W.Frag} {F : Fp} {a : Addr} {xs : List V} {ds : List D} (h : F a = some (.ob (.lst xs))) (r : RepL K F xs ds) : ItR K F (Itl K a) (itList ds) := by
  have sq : ∀ F' H G, FSame F F' → RS K F' H G → SqL K H a xs := fun F' H G e rs => .inl (.inl (rs.fr _ _ (e _ _ h)))
  refine ⟨fun F' H G e rs _ => ⟨xs, sq F' H G e rs, by rw [r.length]; exact Nat.le_refl _⟩, fun F' H G i e rs _ hi => ?_, fun F' H G i x H' e rs _ hi y => ?_⟩
  · obtain ⟨d, hd⟩ : ∃ d, ds[i]? = some d := ⟨_, List.getElem?_eq_getElem hi⟩
    obtain ⟨x, hx, _⟩ := r.get hd
    exact ⟨xs, x, sq F' H G e rs, hx⟩
  · obtain ⟨rfl, y⟩ := y
    obtain ⟨d, hd⟩ : ∃ d, ds[i]? = some d := ⟨_, List.getElem?_eq_getElem hi⟩
    obtain ⟨x', hx, rx⟩ := r.get hd
    have ex : x' = x := Option.some.inj (hx.symm.trans (y xs (sq F' _ G e rs)))
    subst ex
    exact ⟨F', d, FSame.refl F', rs, rx.mono e, hd⟩
theorem itr_tup {K : PySem.W.Frag} {F : Fp} {a : Addr} {xs : List V} {ds : List D} (h : SqT K (toH F) a xs) (r : RepL K F xs ds) : ItR K F (Itt K a) (itList ds) := by
  have sq : ∀ F' H G, FSame F F' → RS K F' H G → SqT K H a xs := fun F' H G e rs => same_t rs.same (same_t e.toH h)
  refine ⟨fun F' H G e rs _ => ⟨xs, sq F' H G e rs, by rw [r.length]; exact Nat.le_refl _⟩, fun F' H G i e rs _ hi => ?_, fun F' H G i x H' e rs _ hi y => ?_⟩
  · obtain ⟨d, hd⟩ : ∃ d, ds[i]? = some d := ⟨_, List.getElem?_eq_getElem hi⟩
    obtain ⟨x, hx, _⟩ := r.get hd
    exact ⟨xs, x, sq F' H G e rs, hx⟩
  · obtain ⟨rfl, y⟩ := y
    obtain ⟨d, hd⟩ : ∃ d, ds[i]? = some d := ⟨_, List.getElem?_eq_getElem hi⟩
    obtain ⟨x', hx, rx⟩ := r.get hd
    have ex : x' = x := Option.some.inj (hx.symm.trans (y xs (sq F' _ G e rs)))
    subst ex
    exact ⟨F', d, FSame.refl F', rs, rx.mono e, hd⟩
theorem itr_ref {K : PySem.W.Frag} {F : Fp} {a : Addr} {ds : List D} : ItR K F (Itl K a) (itRef a ds) := by
  refine ⟨fun F' H G e rs h => ?_, fun F' H G i e rs h hi => ?_, fun F' H G i x H' e rs h hi y => ?_⟩
  · obtain ⟨xs, h1, r⟩ := (rs.gf a _ h).2
    exact ⟨xs, .inl (.inl h1), by rw [r.length]; exact Nat.le_refl _⟩
  · obtain ⟨xs, h1, r⟩ := (rs.gf a _ h).2
    obtain ⟨d, hd⟩ : ∃ d, ds[i]? = some d := ⟨_, List.getElem?_eq_getElem hi⟩
    obtain ⟨x, hx, _⟩ := r.get hd
    exact ⟨xs, x, .inl (.inl h1), hx⟩
  · obtain ⟨rfl, y⟩ := y
    obtain ⟨xs, h1, r⟩ := (rs.gf a _ h).2
    obtain ⟨d, hd⟩ : ∃ d, ds[i]? = some d := ⟨_, List.getElem?_eq_getElem hi⟩
    obtain ⟨x', hx, rx⟩ := r.get hd
    have ex : x' = x := Option.some.inj (hx.symm.trans (y xs (.inl (.inl h1))))
    subst ex
    exact ⟨F', d, FSame.refl F', rs, rx, hd⟩
/-- a list or a tuple, by what comes -/
def iSeq (K : PySem.W.Frag) (tl : TE) : TI := fun σ H R => tl σ H fun x H1 => ∃ a, x = .ref a ∧ (((∃ xs, SqL K H1 a xs) ∧ R (Itl K a) H1) ∨ ((∃ xs, SqT K H1 a xs) ∧ R (Itt K a) H1))
theorem pi_seq {l : Expr} {tl : TE} (hl : PE X l tl) : PI X tg l (iSeq X.K tl) := by
  constructor
  intro pins s σ H R I h
  apply thn (hl.run pins s σ H _ I h)
  intro v s1 hv
  obtain ⟨x, H1, I1, r1, a, e, q1⟩ := hv
  subst e
  cases r1
  have fp0 : ∀ b ∈ [s1.heap.objs.size], FpOk X pins H1 b := fun b hb => by
    rw [List.mem_singleton.mp hb]
    exact I1.fpOk (Nat.le_refl _) (I1.hok.fresh (Nat.le_refl _))
  have kp : ∀ o : Obj, ∀ (b : Addr) (u : Obj), s1.heap.get? b = some u → (s1.heap.push o).get? b = some u := fun o b u q => Heap.get?_push_of_some _ q
  cases q1 with
  | inl q1 =>
    obtain ⟨⟨xs, hq⟩, q⟩ := q1
    have pl := I1.list hq
    obtain ⟨its, rv, p, hz⟩ := pl
    apply wpAny_pyIter_list p.isList
    exact ⟨_, [s1.heap.objs.size], _, Itl X.K a, H1, rfl, I1.kept (t' := s1.toks) (kp _), turn_list a _, ⟨_, Heap.get?_push_size _ rfl, rfl, rfl⟩, fp0, q⟩
  | inr q1 =>
    obtain ⟨⟨xs, hq⟩, q⟩ := q1
    have pl := I1.tuple hq
    obtain ⟨its, rv, p, hz⟩ := pl
    apply wpAny_pyIter_tuple (show s1.heap.IsTuple a its.toArray from p)
    exact ⟨_, [s1.heap.objs.size], _, Itt X.K a, H1, rfl, I1.kept (t' := s1.toks) (kp _), turn_tuple a _, ⟨_, Heap.get?_push_size _ rfl, rfl, rfl⟩, fp0, q⟩
def itScr (ns : List Int) : DIt := ⟨ns.length, fun i x => ∃ n, ns[i]? = some n ∧ x = .int n, fun _ => True⟩
theorem itr_scr {K : PySem.W.Frag} {F : Fp} {a : Addr} {ns : List Int} (h : SqL K (toH F) a (ns.map V.int)) : ItR K F (Itl K a) (itScr ns) := by
  have sq : ∀ F' H G, FSame F F' → RS K F' H G → SqL K H a (ns.map V.int) := fun F' H G e rs => rs.same.seq (e.toH.seq h)
  refine ⟨fun F' H G e rs _ => ⟨_, sq F' H G e rs, by rw [List.length_map]; exact Nat.le_refl _⟩, fun F' H G i e rs _ hi => ?_, fun F' H G i x H' e rs _ hi y => ?_⟩
  · exact ⟨_, .int ns[i], sq F' H G e rs, by rw [List.getElem?_map, List.getElem?_eq_getElem hi]; rfl⟩
  · obtain ⟨rfl, y⟩ := y
    have hx : (ns.map V.int)[i]? = some (.int ns[i]) := by rw [List.getElem?_map, List.getElem?_eq_getElem hi]; rfl
    have ex : V.int ns[i] = x := Option.some.inj (hx.symm.trans (y _ (sq F' _ G e rs)))
    subst ex
    exact ⟨F', .int ns[i], FSame.refl F', rs, .int _, ns[i], List.getElem?_eq_getElem hi, rfl⟩
abbrev dItSeq (de : DTE) : DTI := fun s G Q E => de s G (fun x G1 => match x with
  | .tup ds => Q (itList ds) G1
  | .lst ds => Q (itList ds) G1
  | .scr ns => Q (itScr ns) G1
  | .ref a => match G1 a with
    | some (.lst ds) => Q (itRef a ds) G1
    | _ => False
  | _ => False) E
theorem di_seq (h : DE X W e de) : DI X W tg e (dItSeq de) := by
  obtain ⟨t, p, q⟩ := h
  refine ⟨⟨_, pi_seq p, fun F σ H s G Qd Ed Q rs st hq c cx => q F σ H s G _ Ed _ rs st hq (fun F1 H1 G1 v x e1 rs1 rv q1 => ?_) cx⟩⟩
  cases rv with
  | @tup a xs ds h1 r1 => exact ⟨a, rfl, .inr ⟨⟨xs, same_t rs1.same h1⟩, c F1 H1 G1 _ _ e1 rs1 (itr_tup h1 r1) q1⟩⟩
  | @lst a xs ds h1 r1 => exact ⟨a, rfl, .inl ⟨⟨xs, .inl (.inl (rs1.fr _ _ h1))⟩, c F1 H1 G1 _ _ e1 rs1 (itr_list h1 r1) q1⟩⟩
  | @scr a ns h1 => exact ⟨a, rfl, .inl ⟨⟨_, rs1.same.seq h1⟩, c F1 H1 G1 _ _ e1 rs1 (itr_scr h1) q1⟩⟩
  | ref a =>
    dsimp only at q1
    split at q1
    · rename_i ds eg
      obtain ⟨xs, h1, r1⟩ := (rs1.gf a _ eg).2
      exact ⟨a, rfl, .inl ⟨⟨xs, .inl (.inl h1)⟩, c F1 H1 G1 _ _ e1 rs1 itr_ref q1⟩⟩
    · exact q1.elim
  | _ => exact False.elim q1
end
end Dl
set_option Elab.async false
set_option linter.all false
set_option maxRecDepth 100000
set_option maxHeartbeats 4000000
/-! The data layer: what the top has left, by facts that are checked; the law's end. -/
namespace Dl
open PySem PySem.Spec PyProof.Rows L2
set_option autoImplicit false
/-! ### a module's constant, read off the written part -/
mutual
def repB (K : PySem.W.Frag) : D → Value → Bool
  | .non, .none => true
  | .bl b, .bool c => b == c
  | .int i, .int j _ => decide (i = j)
  | .str x, .str y _ => decide (x = y)
  | .glo x, .ref a => decide (a = He.ga K x)
  | .tup ds, .ref a => match K.lookup a with
    | some ⟨.type c, _, .seq its _, _⟩ => decide (c = "tuple") && (decide (its.size ≤ sizeLine) && repBs K ds its.toList)
    | _ => false
  | _, _ => false
def repBs (K : PySem.W.Frag) : List D → List Value → Bool
  | [], [] => true
  | d :: ds, v :: vs => repB K d v && repBs K ds vs
  | _, _ => false
end
mutual
theorem repB_ok {K : PySem.W.Frag} : ∀ {d : D} {u : Value}, repB K d u = true → ∃ v, RelV v u ∧ ∀ F, Rep K F v d
  | .non, u, h => by
    cases u with
    | none => exact ⟨.non, rfl, fun _ => .non⟩
    | _ => simp [repB] at h
  | .bl b, u, h => by
    cases u with
    | bool c =>
      have e : b = c := by simpa [repB] using h
      subst e
      exact ⟨.bl b, rfl, fun _ => .bl b⟩
    | _ => simp [repB] at h
  | .int i, u, h => by
    cases u with
    | int j t =>
      have e : i = j := by simpa [repB] using h
      subst e
      exact ⟨.int i, ⟨t, rfl⟩, fun _ => .int i⟩
    | _ => simp [repB] at h
  | .str i, u, h => by
    cases u with
    | str j t =>
      have e : i = j := by simpa [repB] using h
      subst e
      exact ⟨.str i, ⟨t, rfl⟩, fun _ => .str i⟩
    | _ => simp [repB] at h
  | .glo x, u, h => by
    cases u with
    | ref a =>
      have e : a = He.ga K x := by simpa [repB] using h
      subst e
      exact ⟨.ref (He.ga K x), rfl, fun _ => .glo x⟩
    | _ => simp [repB] at h
  | .tup ds, u, h => by
    cases u with
    | ref a =>
      unfold repB at h
      split at h
      · rename_i c dd its n sl e
        obtain ⟨h1, h2⟩ := He.ba h
        obtain ⟨h3, h4⟩ := He.ba h2
        have hc : c = "tuple" := of_decide_eq_true h1
        subst hc
        obtain ⟨vs, r1, r2⟩ := repBs_ok h4
        exact ⟨.ref a, rfl, fun F => .tup (.inr ⟨_, its, n, e, rfl, rfl, of_decide_eq_true h3, r1⟩) (r2 F)⟩
      · cases h
    | _ => simp [repB] at h
  | .ref _, u, h => by cases u <;> simp [repB] at h
  | .ty _, u, h => by cases u <;> simp [repB] at h
  | .lst _, u, h => by cases u <;> simp [repB] at h
  | .strm, u, h => by cases u <;> simp [repB] at h
  | .scr _, u, h => by cases u <;> simp [repB] at h
theorem repBs_ok {K : PySem.W.Frag} : ∀ {ds : List D} {us : List Value}, repBs K ds us = true → ∃ vs, Vals vs us ∧ ∀ F, RepL K F vs ds
  | [], [], _ => ⟨[], .nil, fun _ => .nil⟩
  | [], _ :: _, h => by simp [repBs] at h
  | _ :: _, [], h => by simp [repBs] at h
  | d :: ds, u :: us, h => by
    unfold repBs at h
    obtain ⟨h1, h2⟩ := He.ba h
    obtain ⟨v, r1, r2⟩ := repB_ok h1
    obtain ⟨vs, s1, s2⟩ := repBs_ok h2
    exact ⟨v :: vs, .cons r1 s1, fun F => .cons (r2 F) (s2 F)⟩
end
/-! ### facts -/
inductive Fc where
  | he (f : He.Fa)
  | con (x : Str) (d : D)
  | bfun (x : Str) (id : String)
  | catch_ (x : Str) (l : List (Str × Bool))
  | kits (l : List ((Str × (Str ⊕ String)) × Bool))
def excB (K : PySem.W.Frag) (D : Addr) : Bool := decide (PySem.W.findIn K (.ref D) "__getattribute__" = some (some (.builtin "BaseException.__getattribute__"))) && (decide (PySem.W.findIn K (.ref D) "__getattr__" = some none) && (decide (PySem.W.subIn K (.ref D) (.type "BaseException") = some true) && (PySem.W.hasDictIn K D && (decide (PySem.W.findIn K (.ref D) "__class__" = some (some (.builtin "object.__class__"))) &&
  (decide (PySem.W.specialIn K (.builtin "object.__class__") "__get__" = some (some (.builtin "getset_descriptor.__get__"))) && (decide (PySem.W.takesIn K (.builtin "object.__class__") = some true) && decide (PySem.W.mroIn K D (.type "object") = some true)))))))
def Fc.ok (K : PySem.W.Frag) : Fc → Bool
  | .he f => f.ok K
  | .con x d => match PySem.W.nsIn K mainGlobals x with
    | some (some v) => repB K d v
    | _ => false
  | .bfun x id => He.eqO (PySem.W.nsIn K mainGlobals x) (some (some (.builtin id)))
  | .catch_ x l => l.all fun p => decide (PySem.W.exmOne K (.ref (He.ga K p.1)) (.ref (He.ga K x)) = some p.2)
  | .kits l => l.all fun p => excB K (He.ga K p.1.1) && decide (PySem.W.kitOne K (.ref (He.ga K p.1.1)) (match p.1.2 with
    | .inl y => .ref (He.ga K y)
    | .inr n => .type n) = some p.2)
section
variable {K : PySem.W.Frag} {h : Heap} {mg : Str → Option Value}
theorem con_ok (X : K.In h) (G : h.Ns mainGlobals mg) {x : Str} {d : D} (c : (Fc.con x d).ok K = true) : ∃ u, mg x = some u ∧ GloV K u d := by
  have c2 : (match PySem.W.nsIn K mainGlobals x with
    | some (some v) => repB K d v
    | _ => false) = true := c
  split at c2
  · rename_i v e
    exact ⟨v, PySem.W.mg_of X G e, repB_ok c2⟩
  · cases c2
theorem bfun_ok (X : K.In h) (G : h.Ns mainGlobals mg) {x : Str} {id : String} (c : (Fc.bfun x id).ok K = true) : mg x = some (.builtin id) := PySem.W.mg_of X G (He.eqO_ok c)
theorem glo_ok (X : K.In h) (G : h.Ns mainGlobals mg) {x : Str} (c : (Fc.he (.glo x)).ok K = true) : mg x = some (.ref (He.ga K x)) := He.glo_ok X G c
theorem free_ok (X : K.In h) (G : h.Ns mainGlobals mg) {x : Str} (c : (Fc.he (.free x)).ok K = true) : mg x = none := He.free_ok X G c
theorem exc_ok (X : K.In h) (G : h.Ns mainGlobals mg) {x : Str} (g : (Fc.he (.glo x)).ok K = true) (c : (Fc.he (.exc x)).ok K = true) : ExcF K mg x := ⟨He.glo_ok X G g, He.exc_ok c⟩
end
abbrev AlM : Type := Bool × List He.FnW
def obsM (fa : List Fc) (fn : List He.DefD) (K : PySem.W.Frag) : AlM := ((fa.all fun f => f.ok K) && fn.all fun d => d.ok K, fn.map fun d => He.fnW K d.at_)
def valM (fn : List He.DefD) : AlM := (true, fn.map He.DefD.val)
def SaysM (fa : List Fc) (fn : List He.DefD) (K : PySem.W.Frag) : Prop := obsM fa fn K = valM fn
def obsMG (n : Nat) (fa : List Fc) (fn : List He.DefD) (g : Addr → Option Obj) : AlM := obsM fa fn (He.frG g (He.asD g n))
def hookM (n : Nat) (fa : List Fc) (fn : List He.DefD) : PySem.W.Hook where
  α := AlM
  obs := fun s => obsMG n fa fn s.heap.get?
  val := fun _ => valM fn
  says := fun _ h => ∃ K : PySem.W.Frag, K.In h ∧ SaysM fa fn K
  of := fun _ _ e => ⟨_, He.frG_in, e⟩
  keeps := fun _ _ _ ⟨K, hK, c⟩ k => ⟨K, PySem.W.Frag.In.keeps hK k, c⟩
theorem obsMG_eq {n : Nat} {fa : List Fc} {fn : List He.DefD} {g : Addr → Option Obj} {s : Shared} (h : ∀ a, g a = s.heap.get? a) : obsMG n fa fn g = (hookM n fa fn).obs s := by
  have e : g = s.heap.get? := funext h
  rw [e] <;> rfl
section
variable {fa : List Fc} {fn : List He.DefD} {K : PySem.W.Frag}
theorem SaysM.fact (c : SaysM fa fn K) (i : Nat) {f : Fc} (h : fa[i]? = some f := by rfl) : f.ok K = true :=
  List.all_eq_true.mp (He.ba (show ((fa.all fun f => f.ok K) && fn.all fun d => d.ok K) = true from congrArg (fun z : AlM => z.1) c)).1 f (List.mem_of_getElem? h)
theorem SaysM.def_ (c : SaysM fa fn K) (i : Nat) {d : He.DefD} (h : fn[i]? = some d := by rfl) : ∃ fd, FunD K d.name d.qual d.params d.body d.scope (d.dvs K) (d.kws K) (He.fAd K d.at_) fd := by
  have all := (He.ba (show ((fa.all fun f => f.ok K) && fn.all fun d => d.ok K) = true from congrArg (fun z : AlM => z.1) c)).2
  have e2 := congrArg (fun z : List He.FnW => z[i]?) (show fn.map (fun d => He.fnW K d.at_) = fn.map He.DefD.val from congrArg (fun z : AlM => z.2) c)
  have e2 : (fn.map fun d => He.fnW K d.at_)[i]? = (fn.map He.DefD.val)[i]? := e2
  rw [List.getElem?_map, List.getElem?_map, h] at e2
  exact He.DefD.funD (Option.some.inj e2) (List.all_eq_true.mp all d (List.mem_of_getElem? h))
end
/-! ### the law -/
/-- the law hands back True, whatever the script -/
def spLaw : DSp := fun ds G Q _ => ∃ ns : List Int, ds = [.scr ns] ∧ ns.length ≤ 63 ∧ (∀ z ∈ ns, Builtin.Int.intBits z ≤ 1048576) ∧ ∀ G', Q (.bl true) G'
theorem walk_dl {l : PySem.W.OpenLaw} {k : Nat} {q : Program} {loose : List Str} {XP : (Str → Option Value) → Heap → Prop} {d : DefRec} {x : Str} {fa : List Fc} {fn : List He.DefD} {nn : Nat}
    (hn : l.most = some 63) (hdf : d.params.defaults = []) (hr : Room k callerA)
    (F : ∀ (w : World) (mg : Str → Option Value) (h : Heap) (K : PySem.W.Frag) (a : Addr), K.In h → h.Ns mainGlobals mg → SaysM fa fn K → mg d.name = some (.ref a) →
      ∃ fd : FuncData, (∀ (s : Shared) (u : Value), BindsTo s fd ⟨[u], []⟩ [(x, u)]) ∧ ∀ base : Heap, K.In base → base.Ns mainGlobals mg → DFn l.prog w K mg base k a fd [x] spLaw) :
    PySem.W.WalkO q loose XP (hookM nn fa fn).says l.row.toRowW d [] (fun f vs => PySem.call f vs) := by
  refine LamX.walk_ofTsE (l := l) (n := 63) (k := k) (x := x) (CX := fun w => L2.CX l.prog w) hn (by decide) hdf hr (fun w mg a h Y G hmg => ?_) (fun w H s e s' z => ?_)
  · obtain ⟨K, KX, c⟩ := Y
    obtain ⟨fd, hb, hF⟩ := F w mg h K a KX G c hmg
    refine ⟨K, KX, fd, [], lift K spLaw, fun _ z => (nomatch z), fun _ z => (nomatch z), fun _ z => (nomatch z), hb, fun H a ns hl hbits _ hS => ?_, fun base h1 h2 _ => hF base h1 h2⟩
    have eH : toH (fun b => (H b).map FO.ob) = H := by
      funext b
      show (match (H b).map FO.ob with
        | some (FO.ob o) => some o
        | _ => none) = H b
      cases H b <;> rfl
    refine ⟨fun b => (H b).map FO.ob, fun _ => none, [.scr ns], fun d _ => d = .bl true, fun _ _ => False, ⟨fun b o e => ?_, fun b e => ?_, fun b g e => nomatch e⟩, .cons (.scr (by rw [eH]; exact hS)) .nil, ⟨ns, rfl, hl, hbits, fun _ => rfl⟩, fun F' H' G' v x _ _ rv e => ?_, fun _ _ _ _ _ _ _ _ _ z => z⟩
    · cases e1 : H b with
      | none =>
        rw [e1] at e
        cases e
      | some u =>
        rw [e1] at e
        cases e
        rfl
    · cases e1 : H b with
      | none =>
        rw [e1] at e
        cases e
      | some u =>
        rw [e1] at e
        cases e
    · subst e
      cases rv
      rfl
  · obtain ⟨_, _, _, _, _, _, _, _, _, _, _, _, z⟩ := z
    exact z
end Dl
set_option Elab.async false
set_option linter.all false
set_option maxRecDepth 100000
set_option maxHeartbeats 4000000
namespace Dl
open PySem PySem.Spec PyProof.Rows L2
set_option autoImplicit false
abbrev gSub : G2 := gI0 fun i j => .int (i - j)
abbrev gAddI : G2 := gI0 fun i j => .int (i + j)
abbrev gDiv : G2 := gI CDivW fun i j => .int (i / j)
abbrev gDivN : G2 := gI CDivN fun i j => .int (i.fdiv j)
abbrev gMod : G2 := gI (fun _ j => 0 < j) fun i j => .int (i % j)
abbrev gModN : G2 := gI (fun _ j => j ≠ 0) fun i j => .int (i.fmod j)
abbrev gPow : G2 := gI CPow fun i j => .int (i ^ j.toNat)
abbrev gLt : G2 := gI0 fun i j => .bl (decide (i < j))
abbrev gLe : G2 := gI0 fun i j => .bl (decide (i ≤ j))
abbrev gGt : G2 := gI0 fun i j => .bl (decide (j < i))
abbrev gGe : G2 := gI0 fun i j => .bl (decide (j ≤ i))
abbrev gGcd : GC := g2 (gI0 fun i j => .int ((Nat.gcd i.natAbs j.natAbs : Nat) : Int))
abbrev gMax2 : GC := g2 (gI0 fun i j => .int (if j > i then j else i))
abbrev gMin2 : GC := g2 (gI0 fun i j => .int (if j < i then j else i))
section
variable {P : Program} {w : World} {K : PySem.W.Frag} {mg : Str → Option Value} {base : Heap} {x qual : Str} {params : Arguments} {body : List Stmt} {scope : Scope} {kws : List (Str × V)} {f : Addr} {fd : FuncData} {ps : List Str}
theorem bindsD (F : FunD K x qual params body scope [] kws f fd)
    (h : ∀ (kV doc pm : Value) (an : Option Addr) (cdv ct : Value) (us : List Value), us.length = ps.length → bindArgs (PySem.W.fnOf x qual params body scope .none kV doc pm an cdv ct) ⟨us, []⟩ = pure (ps.zip us)) : Binds K fd ps [] := F.bindsN h
end
section
variable {X : Cx} {W : WX} {e a b : Expr} {es : List Expr} {de : DTE} {dA : DTA} {pos : Pos}
theorem de_con {x : Str} {d : D} (h : ∃ u, X.mg x = some u ∧ GloV X.K u d) (hg : Gl X x := by rfl) (hd : (x == ("__debug__" : Str)) = false := by decide) : DE X W (.Name x pos) (dC d) := by
  obtain ⟨u, h1, h2⟩ := h
  exact de_glob h1 h2 hg hd
theorem de_callBf {id : String} {g : GC} {x : Str} {p : Pos} (hc : DCall X (.builtin id) g) (hm : X.mg x = some (.builtin id)) (ha : DA X W (e :: es) dA) (hg : Gl X x := by rfl) (hdb : (x == ("__debug__" : Str)) = false := by decide)
    (he : starEach (e :: es) X.env = (false, eval e X.env) :: starEach es X.env := by rfl) (hpl : (backTo pos (starEach es X.env)).any (·.1) = false := by rfl) : DE X W (.Call (.Name x p) (e :: es) [] pos) (dCB g dA) := by
  obtain ⟨r, h1, h2⟩ := hc
  obtain ⟨t, p, q⟩ := ha
  exact ⟨⟨_, pe_callBfun h1 hg hm p hdb he hpl, fun F σ H s G Qd Ed Q rs st hq c cx => q F σ H s G _ Ed _ rs st hq (fun F1 H1 G1 vs xs e1 rs1 rv q1 => h2 F1 H1 G1 vs xs Qd Q rs1 rv q1 (c.mono e1)) cx⟩⟩
/-! methods of lists -/
abbrev GM := D → List D → Gp → DK → Prop
structure DM (X : Cx) (id : String) (g : GM) : Prop where
  ex : ∃ r, MtR X id r ∧ ∀ F H G v vs x xs Qd Q, RS X.K F H G → Rep X.K F v x → RepL X.K F vs xs → g x xs G Qd → Cont X.K F Qd Q → r v vs H Q
/-- the receiver is a list that may change -/
def isL (x : D) (G : Gp) : Prop := match x with
  | .ref a => match G a with
    | some (.lst _) => True
    | _ => False
  | _ => False
theorem isL_ty {K : PySem.W.Frag} {F : Fp} {H : Hp} {G : Gp} {v : V} {x : D} (rs : RS K F H G) (r : Rep K F v x) (h : isL x G) : tyV K "list" v H := by
  cases r with
  | ref a =>
    unfold isL at h
    dsimp only at h
    split at h
    · rename_i ds eg
      obtain ⟨xs, h1, _⟩ := (rs.gf a _ eg).2
      exact .inl ⟨rfl, xs, .inl (.inl h1)⟩
    · exact h.elim
  | _ => exact False.elim h
abbrev dBM (g : GM) (do_ : DTE) (dA : DTA) : DTE := fun s G Q E => do_ s G (fun x G1 => isL x G1 ∧ dA s G1 (fun xs G2 => g x xs G2 Q) E) E
abbrev dBM0 (g : GM) (do_ : DTE) : DTE := fun s G Q E => do_ s G (fun x G1 => isL x G1 ∧ g x [] G1 Q) E
variable {o : Expr} {do_ : DTE} {name : Str} {apos cpos : Pos} {id : String} {g : GM}
theorem de_bm (pa : PlainAttrs "list") (slot : Slot "list" name id) (hty : typeOf (.builtin id) = pure (.type "method_descriptor")) (hm : DM X id g) (ho : DE X W o do_) (ha : DA X W (e :: es) dA)
    (hbase : attributeBase o name X.env (eval o X.env) = eval o X.env := by rfl)
    (hfew : ((backTo cpos (starEach (e :: es) X.env)).all (fun x => !x.1) && (backToKw cpos (keywordEach [] X.env)).all (fun x => x.1.isSome)
      && decide ((e :: es).length + ([] : List Keyword).length + (if ([] : List Keyword).isEmpty then 0 else 1) < 30)) = true := by rfl)
    (hline : (apos.endLine == cpos.line) = true := by rfl) (hs : starEach (e :: es) X.env = (false, eval e X.env) :: starEach es X.env := by rfl) (hplain : (backTo cpos (starEach es X.env)).any (·.1) = false := by rfl) :
    DE X W (.Call (.Attribute o name apos) (e :: es) [] cpos) (dBM g do_ dA) := by
  obtain ⟨r, h1, h2⟩ := hm
  obtain ⟨t, p, q⟩ := ho
  obtain ⟨u, p2, q2⟩ := ha
  refine ⟨⟨_, pe_bm pa slot hty h1 p p2 hbase hfew hline hs hplain, fun F σ H s G Qd Ed Q rs st hq c cx => q F σ H s G _ Ed _ rs st hq (fun F1 H1 G1 v x e1 rs1 rv q1 => ⟨isL_ty rs1 rv q1.1, ?_⟩) cx⟩⟩
  exact q2 F1 σ H1 s G1 _ Ed _ rs1 (st.mono e1) q1.2 (fun F2 H2 G2 vs xs e2 rs2 rvs q3 => h2 F2 H2 G2 v vs x xs Qd Q rs2 (rv.mono e2) rvs q3 (c.mono (e1.trans e2))) (cx.mono e1)
theorem de_bm0 (pa : PlainAttrs "list") (slot : Slot "list" name id) (hty : typeOf (.builtin id) = pure (.type "method_descriptor")) (hm : DM X id g) (ho : DE X W o do_)
    (hbase : attributeBase o name X.env (eval o X.env) = eval o X.env := by rfl) (hline : (apos.endLine == cpos.line) = true := by rfl) : DE X W (.Call (.Attribute o name apos) [] [] cpos) (dBM0 g do_) := by
  obtain ⟨r, h1, h2⟩ := hm
  obtain ⟨t, p, q⟩ := ho
  exact ⟨⟨_, pe_bm0 pa slot hty h1 p hbase hline, fun F σ H s G Qd Ed Q rs st hq c cx => q F σ H s G _ Ed _ rs st hq (fun F1 H1 G1 v x e1 rs1 rv q1 => ⟨isL_ty rs1 rv q1.1, h2 F1 H1 G1 v [] x [] Qd Q rs1 rv .nil q1.2 (c.mono e1)⟩) cx⟩⟩
def dmAppend : GM := fun x xs G Q => match x, xs with
  | .ref a, [y] => match G a with
    | some (.lst ds) => ds.length < sizeLine ∧ Q .non (gupd G a (.lst (ds ++ [y])))
    | _ => False
  | _, _ => False
theorem dm_append : DM X "list.append" dmAppend := ⟨⟨_, mt_append, fun F H G v vs x xs Qd Q rs rv rvs q c => by
  unfold dmAppend at q
  split at q
  · rename_i a y
    split at q
    · rename_i ds eg
      cases rv
      obtain ⟨u, rfl, ru⟩ := repl1 rvs
      obtain ⟨ys, h1, r1⟩ := (rs.gf a _ eg).2
      refine ⟨a, ys, u, rfl, rfl, h1, by rw [r1.length]; exact q.1, ?_⟩
      exact c F _ _ _ _ (FSame.refl F) (rs.setG eg (g := .lst (ds ++ [y])) ⟨_, upd_same, r1.append (.cons ru .nil)⟩) .non q.2
    · exact q.elim
  · exact q.elim⟩⟩
def dmExtend : GM := fun x xs G Q => match x, xs with
  | .ref a, [y] => match G a, lv y G with
    | some (.lst ds), some es => ds.length + es.length ≤ sizeLine ∧ Q .non (gupd G a (.lst (ds ++ es)))
    | _, _ => False
  | _, _ => False
theorem dm_extend : DM X "list.extend" dmExtend := ⟨⟨_, mt_extend, fun F H G v vs x xs Qd Q rs rv rvs q c => by
  unfold dmExtend at q
  split at q
  · rename_i a y
    split at q
    · rename_i ds es eg el
      cases rv
      obtain ⟨u, rfl, ru⟩ := repl1 rvs
      obtain ⟨ys, h1, r1⟩ := (rs.gf a _ eg).2
      obtain ⟨b, zs, rfl, h2, r2⟩ := lv_at rs ru el
      refine ⟨a, b, ys, zs, rfl, rfl, h1, h2, by rw [r1.length, r2.length]; exact q.1, ?_⟩
      exact c F _ _ _ _ (FSame.refl F) (rs.setG eg (g := .lst (ds ++ es)) ⟨_, upd_same, r1.append r2⟩) .non q.2
    · exact q.elim
  · exact q.elim⟩⟩
def dmPop : GM := fun x xs G Q => match x, xs with
  | .ref a, [] => match G a with
    | some (.lst ds) => match ds[ds.length - 1]? with
      | some d => Q d (gupd G a (.lst ds.dropLast))
      | none => False
    | _ => False
  | _, _ => False
theorem dm_pop : DM X "list.pop" dmPop := ⟨⟨_, mt_pop, fun F H G v vs x xs Qd Q rs rv rvs q c => by
  unfold dmPop at q
  split at q
  · rename_i a
    split at q
    · rename_i ds eg
      split at q
      · rename_i d ed
        cases rv
        cases rvs
        obtain ⟨ys, h1, r1⟩ := (rs.gf a _ eg).2
        obtain ⟨y, hy, ry⟩ := r1.get ed
        refine ⟨a, ys, y, rfl, rfl, h1, by rw [r1.length]; exact hy, ?_⟩
        exact c F _ _ _ _ (FSame.refl F) (rs.setG eg (g := .lst ds.dropLast) ⟨_, upd_same, r1.dropLast⟩) ry q
      · exact q.elim
    · exact q.elim
  · exact q.elim⟩⟩
/-! xs[::-1] -/
abbrev dRev (de : DTE) : DTE := fun s G Q E => de s G (fun x G1 => match lv x G1 with
  | some ds => Q (.lst ds.reverse) G1
  | none => False) E
theorem de_rev {k : Nat} {p1 p2 p3 : Pos} (h : DE X W e de) : DE X W (.Subscript e (.Slice none none (some (.UnaryOp .USub (.Constant (.int 1) k p1) p2)) p3) pos) (dRev de) := by
  obtain ⟨t, p, q⟩ := h
  refine ⟨⟨_, pe_revL p, fun F σ H s G Qd Ed Q rs st hq c cx => q F σ H s G _ Ed _ rs st hq (fun F1 H1 G1 v x e1 rs1 rv q1 => ?_) cx⟩⟩
  split at q1
  · rename_i ds el
    obtain ⟨a, xs, rfl, h1, r1⟩ := lv_at rs1 rv el
    exact ⟨a, xs, rfl, .inl (.inl h1), (c.mono e1).lst rs1 r1.reverse q1⟩
  · exact q1.elim
end
/-! comprehensions -/
def wipeD (s : DSt) : List Nat → DSt
  | [] => s
  | v :: vs => (wipeD s vs).set v none
theorem repst_wipe {K : PySem.W.Frag} {F : Fp} {σ : St} {s : DSt} (r : RepSt K F σ s) : ∀ vs : List Nat, RepSt K F (wipe σ vs) (wipeD s vs)
  | [] => r
  | v :: vs => (repst_wipe r vs).clear v none
theorem wipe_set {σ : St} {i : Nat} {x : Option V} : ∀ {vs : List Nat}, i ∈ vs → wipe (σ.set i x) vs = wipe σ vs
  | [], h => by cases h
  | v :: vs, h => by
    unfold wipe
    by_cases e : i ∈ vs
    · rw [wipe_set e]
    · have e2 : i = v := (List.mem_cons.mp h).resolve_right e
      subst e2
      have z : ∀ us : List Nat, i ∉ us → (wipe (σ.set i x) us) = (wipe σ us).set i x := fun us => by
        induction us with
        | nil => intro _; rfl
        | cons u us ih =>
          intro hn
          have n1 : i ≠ u := fun q => hn (by rw [q]; exact List.mem_cons_self)
          have n2 : i ∉ us := fun q => hn (List.mem_cons_of_mem _ q)
          show (wipe (σ.set i x) us).set u none = ((wipe σ us).set u none).set i x
          rw [ih n2, List.set_comm _ _ n1]
      rw [z vs e, List.set_set]
theorem wipe_wipe {σ : St} : ∀ vs us : List Nat, (∀ v ∈ vs, v ∈ us) → wipe (wipe σ vs) us = wipe σ us
  | [], _, _ => rfl
  | v :: vs, us, h => by
    show wipe ((wipe σ vs).set v none) us = wipe σ us
    rw [wipe_set (h v List.mem_cons_self), wipe_wipe vs us fun u hu => h u (List.mem_cons_of_mem _ hu)]
def ContW (K : PySem.W.Frag) (F : Fp) (σ0 : St) (vs : List Nat) (Qd : DSt → Gp → Prop) (Q : St → Hp → Prop) : Prop := ∀ F' H' G' σ s, FSame F F' → RS K F' H' G' → RepSt K F' σ s → wipe σ vs = wipe σ0 vs → Qd s G' → Q σ H'
structure DGv (X : Cx) (vs : List Nat) (e : Expr) (d : DTG) : Prop where
  ex : ∃ t, PG X e t ∧ ∀ F σ H s G v x Qd Q, RS X.K F H G → RepSt X.K F σ s → Rep X.K F v x → d x s G Qd → ContW X.K F σ vs Qd Q → t v σ H Q
structure DGvs (X : Cx) (vs : List Nat) (es : List Expr) (d : DTGs) : Prop where
  ex : ∃ t, PGs X es t ∧ ∀ F σ H s G us xs Qd Q, RS X.K F H G → RepSt X.K F σ s → RepL X.K F us xs → d xs s G Qd → ContW X.K F σ vs Qd Q → t us σ H Q
section
variable {X : Cx} {vs : List Nat} {pos : Pos}
theorem dgv_name (i : Nat) {x : Str} (hN : X.N.Nodup) (hv : i ∈ vs := by decide) (hi : X.N[i]? = some x := by rfl) (hx : Loc X.env.scope x := by first | exact Or.inl rfl | exact Or.inr rfl) (hf : X.fn x = true ∨ X.env.scope.names.lookup x = some .local := by first | exact .inl rfl | exact .inr rfl) : DGv X vs (.Name x pos) (dgName i) :=
  ⟨⟨_, pg_name hN hi hx hf, fun F σ H s G v x Qd Q rs st rv q c => c F H G _ _ (FSame.refl F) rs (st.set i rv) (wipe_set hv) q⟩⟩
theorem dgvs_nil : DGvs X vs [] dgNil := ⟨⟨_, pgs_nil, fun F σ H s G us xs Qd Q rs st rv q c => by
  obtain ⟨rfl, q⟩ := q
  cases rv
  exact ⟨rfl, c F H G _ _ (FSame.refl F) rs st rfl q⟩⟩⟩
theorem dgvs_cons {e : Expr} {es : List Expr} {d : DTG} {ds : DTGs} (h : DGv X vs e d) (h2 : DGvs X vs es ds) (hs : (assignEach (e :: es) X.env).map (·.2) = assign e X.env :: (assignEach es X.env).map (·.2) := by rfl) : DGvs X vs (e :: es) (dgCons d ds) := by
  obtain ⟨t, p, a⟩ := h
  obtain ⟨u, p2, a2⟩ := h2
  refine ⟨⟨_, pgs_cons p p2 hs, fun F σ H s G us xs Qd Q rs st rv q c => ?_⟩⟩
  cases rv with
  | nil => exact False.elim q
  | cons rx rr =>
    refine ⟨_, _, rfl, a F σ H s G _ _ _ _ rs st rx q fun F1 H1 G1 σ1 s1 e1 rs1 st1 w1 q1 => ?_⟩
    exact a2 F1 σ1 H1 s1 G1 _ _ Qd Q rs1 st1 (rr.mono e1) q1 fun F2 H2 G2 σ2 s2 e2 rs2 st2 w2 q2 => c F2 H2 G2 σ2 s2 (e1.trans e2) rs2 st2 (w2.trans w1) q2
theorem dgv_tup {es : List Expr} {k n : Nat} {d : DTGs} (hc : X.calm = true) (h : DGvs X vs es d)
    (hn : (assignEach es X.env).length = n := by rfl) (hst : (assignEach es X.env).findIdx? (·.1) = none := by rfl) : DGv X vs (.Tuple es k pos) (dgTup n d) := by
  obtain ⟨t, p, a⟩ := h
  refine ⟨⟨_, pg_or (pg_tup hc p hn hst) (pg_unl hc p hn hst), fun F σ H s G v x Qd Q rs st rv q c => ?_⟩⟩
  have viaL : (match lv x G with
    | some ds => ds.length = n ∧ d ds s G Qd
    | none => False) → gUnl X.K n t v σ H Q := fun q => by
    split at q
    · rename_i ds e
      obtain ⟨b, xs, rfl, h1, r1⟩ := lv_at rs rv e
      exact ⟨b, xs, rfl, .inl (.inl h1), by rw [r1.length]; exact q.1, a F σ H s G xs ds Qd Q rs st r1 q.2 c⟩
    · exact q.elim
  cases rv with
  | @tup b xs ds h1 r1 => exact .inl ⟨b, xs, rfl, same_t rs.same h1, by rw [r1.length]; exact q.1, a F σ H s G xs ds Qd Q rs st r1 q.2 c⟩
  | ref a => exact .inr (viaL q)
  | lst h r => exact .inr (viaL q)
  | str _ => exact .inr (viaL q)
  | non => exact .inr (viaL q)
  | bl _ => exact .inr (viaL q)
  | int _ => exact .inr (viaL q)
  | ty _ => exact .inr (viaL q)
  | glo _ => exact .inr (viaL q)
  | strm _ => exact .inr (viaL q)
  | scr _ => exact .inr (viaL q)
structure DTs (X : Cx) (ifs : List Expr) (d : DTT) : Prop where
  ex : ∃ t, PTs X ifs t ∧ AT X.K W0 t d
abbrev dYes : DTT := fun _ G Q _ => Q true G
theorem dts_nil : DTs X [] dYes := ⟨⟨_, pts_nil, fun F σ H s G Qd Ed Q rs st q c cx => c F H G true (FSame.refl F) rs q⟩⟩
theorem dts_one {c : Expr} {d : DTT} (h : DT X W0 c d) : DTs X [c] d := by
  obtain ⟨t, p, q⟩ := h
  exact ⟨⟨_, pts_one p, q⟩⟩
end
/-- the turns of a comprehension whose list is at p -/
def lcTurns (I : DIt) (g : DTG) (tt : DTT) (te : DTE) (s : DSt) (G1 : Gp) (p : Addr) (fin : List D → Gp → Prop) : Prop :=
  ∃ V : Nat → List D → Gp → Prop, V 0 [] (gupd G1 p (.lst [])) ∧ (∀ i acc G', i ≤ I.n → V i acc G' → G' p = some (.lst acc) ∧ I.here G') ∧
    (∀ i x acc G', i < I.n → I.item i x → V i acc G' → g x s G' fun s2 G2 => tt s2 G2 (fun b G3 => if b = true then te s2 G3 (fun y G4 => G4 p = some (.lst acc) ∧ acc.length < sizeLine ∧ V (i + 1) (acc ++ [y]) (gupd G4 p (.lst (acc ++ [y])))) X0 else V (i + 1) acc G3) X0) ∧
    ∀ acc G', V I.n acc G' → fin acc G'
abbrev dLc (di : DTI) (g : DTG) (tt : DTT) (te : DTE) (vs : List Nat) : DTE := fun s G Q E => di s G (fun I G1 => ∀ p, G1 p = none → lcTurns I g tt te (wipeD s vs) G1 p fun acc G' => Q (.lst acc) (gdel G' p)) E
abbrev dLcM (di : DTI) (g : DTG) (tt : DTT) (te : DTE) (vs : List Nat) : DTE := fun s G Q E => di s G (fun I G1 => ∀ p, G1 p = none → lcTurns I g tt te (wipeD s vs) G1 p fun _ G' => Q (.ref p) G') E
section
variable {X : Cx} {W : WX} {tg iter elt : Expr} {ifs : List Expr} {scope : Scope} {own : List (Str × Nat)} {di : DTI} {g : DTG} {tt : DTT} {te : DTE} {pos : Pos}
theorem lc_core' {K : PySem.W.Frag} {W : WX} {ti : TI} {tg : TG} {t1 : TT} {t2 : TE} {vs : List Nat} (ai : AI K W ti di)
    (ag : ∀ F σ H s G v x Qd Q, RS K F H G → RepSt K F σ s → Rep K F v x → g x s G Qd → ContW K F σ vs Qd Q → tg v σ H Q) (at_ : AT K W0 t1 tt) (ae : AE K W0 t2 te)
    {F : Fp} {σ : St} {H : Hp} {s : DSt} {G : Gp} {Ed : DX} {Q : VK} {fin : Addr → List D → Gp → Prop} (rs : RS K F H G) (st : RepSt K F σ s)
    (q : di s G (fun I G1 => ∀ p, G1 p = none → lcTurns I g tt te (wipeD s vs) G1 p (fin p)) Ed) (cx : ContX K F W σ Ed)
    (hf : ∀ F' H' G' p acc, FSame F F' → RS K F' H' G' → G' p = some (.lst acc) → fin p acc G' → Q (.ref p) H') : tLc ti tg t1 t2 vs σ H Q := by
  refine ai F σ H s G _ Ed _ rs st q (fun F1 H1 G1 J I e1 rs1 ir q1 D hD => ?_) cx
  obtain ⟨V, v0, here, turn, done⟩ := q1 D (rs1.free hD).2
  have rs0 : RS K F1 (upd H1 D (.lst [])) (gupd G1 D (.lst [])) := rs1.newG hD (g := .lst []) ⟨[], upd_same, .nil⟩
  refine ⟨fun i m H' => i + m = I.n ∧ ∃ F' acc G', FSame F1 F' ∧ RS K F' H' G' ∧ V i acc G', ⟨I.n, Nat.zero_add _, F1, [], _, FSame.refl F1, rs0, v0⟩, fun i m H2 hW => ?_⟩
  obtain ⟨em, F2, acc, G2, e2, rs2, v2⟩ := hW
  by_cases hlt : i < I.n
  · have hr := here i acc G2 (Nat.le_of_lt hlt) v2
    refine .inr ⟨ir.go F2 H2 G2 i e2 rs2 hr.2 hlt, fun H' => ∃ F' acc G', FSame F1 F' ∧ RS K F' H' G' ∧ V (i + 1) acc G', fun H' hN => ⟨m - 1, by omega, by omega, hN⟩, fun x H3 hy => ?_⟩
    obtain ⟨F3, dx, e3, rs3, rx, it⟩ := ir.yld F2 H2 G2 i x H3 e2 rs2 hr.2 hlt hy
    have e03 := (e1.trans e2).trans e3
    refine ag F3 (wipe σ vs) H3 (wipeD s vs) G2 x dx _ _ rs3 (repst_wipe (st.mono e03) vs) rx (turn i dx acc G2 hlt it v2) fun F4 H4 G4 σ4 s4 e4 rs4 st4 w4 q4 => ⟨w4.trans (wipe_wipe vs vs fun _ h => h), ?_⟩
    refine at_ F4 σ4 H4 s4 G4 _ _ _ rs4 st4 q4 (fun F5 H5 G5 b e5 rs5 q5 => ?_) (fun _ _ _ _ _ _ _ _ _ z => z)
    cases b with
    | false => exact ⟨F5, acc, G5, ((e2.trans e3).trans e4).trans e5, rs5, q5⟩
    | true =>
      refine ae F5 σ4 H5 s4 G5 _ _ _ rs5 (st4.mono e5) q5 (fun F6 H6 G6 y dy e6 rs6 ry q6 => ?_) (fun _ _ _ _ _ _ _ _ _ z => z)
      obtain ⟨eD, lt, v6⟩ := q6
      obtain ⟨xs, h1, r1⟩ := (rs6.gf D _ eD).2
      exact ⟨xs, h1, by rw [r1.length]; exact lt, F6, acc ++ [dy], _, (((e2.trans e3).trans e4).trans e5).trans e6, rs6.setG eD (g := .lst (acc ++ [dy])) ⟨_, upd_same, r1.append (.cons ry .nil)⟩, v6⟩
  · have ei : i = I.n := by omega
    subst ei
    have hr := here I.n acc G2 (Nat.le_refl _) v2
    exact .inl ⟨ir.stop F2 H2 G2 e2 rs2 hr.2, hf F2 H2 G2 D acc (e1.trans e2) rs2 hr.1 (done acc G2 v2)⟩
theorem ae_lc {K : PySem.W.Frag} {W : WX} {ti : TI} {tg : TG} {t1 : TT} {t2 : TE} {vs : List Nat} (ai : AI K W ti di)
    (ag : ∀ F σ H s G v x Qd Q, RS K F H G → RepSt K F σ s → Rep K F v x → g x s G Qd → ContW K F σ vs Qd Q → tg v σ H Q) (at_ : AT K W0 t1 tt) (ae : AE K W0 t2 te) : AE K W (tLc ti tg t1 t2 vs) (dLc di g tt te vs) := fun F σ H s G Qd Ed Q rs st q c cx =>
  lc_core' ai ag at_ ae rs st q cx fun F' H' G' p acc e' rs' ep f => by
    obtain ⟨F2, e2, rs2, r2⟩ := rs'.freeze ep
    exact c F2 H' _ _ _ (e'.trans e2) rs2 r2 f
theorem ae_lcM {K : PySem.W.Frag} {W : WX} {ti : TI} {tg : TG} {t1 : TT} {t2 : TE} {vs : List Nat} (ai : AI K W ti di)
    (ag : ∀ F σ H s G v x Qd Q, RS K F H G → RepSt K F σ s → Rep K F v x → g x s G Qd → ContW K F σ vs Qd Q → tg v σ H Q) (at_ : AT K W0 t1 tt) (ae : AE K W0 t2 te) : AE K W (tLc ti tg t1 t2 vs) (dLcM di g tt te vs) := fun F σ H s G Qd Ed Q rs st q c cx =>
  lc_core' ai ag at_ ae rs st q cx fun F' H' G' p acc e' rs' ep f => c F' H' _ _ _ e' rs' (.ref p) f
/-- the reading that hangs on the datum's own alone -/
def tOf (K : PySem.W.Frag) (W : WX) (d : DTE) : TE := fun σ H Q => ∃ F s G Qd Ed, RS K F H G ∧ RepSt K F σ s ∧ d s G Qd Ed ∧ Cont K F Qd Q ∧ ContX K F W σ Ed
def ttOf (K : PySem.W.Frag) (W : WX) (d : DTT) : TT := fun σ H Q => ∃ F s G Qd Ed, RS K F H G ∧ RepSt K F σ s ∧ d s G Qd Ed ∧ ContT K F Qd Q ∧ ContX K F W σ Ed
def tgOf (K : PySem.W.Frag) (vs : List Nat) (d : DTG) : TG := fun v σ H Q => ∃ F s G x Qd, RS K F H G ∧ RepSt K F σ s ∧ Rep K F v x ∧ d x s G Qd ∧ ContW K F σ vs Qd Q
theorem DE.pe {X : Cx} {W : WX} {e : Expr} {d : DTE} (h : DE X W e d) : PE X e (tOf X.K W d) := by
  obtain ⟨t, p, a⟩ := h
  refine ⟨fun pins s σ H Q I q => p.run pins s σ H Q I ?_⟩
  obtain ⟨F, s, G, Qd, Ed, h1, h2, h3, h4, h5⟩ := q
  exact a F σ H s G Qd Ed Q h1 h2 h3 h4 h5
theorem DTs.pt {X : Cx} {es : List Expr} {d : DTT} (h : DTs X es d) : PTs X es (ttOf X.K W0 d) := by
  obtain ⟨t, p, a⟩ := h
  refine ⟨fun pins s σ H Q I q => p.run pins s σ H Q I ?_⟩
  obtain ⟨F, s, G, Qd, Ed, h1, h2, h3, h4, h5⟩ := q
  exact a F σ H s G Qd Ed Q h1 h2 h3 h4 h5
theorem DGv.pg {X : Cx} {vs : List Nat} {e : Expr} {d : DTG} (h : DGv X vs e d) : PG X e (tgOf X.K vs d) := by
  obtain ⟨t, p, a⟩ := h
  refine ⟨fun pins s σ H v u Q I r q => p.run pins s σ H v u Q I r ?_⟩
  obtain ⟨F, s, G, x, Qd, h1, h2, h3, h4, h5⟩ := q
  exact a F σ H s G v x Qd Q h1 h2 h3 h4 h5
theorem ae_of {K : PySem.W.Frag} {W : WX} {d : DTE} : AE K W (tOf K W d) d := fun F σ H s G Qd Ed Q h1 h2 h3 h4 h5 => ⟨F, s, G, Qd, Ed, h1, h2, h3, h4, h5⟩
theorem at_of' {K : PySem.W.Frag} {W : WX} {d : DTT} : AT K W (ttOf K W d) d := fun F σ H s G Qd Ed Q h1 h2 h3 h4 h5 => ⟨F, s, G, Qd, Ed, h1, h2, h3, h4, h5⟩
theorem de_lc (hc : X.calm = true) (hN : X.N.Nodup) (hi : DI X W tg iter di) (ok : BlkOk X.N X.env.scope scope own)
    (hg : ∀ (s : Shared) (H : Hp) (C : Addr) (cl : List (Str × Addr)) (fp : List Addr), DGv (X.blk s H scope (compEnvC scope cl C X.env) fp) (own.map (·.2)) tg g)
    (ht : ∀ (s : Shared) (H : Hp) (C : Addr) (cl : List (Str × Addr)) (fp : List Addr), DTs (X.blk s H scope (compEnvC scope cl C X.env) fp) ifs tt)
    (he : ∀ (s : Shared) (H : Hp) (C : Addr) (cl : List (Str × Addr)) (fp : List Addr), DE (X.blk s H scope (compEnvC scope cl C X.env) fp) W0 elt te) (hs : ∀ x, foldedSetIterable iter X.env x = pure x := by intro _; rfl) :
    DE X W (.ListComp elt [⟨tg, iter, ifs, 0⟩] scope pos) (dLc di g tt te (own.map (·.2))) := by
  obtain ⟨ti, p, ai⟩ := hi
  exact ⟨⟨_, pe_lc (g := tgOf X.K (own.map (·.2)) g) (tt := ttOf X.K W0 tt) (te := tOf X.K W0 te) hc hN p ok (fun s H C cl fp => (hg s H C cl fp).pg) (fun s H C cl fp => (ht s H C cl fp).pt) (fun s H C cl fp => (he s H C cl fp).pe) hs,
    ae_lc ai (fun F σ H s G v x Qd Q h1 h2 h3 h4 h5 => ⟨F, s, G, x, Qd, h1, h2, h3, h4, h5⟩) at_of' ae_of⟩⟩
theorem de_lcM (hc : X.calm = true) (hN : X.N.Nodup) (hi : DI X W tg iter di) (ok : BlkOk X.N X.env.scope scope own)
    (hg : ∀ (s : Shared) (H : Hp) (C : Addr) (cl : List (Str × Addr)) (fp : List Addr), DGv (X.blk s H scope (compEnvC scope cl C X.env) fp) (own.map (·.2)) tg g)
    (ht : ∀ (s : Shared) (H : Hp) (C : Addr) (cl : List (Str × Addr)) (fp : List Addr), DTs (X.blk s H scope (compEnvC scope cl C X.env) fp) ifs tt)
    (he : ∀ (s : Shared) (H : Hp) (C : Addr) (cl : List (Str × Addr)) (fp : List Addr), DE (X.blk s H scope (compEnvC scope cl C X.env) fp) W0 elt te) (hs : ∀ x, foldedSetIterable iter X.env x = pure x := by intro _; rfl) :
    DE X W (.ListComp elt [⟨tg, iter, ifs, 0⟩] scope pos) (dLcM di g tt te (own.map (·.2))) := by
  obtain ⟨ti, p, ai⟩ := hi
  exact ⟨⟨_, pe_lc (g := tgOf X.K (own.map (·.2)) g) (tt := ttOf X.K W0 tt) (te := tOf X.K W0 te) hc hN p ok (fun s H C cl fp => (hg s H C cl fp).pg) (fun s H C cl fp => (ht s H C cl fp).pt) (fun s H C cl fp => (he s H C cl fp).pe) hs,
    ae_lcM ai (fun F σ H s G v x Qd Q h1 h2 h3 h4 h5 => ⟨F, s, G, x, Qd, h1, h2, h3, h4, h5⟩) at_of' ae_of⟩⟩
/-- y = [.. for ..] -/
theorem ds_setLc {i : Nat} {y : Str} {py spos : Pos} (hc : X.calm = true) (hN : X.N.Nodup) (hy : X.N[i]? = some y) (hyl : X.env.scope.names.lookup y = some .local)
    (hsw : swapsWith (.ListComp elt [⟨tg, iter, ifs, 0⟩] scope pos) (some (.Name y py)) spos.line X.env = pure true) (hi : DI X W tg iter di) (ok : BlkOk X.N X.env.scope scope own)
    (hg : ∀ (s : Shared) (H : Hp) (C : Addr) (cl : List (Str × Addr)) (fp : List Addr), DGv (X.blk s H scope (compEnvC scope cl C X.env) fp) (own.map (·.2)) tg g)
    (ht : ∀ (s : Shared) (H : Hp) (C : Addr) (cl : List (Str × Addr)) (fp : List Addr), DTs (X.blk s H scope (compEnvC scope cl C X.env) fp) ifs tt)
    (he : ∀ (s : Shared) (H : Hp) (C : Addr) (cl : List (Str × Addr)) (fp : List Addr), DE (X.blk s H scope (compEnvC scope cl C X.env) fp) W0 elt te) (hs : ∀ x, foldedSetIterable iter X.env x = pure x := by intro _; rfl) :
    DS X W (.Assign [.Name y py] (.ListComp elt [⟨tg, iter, ifs, 0⟩] scope pos) spos) (dSet i (dLc di g tt te (own.map (·.2)))) := by
  obtain ⟨ti, p, ai⟩ := hi
  refine ⟨⟨_, ps_setLc (g := tgOf X.K (own.map (·.2)) g) (tt := ttOf X.K W0 tt) (te := tOf X.K W0 te) hc hN hy hyl hsw p ok (fun s H C cl fp => (hg s H C cl fp).pg) (fun s H C cl fp => (ht s H C cl fp).pt) (fun s H C cl fp => (he s H C cl fp).pe) hs, fun F σ H s G Dd E rs st q r => ?_⟩⟩
  exact ae_lc ai (fun F σ H s G v x Qd Q h1 h2 h3 h4 h5 => ⟨F, s, G, x, Qd, h1, h2, h3, h4, h5⟩) at_of' ae_of F σ H s G _ _ _ rs st q (fun F1 H1 G1 v x e1 rs1 rv q1 => r.nx F1 H1 G1 _ _ e1 rs1 ((st.mono e1).set i rv) q1) (r.ex.at_ st)
theorem ds_setLcM {i : Nat} {y : Str} {py spos : Pos} (hc : X.calm = true) (hN : X.N.Nodup) (hy : X.N[i]? = some y) (hyl : X.env.scope.names.lookup y = some .local)
    (hsw : swapsWith (.ListComp elt [⟨tg, iter, ifs, 0⟩] scope pos) (some (.Name y py)) spos.line X.env = pure true) (hi : DI X W tg iter di) (ok : BlkOk X.N X.env.scope scope own)
    (hg : ∀ (s : Shared) (H : Hp) (C : Addr) (cl : List (Str × Addr)) (fp : List Addr), DGv (X.blk s H scope (compEnvC scope cl C X.env) fp) (own.map (·.2)) tg g)
    (ht : ∀ (s : Shared) (H : Hp) (C : Addr) (cl : List (Str × Addr)) (fp : List Addr), DTs (X.blk s H scope (compEnvC scope cl C X.env) fp) ifs tt)
    (he : ∀ (s : Shared) (H : Hp) (C : Addr) (cl : List (Str × Addr)) (fp : List Addr), DE (X.blk s H scope (compEnvC scope cl C X.env) fp) W0 elt te) (hs : ∀ x, foldedSetIterable iter X.env x = pure x := by intro _; rfl) :
    DS X W (.Assign [.Name y py] (.ListComp elt [⟨tg, iter, ifs, 0⟩] scope pos) spos) (dSet i (dLcM di g tt te (own.map (·.2)))) := by
  obtain ⟨ti, p, ai⟩ := hi
  refine ⟨⟨_, ps_setLc (g := tgOf X.K (own.map (·.2)) g) (tt := ttOf X.K W0 tt) (te := tOf X.K W0 te) hc hN hy hyl hsw p ok (fun s H C cl fp => (hg s H C cl fp).pg) (fun s H C cl fp => (ht s H C cl fp).pt) (fun s H C cl fp => (he s H C cl fp).pe) hs, fun F σ H s G Dd E rs st q r => ?_⟩⟩
  exact ae_lcM ai (fun F σ H s G v x Qd Q h1 h2 h3 h4 h5 => ⟨F, s, G, x, Qd, h1, h2, h3, h4, h5⟩) at_of' ae_of F σ H s G _ _ _ rs st q (fun F1 H1 G1 v x e1 rs1 rv q1 => r.nx F1 H1 G1 _ _ e1 rs1 ((st.mono e1).set i rv) q1) (r.ex.at_ st)
end
/-! bounds, in short -/
theorem cmul_l {i j : Int} (h : -(2 ^ 64) < i ∧ i < 2 ^ 64) : CMulD i j := .inr (.inl h)
theorem cmul_r {i j : Int} (h : -(2 ^ 64) < j ∧ j < 2 ^ 64) : CMulD i j := .inr (.inr h)
theorem cmul_w {i j : Int} (a b : Nat) (hi : i.natAbs < 2 ^ a) (hj : j.natAbs < 2 ^ b) (h0 : 0 < a := by decide) (h1 : 0 < b := by decide) (h : a + b ≤ 1000000 := by decide) : CMulD i j := .inl (wide_mul hi hj h0 h1 h)
theorem cdiv_w {i j : Int} (b : Nat) (h : 0 < j) (hj : j.natAbs < 2 ^ b) (h0 : 0 < b := by decide) (h9 : b ≤ 9000 := by decide) : CDivW i j := wide_div h hj h0 h9
theorem cdiv_s {i j : Int} (h : 0 < j) (hj : j < 18446744073709551616) : CDivW i j := cdiv_w 64 h (by
  have e : (2 : Nat) ^ 64 = 18446744073709551616 := by decide
  omega)
theorem cdiv_x {i i' j : Int} (h : CDivW i j) : CDivW i' j := h
theorem cpow_10 {j : Int} (h0 : 0 ≤ j) (h1 : j ≤ 1000000) : CPow 10 j := ⟨h0, h1, by decide⟩
theorem cpow_2 {j : Int} (h0 : 0 ≤ j) (h1 : j ≤ 1000000) : CPow 2 j := ⟨h0, h1, by decide⟩
theorem size_le {n : Nat} (h : n ≤ 16777216) : n ≤ sizeLine := by
  rw [sizeLine_eq]
  exact h
theorem size_lt {n : Nat} (h : n < 16777216) : n < sizeLine := by
  rw [sizeLine_eq]
  exact h
theorem size_1 : (1 ≤ sizeLine) = True := eq_true (size_le (by decide))
theorem size_2 : (2 ≤ sizeLine) = True := eq_true (size_le (by decide))
theorem size_3 : (3 ≤ sizeLine) = True := eq_true (size_le (by decide))
theorem size_4 : (4 ≤ sizeLine) = True := eq_true (size_le (by decide))
theorem size_5 : (5 ≤ sizeLine) = True := eq_true (size_le (by decide))
theorem size_6 : (6 ≤ sizeLine) = True := eq_true (size_le (by decide))
theorem size_7 : (7 ≤ sizeLine) = True := eq_true (size_le (by decide))
theorem size_8 : (8 ≤ sizeLine) = True := eq_true (size_le (by decide))
theorem size_0 : (0 ≤ sizeLine) = True := eq_true (Nat.zero_le _)
theorem kit_ii : kitB "int" "int" = some true := by decide +kernel
theorem kit_ib : kitB "int" "bool" = some false := by decide +kernel
theorem kit_bi : kitB "bool" "int" = some true := by decide +kernel
theorem kit_bb : kitB "bool" "bool" = some true := by decide +kernel
theorem kit_tt : kitB "tuple" "tuple" = some true := by decide +kernel
theorem kit_tl : kitB "tuple" "list" = some false := by decide +kernel
theorem kit_lt : kitB "list" "tuple" = some false := by decide +kernel
theorem kit_ll : kitB "list" "list" = some true := by decide +kernel
theorem kit_it : kitB "int" "tuple" = some false := by decide +kernel
theorem kit_nt : kitB "NoneType" "tuple" = some false := by decide +kernel
theorem kit_ti : kitB "tuple" "int" = some false := by decide +kernel
theorem kit_st : kitB "str" "tuple" = some false := by decide +kernel
theorem kit_si : kitB "str" "int" = some false := by decide +kernel
theorem kit_ss : kitB "str" "str" = some true := by decide +kernel
theorem atI_0 {α : Type} {x : α} {r : List α} : atI (x :: r) 0 = some x := by
  unfold atI ixN
  rw [if_pos (by decide), if_pos (by simp only [List.length_cons]; omega)]
  rfl
theorem atI_1 {α : Type} {x y : α} {r : List α} : atI (x :: y :: r) 1 = some y := by
  unfold atI ixN
  rw [if_pos (by decide), if_pos (by simp only [List.length_cons]; omega)]
  rfl
theorem atI_2 {α : Type} {x y z : α} {r : List α} : atI (x :: y :: z :: r) 2 = some z := by
  unfold atI ixN
  rw [if_pos (by decide), if_pos (by simp only [List.length_cons]; omega)]
  rfl
theorem atI_3 {α : Type} {x y z u : α} {r : List α} : atI (x :: y :: z :: u :: r) 3 = some u := by
  unfold atI ixN
  rw [if_pos (by decide), if_pos (by simp only [List.length_cons]; omega)]
  rfl
theorem atI_4 {α : Type} {x y z u v : α} {r : List α} : atI (x :: y :: z :: u :: v :: r) 4 = some v := by
  unfold atI ixN
  rw [if_pos (by decide), if_pos (by simp only [List.length_cons]; omega)]
  rfl
theorem atI_5 {α : Type} {x y z u v w : α} {r : List α} : atI (x :: y :: z :: u :: v :: w :: r) 5 = some w := by
  unfold atI ixN
  rw [if_pos (by decide), if_pos (by simp only [List.length_cons]; omega)]
  rfl
/-- an item of a written list, at a place that lies in it -/
theorem atI_in {α : Type} {xs : List α} {i : Int} (h0 : 0 ≤ i) (h1 : i < xs.length) : ∃ x, atI xs i = some x ∧ x ∈ xs := by
  unfold atI ixN
  rw [if_pos h0, if_pos h1, Option.bind_some]
  have l : i.toNat < xs.length := by omega
  exact ⟨xs[i.toNat], List.getElem?_eq_getElem l, List.getElem_mem l⟩
theorem atI_get {α : Type} {xs : List α} {i : Nat} {x : α} (h : xs[i]? = some x) : atI xs (i : Int) = some x := atI_nat h
/-- the two ways meet: a name that one of them turns -/
theorem ite_meet {α : Type} {c : Prop} [Decidable c] {P : α → Prop} {a b : α} (h : P (if c then a else b)) : if c then P a else P b := by
  by_cases k : c
  · rw [if_pos k] at h ⊢
    exact h
  · rw [if_neg k] at h ⊢
    exact h
end Dl
set_option Elab.async false
set_option linter.all false
set_option maxRecDepth 100000
set_option maxHeartbeats 4000000
/-! The data layer: a tuple backwards; try. -/
namespace Dl
open PySem PySem.Spec PyProof.Rows L2
set_option autoImplicit false
section
variable {prog : Program} {w : World} {A : Around} {E : Value → Shared → Prop} {s : Shared}
theorem back_pick (xs : Array Value) : ((List.range xs.size).filterMap fun (k : Nat) => xs[(((xs.size : Int) - 1) + (k : Int) * (-1)).toNat]?) = xs.toList.reverse := by
  have e1 : (fun (k : Nat) => xs[(((xs.size : Int) - 1) + (k : Int) * (-1)).toNat]?) = (xs[·]?) ∘ fun k => xs.size - 1 - k := by
    funext k
    show xs[(((xs.size : Int) - 1) + (k : Int) * (-1)).toNat]? = xs[xs.size - 1 - k]?
    congr 1
    omega
  rw [e1, ← List.filterMap_map, PySem.W.krv_range, List.filterMap_reverse, PySem.W.krv_all]
theorem back_places (n : Nat) : Builtin.Slice.slicePlaces ((n : Int) - 1) (-1) (-1) = n := by
  unfold Builtin.Slice.slicePlaces
  rw [if_neg (show ¬ ((-1 : Int) > 0) by decide)]
  by_cases h : (n : Int) - 1 > -1
  · rw [if_pos h, show (-(-1) : Int) = 1 by decide, Int.ediv_one]
    omega
  · rw [if_neg h]
    omega
theorem back_item {t sl : Addr} {xs : Array Value} {vs : Value} {Q : Value → Shared → Prop} (ht : IsTup s.heap t xs) (hs : s.heap.IsSliceOf sl .none .none vs) (pv : IsPart vs (some (-1))) (hz : xs.size ≤ sizeLine)
    (q : Q (.ref s.heap.objs.size) { s with heap := s.heap.push { cls := .type "tuple", data := .seq xs.toList.reverse.toArray } }) : wpAny (model prog w) A (getItem (.ref t) (.ref sl)) Q E s := by
  have hs' := hs
  obtain ⟨ob, hob, hcb, hdb⟩ := hs'
  have hT : s.TypeIs (.ref sl) "slice" := ⟨ob, hob, hcb⟩
  have fit : sizeOk (.seq xs.toList.reverse.toArray) := by
    show xs.toList.reverse.toArray.size ≤ sizeLine
    rw [List.size_toArray, List.length_reverse, Array.length_toList]
    exact hz
  unfold getItem
  first | (with_reducible refine wpAny_holding ?_) | skip
  first | refine wpAny_bind (wpAny_pure ?_) | skip
  refine wpAny_bind (wpAny_sequenceKey (ht.typeIs) (by decide) ?_)
  refine wpAny_bind (wpAny_callSpecial?_slot (name := Str.ofString "__getitem__") (ht.typeIs) PyProof.Rows.slot_tuple_getitem (wpAny_call_entry PyProof.Rows.slot_tuple_getitem (ht.typeIs) PyProof.Rows.entry_tuple_getitem ?_ (PyProof.Rows.args_tuple_getitem _ _)))
  show wpAny (model prog w) _ (Builtin.Tuple.tupleItemsOf (.ref t) >>= _) _ _ s
  refine wpAny_bind (PyProof.Rows.tupleItemsOf_ ht (wpAny_bind (wpAny_typeOf hT ?_)))
  rw [if_pos (by decide)]
  refine wpAny_bind (?_ : wpAny (model prog w) _ (Builtin.Slice.sliceApplied (.ref sl) (pure (xs.size : Int))) _ _ s)
  unfold Builtin.Slice.sliceApplied Builtin.Slice.sliceFields
  refine wpAny_bind (wpAny_bind (wpAny_field hob hdb (x := .none) rfl (wpAny_bind (wpAny_field hob hdb (x := .none) rfl (wpAny_bind (wpAny_field hob hdb (x := vs) rfl (wpAny_pure ?_)))))))
  refine wpAny_bind (HT.slicePart_ pv ?_)
  show wpAny _ _ (if ((-1 : Int) == 0) = true then _ else _) _ _ s
  rw [if_neg (by decide)]
  refine wpAny_bind (PyProof.Rows.slicePart_none (wpAny_bind (PyProof.Rows.slicePart_none (wpAny_bind (wpAny_pure ?_)))))
  show wpAny _ _ (pure (((xs.size : Int) - 1), (-1 : Int), Builtin.Slice.slicePlaces ((xs.size : Int) - 1) (-1) (-1))) _ _ s
  rw [back_places]
  refine wpAny_pure ?_
  have no : ¬ ((((xs.size : Int) - 1) == 0 && (-1 : Int) == 1 && xs.size == xs.size) = true) := by
    rw [show ((-1 : Int) == 1) = false by decide, Bool.and_false, Bool.false_and]
    exact Bool.false_ne_true
  show wpAny _ _ (if (((xs.size : Int) - 1) == 0 && (-1 : Int) == 1 && xs.size == xs.size) = true then _ else _) _ _ s
  rw [if_neg no, back_pick]
  have fin : ∀ {A' : Around} {Q' : Value → Shared → Prop}, Q' (.ref s.heap.objs.size) { s with heap := s.heap.push { cls := .type "tuple", data := .seq xs.toList.reverse.toArray } } → wpAny (model prog w) A' (Builtin.Tuple.tupleExact xs.toList.reverse.toArray) Q' E s := fun z => wpAny_newObj_type z fit
  first
    | exact wpAny_bind (m := Builtin.Tuple.tupleExact _) (wpAny_newObj_type (wpAny_pure ⟨_, rfl, wpAny_pure q⟩) fit)
    | exact wpAny_bind (m := Builtin.Tuple.tupleExact _) (wpAny_newObj_type (wpAny_bind (wpAny_pure (wpAny_pure ⟨_, rfl, wpAny_pure q⟩))) fit)
    | exact wpAny_bind (wpAny_bind (m := Builtin.Tuple.tupleExact _) (wpAny_newObj_type (wpAny_pure (wpAny_pure ⟨_, rfl, wpAny_pure q⟩)) fit))
    | exact wpAny_bind (wpAny_bind (m := Builtin.Tuple.tupleExact _) (wpAny_newObj_type (wpAny_pure ⟨_, rfl, wpAny_pure q⟩) fit))
end
section
variable {X : Cx} {W : WX} {e : Expr} {de : DTE} {pos : Pos}
def tBack (K : PySem.W.Frag) (te : TE) : TE := fun σ H Q => te σ H fun x H1 => ∃ a xs, x = .ref a ∧ SqT K H1 a xs ∧ ∀ p, H1 p = none → Q (.ref p) (upd H1 p (.tup xs.reverse))
theorem pe_back {te : TE} {k : Nat} {p1 p2 p3 : Pos} (he : PE X e te) : PE X (.Subscript e (.Slice none none (some (.UnaryOp .USub (.Constant (.int 1) k p1) p2)) p3) pos) (tBack X.K te) := by
  constructor
  intro pins s σ H Q I h
  refine Subscript_ (thn (he.run pins s σ H _ I h) fun v s1 hv => ?_)
  obtain ⟨x, H1, I1, r1, a, xs, ex, hx, q⟩ := hv
  subst ex
  cases r1
  have hst : PO X (some (.UnaryOp .USub (.Constant (.int 1) k p1) p2)) (tPart (tUn (rU fun i => .int (-i)) (tC (.int 1)))) := po_some (pe_un un_neg pe_int)
  refine wpAny_Slice ?_
  refine thn (po_none.run pins s1 σ H1 (fun o H2 => o = none ∧ H2 = H1) I1 ⟨rfl, rfl⟩) fun vl s2 z2 => ?_
  obtain ⟨l, H2, I2, pl, rfl, rfl⟩ := z2
  refine thn (po_none.run pins s2 σ H2 (fun o H3 => o = none ∧ H3 = H2) I2 ⟨rfl, rfl⟩) fun vu s3 z3 => ?_
  obtain ⟨u, H3, I3, pu, rfl, rfl⟩ := z3
  refine thn (hst.run pins s3 σ H3 (fun o H4 => o = some (-1) ∧ H4 = H3) I3 ⟨1, rfl, -1, rfl, rfl, rfl⟩) fun vs s4 z4 => ?_
  obtain ⟨o, H4, I4, ps, rfl, rfl⟩ := z4
  cases pl
  cases pu
  have I5 : Inv X pins σ H4 { s4 with heap := s4.heap.push { cls := .type "slice", data := .fields #[.none, .none, vs] } } := I4.kept (t' := s4.toks) fun b ob z => Heap.get?_push_of_some _ z
  obtain ⟨its, r, ht, hz⟩ := I5.tuple hx
  have hlen := r.length
  refine tail_any (ops := [.ref a, .ref s4.heap.objs.size]) ht.typeIs PyProof.Rows.slot_tuple_getitem.lookup ?_ (by with_unfolding_all rfl)
  refine back_item ht (Heap.IsSliceOf.new _ .none .none vs) ps (by rw [List.size_toArray, ← hlen]; exact hz) ?_
  refine ⟨.ref _, _, I5.laid (t' := s4.toks) (o := .tup xs.reverse) (fun b ob z => Heap.get?_push_of_some _ z) (Nat.le_refl _) ?_, rfl, q _ (I5.hok.fresh (Nat.le_refl _))⟩
  exact ⟨by rw [List.length_reverse]; exact hz, _, r.reverse, ⟨_, Heap.get?_push_size _ rfl, rfl, 0, rfl⟩⟩
/-- t[::-1], a tuple -/
abbrev dRevT (de : DTE) : DTE := fun s G Q E => de s G (fun x G1 => match x with
  | .tup ds => Q (.tup ds.reverse) G1
  | _ => False) E
theorem de_revT {k : Nat} {p1 p2 p3 : Pos} (h : DE X W e de) : DE X W (.Subscript e (.Slice none none (some (.UnaryOp .USub (.Constant (.int 1) k p1) p2)) p3) pos) (dRevT de) := by
  obtain ⟨t, p, q⟩ := h
  refine ⟨⟨_, pe_back p, fun F σ H s G Qd Ed Q rs st hq c cx => q F σ H s G _ Ed _ rs st hq (fun F1 H1 G1 v x e1 rs1 rv q1 => ?_) cx⟩⟩
  cases rv with
  | @tup a xs ds h1 r1 => exact ⟨a, xs, rfl, same_t rs1.same h1, (c.mono e1).tup rs1 r1.reverse q1⟩
  | _ => exact False.elim q1
end
/-! ### try -/
def tsOf (K : PySem.W.Frag) (W : WX) (d : DTS) : TS := fun E σ H => ∃ F s G Dd, RS K F H G ∧ RepSt K F σ s ∧ d Dd s G ∧ EndsR K F W Dd E
theorem DSs.pss {X : Cx} {W : WX} {b : List Stmt} {d : DTS} (h : DSs X W b d) : PSs X b (tsOf X.K W d) := by
  obtain ⟨t, p, a⟩ := h
  constructor
  intro pins s σ H D I q
  refine p.run pins s σ H D I ?_
  obtain ⟨F, s', G, Dd, h1, h2, h3, h4⟩ := q
  exact a F σ H s' G Dd D h1 h2 h3 h4
/-- which classes a clause takes: what is known of it -/
structure Catch (K : PySem.W.Frag) (c : Value) (m : Str → Option Bool) : Prop where
  ok : ∀ y b, m y = some b → PySem.W.exmOne K (.ref (He.ga K y)) c = some b
/-- the suite's own ends: nothing is let out -/
abbrev sEnds (D : DEnds) : DEnds := { D with ex := fun _ _ _ => False }
abbrev dTry (m : Str → Option Bool) (db : DTS) (ds : Exn → Addr → DTS) : DTS := fun D s G => db { D with ex := fun e s' G' => match m e.cls with
  | some true => ∀ a, G' a = none → ds e a (sEnds D) s' G'
  | some false => D.ex e s' G'
  | none => False } s G
/-- what a suite's derivation may lean on -/
structure HeldAt (K : PySem.W.Frag) (e : Exn) (cls : Value) (d : Option Addr) (oe : Obj) : Prop where
  cl : cls = .ref (He.ga K e.cls)
  nd : e.fs = none → d = none
  z : Zc cls d oe
  f : ∃ vs, oe.data = .fields vs
def tsHeld (K : PySem.W.Frag) (ds : Exn → Addr → DTS) (a : Addr) (cls : Value) (d : Option Addr) : TS := fun E σ H => ∃ e : Exn, cls = .ref (He.ga K e.cls) ∧ (e.fs = none → d = none) ∧ tsOf K W0 (ds e a) E σ H
section
variable {X : Cx} {W : WX} {x : Str} {c : Value} {body suite : List Stmt} {b₀ : Stmt} {np pos pos' : Pos} {m : Str → Option Bool} {db : DTS} {ds : Exn → Addr → DTS}
theorem pss_held (hsu : ∀ (a : Addr) (oe : Obj) (e : Exn) (cls : Value) (d : Option Addr) (pn : List (Addr × Obj)), HeldAt X.K e cls d oe → DSs (X.suite a ((a, oe) :: pn)) W0 suite (ds e a)) (a : Addr) (oe : Obj) (cls : Value) (d : Option Addr) (pn : List (Addr × Obj))
    (hz : Zc cls d oe) (hf : ∃ vs, oe.data = .fields vs) : PSs (X.suite a ((a, oe) :: pn)) suite (tsHeld X.K ds a cls d) := by
  constructor
  intro pins s σ H D I q
  obtain ⟨e, e1, e2, q⟩ := q
  exact (hsu a oe e cls d pn ⟨e1, e2, hz, hf⟩).pss.run pins s σ H D I q
theorem held_of {K : PySem.W.Frag} {F : Fp} {σ : St} {s : DSt} {H : Hp} {G : Gp} {D : Ends} {Dd : DEnds} {e : Exn} {a : Addr} {cls : Value} {dd : Option Addr} (rs : RS K F H G) (st : RepSt K F σ s) (rx : RepX K F cls dd e) (q : ds e a (sEnds Dd) s G) (r : EndsR K F W Dd D) :
    tsHeld K ds a cls dd D σ H := by
  refine ⟨e, rx.1, fun z => ?_, F, s, G, sEnds Dd, rs, st, q, ⟨r.nx, r.rt, fun _ _ _ _ _ _ _ _ _ _ _ _ z => z, r.bk, r.ct⟩⟩
  have h := rx.2
  rw [z] at h
  exact h
theorem ds_try (hs : X.stack = X.env :: X.outer) (hf : X.env.frame = some X.env.locals) (hc : Names X x c) (tk : Takes X W) (hm : Catch X.K c m)
    (hb : ∀ (W' : WX) (pn : List (Addr × Obj)) (xe : Value → Shared → Prop), Takes (X.tr pn xe) W' → PassesOwn (model X.prog X.w) X.A X.env xe → DSs (X.tr pn xe) W' body db)
    (hsu : ∀ (a : Addr) (oe : Obj) (e : Exn) (cls : Value) (d : Option Addr) (pn : List (Addr × Obj)), HeldAt X.K e cls d oe → DSs (X.suite a ((a, oe) :: pn)) W0 (b₀ :: suite) (ds e a)) :
    DS X W (.Try body [.ExceptHandler (some (.Name x np)) none (b₀ :: suite) pos'] [] [] pos) (dTry m db ds) := by
  refine ⟨⟨_, ps_try_only (tb := fun W' => tsOf X.K W' db) (ts := tsHeld X.K ds) (Wout := W) hs hf hc tk (fun W' pn xe t po => (hb W' pn xe t po).pss) (pss_held hsu), fun F σ H s G Dd E rs st q r => ?_⟩⟩
  refine ⟨F, s, G, _, rs, st, q, r.nx, r.rt, ?_, r.bk, r.ct⟩
  intro F' H' G' cls dd e σ' s' hF rs' rx st' q'
  dsimp only at q'
  cases em : m e.cls with
  | none =>
    rw [em] at q'
    exact q'.elim
  | some b =>
    rw [em] at q'
    have ex := hm.ok _ _ em
    rw [← rx.1] at ex
    refine ⟨b, ex, fun hb1 a ha => ?_, fun hb0 => ?_⟩
    · subst hb1
      exact held_of rs' st' rx (q' a (rs'.free ha).2) (r.mono hF)
    · subst hb0
      exact r.ex F' H' G' cls dd e σ' s' hF rs' rx st' q'
/-- try .. except X as n (n in slot i) -/
abbrev dTryAs (i : Nat) (m : Str → Option Bool) (db : DTS) (ds : Exn → Addr → DTS) : DTS := fun D s G => db { D with ex := fun e s' G' => match m e.cls with
  | some true => ∀ a, G' a = none → ds e a { nx := fun s G => D.nx (s.set i none) G, rt := D.rt, ex := fun _ _ _ => False, bk := fun s G => D.bk (s.set i none) G, ct := fun s G => D.ct (s.set i none) G } (s'.set i (some (.ref a))) G'
  | some false => D.ex e s' G'
  | none => False } s G
theorem ds_tryAs (i : Nat) {n : Str} (hs : X.stack = X.env :: X.outer) (hf : X.env.frame = some X.env.locals) (hN : X.N.Nodup) (hi : X.N[i]? = some n) (hln : X.env.kindOf n = some .local) (hc : Names X x c) (tk : Takes X W) (hm : Catch X.K c m)
    (hb : ∀ (W' : WX) (pn : List (Addr × Obj)) (xe : Value → Shared → Prop), Takes (X.tr pn xe) W' → PassesOwn (model X.prog X.w) X.A X.env xe → DSs (X.tr pn xe) W' body db)
    (hsu : ∀ (a : Addr) (oe : Obj) (e : Exn) (cls : Value) (d : Option Addr) (pn : List (Addr × Obj)), HeldAt X.K e cls d oe → DSs (X.suite a ((a, oe) :: pn)) W0 (b₀ :: suite) (ds e a)) :
    DS X W (.Try body [.ExceptHandler (some (.Name x np)) (some n) (b₀ :: suite) pos'] [] [] pos) (dTryAs i m db ds) := by
  refine ⟨⟨_, ps_try_as (i := i) (tb := fun W' => tsOf X.K W' db) (ts := tsHeld X.K ds) (Wout := W) hs hf hN hi hln hc tk (fun W' pn xe t po => (hb W' pn xe t po).pss) (pss_held hsu), fun F σ H s G Dd E rs st q r => ?_⟩⟩
  refine ⟨F, s, G, _, rs, st, q, r.nx, r.rt, ?_, r.bk, r.ct⟩
  intro F' H' G' cls dd e σ' s' hF rs' rx st' q'
  dsimp only at q'
  cases em : m e.cls with
  | none =>
    rw [em] at q'
    exact q'.elim
  | some b =>
    rw [em] at q'
    have ex := hm.ok _ _ em
    rw [← rx.1] at ex
    refine ⟨b, ex, fun hb1 a ha => ?_, fun hb0 => ?_⟩
    · subst hb1
      have r' := r.mono hF
      refine ⟨e, rx.1, fun z => ?_, F', _, G', _, rs', st'.set i (.ref a), q' a (rs'.free ha).2, ⟨?_, r'.rt, fun _ _ _ _ _ _ _ _ _ _ _ _ z => z, ?_, ?_⟩⟩
      · have h := rx.2
        rw [z] at h
        exact h
      · exact fun F2 H2 G2 σ2 s2 h2 rs2 st2 q2 => r'.nx F2 H2 G2 _ _ h2 rs2 (st2.clear i none) q2
      · exact fun F2 H2 G2 σ2 s2 h2 rs2 st2 q2 => r'.bk F2 H2 G2 _ _ h2 rs2 (st2.clear i none) q2
      · exact fun F2 H2 G2 σ2 s2 h2 rs2 st2 q2 => r'.ct F2 H2 G2 _ _ h2 rs2 (st2.clear i none) q2
    · subst hb0
      exact r.ex F' H' G' cls dd e σ' s' hF rs' rx st' q'
end
/-! several clauses, without names -/
def pick (ex : Exn → DSt → Gp → Prop) (go : (Exn → Addr → DTS) → Exn → DSt → Gp → Prop) : List ((Str → Option Bool) × (Exn → Addr → DTS)) → Exn → DSt → Gp → Prop
  | [], e, s, G => ex e s G
  | (m, ds) :: r, e, s, G => match m e.cls with
    | some true => go ds e s G
    | some false => pick ex go r e s G
    | none => False
abbrev dTryM (l : List ((Str → Option Bool) × (Exn → Addr → DTS))) (db : DTS) : DTS := fun D s G => db { D with ex := pick D.ex (fun ds e s' G' => ∀ a, G' a = none → ds e a (sEnds D) s' G') l } s G
inductive HdsD (X : Cx) : List ExceptHandler → List ((Str → Option Bool) × (Exn → Addr → DTS)) → Prop
  | nil : HdsD X [] []
  | cons {x : Str} {c : Value} {m : Str → Option Bool} {ds : Exn → Addr → DTS} {b₀ : Stmt} {suite : List Stmt} {np pos' : Pos} {hds : List ExceptHandler} {l : List ((Str → Option Bool) × (Exn → Addr → DTS))} (hc : Names X x c) (hm : Catch X.K c m)
      (hsu : ∀ (a : Addr) (oe : Obj) (e : Exn) (cls : Value) (d : Option Addr) (pn : List (Addr × Obj)), HeldAt X.K e cls d oe → DSs (X.suite a ((a, oe) :: pn)) W0 (b₀ :: suite) (ds e a)) (r : HdsD X hds l) :
      HdsD X (.ExceptHandler (some (.Name x np)) none (b₀ :: suite) pos' :: hds) ((m, ds) :: l)
theorem HdsD.ok {X : Cx} {hds : List ExceptHandler} {l : List ((Str → Option Bool) × (Exn → Addr → DTS))} (h : HdsD X hds l) : ∃ lc, HdsOk X hds lc ∧ ∀ (W : WX) (D : Ends) (Dd : DEnds) (F : Fp) (H : Hp) (G : Gp) (cls : Value) (dd : Option Addr) (e : Exn) (σ : St) (s : DSt),
    RS X.K F H G → RepX X.K F cls dd e → RepSt X.K F σ s → EndsR X.K F W Dd D → pick Dd.ex (fun ds e s' G' => ∀ a, G' a = none → ds e a (sEnds Dd) s' G') l e s G → wMany X.K W D lc cls dd σ H := by
  induction h with
  | nil => exact ⟨[], .nil, fun W D Dd F H G cls dd e σ s rs rx st r q => r.ex F H G cls dd e σ s (FSame.refl F) rs rx st q⟩
  | @cons x c m ds b₀ suite np pos' hds l hc hm hsu r ih =>
    obtain ⟨lc, h1, h2⟩ := ih
    refine ⟨(c, tsHeld X.K ds) :: lc, .cons hc (pss_held hsu) h1, fun W D Dd F H G cls dd e σ s rs rx st r q => ?_⟩
    unfold pick at q
    cases em : m e.cls with
    | none =>
      rw [em] at q
      exact q.elim
    | some b =>
      rw [em] at q
      have ex := hm.ok _ _ em
      rw [← rx.1] at ex
      refine ⟨b, ex, fun hb1 a ha => ?_, fun hb0 => ?_⟩
      · subst hb1
        exact held_of rs st rx (q a (rs.free ha).2) r
      · subst hb0
        exact h2 W D Dd F H G cls dd e σ s rs rx st r q
theorem ds_tryM {X : Cx} {W : WX} {body : List Stmt} {h₀ : ExceptHandler} {hds : List ExceptHandler} {l : List ((Str → Option Bool) × (Exn → Addr → DTS))} {pos : Pos} {db : DTS} (hs : X.stack = X.env :: X.outer) (hf : X.env.frame = some X.env.locals) (tk : Takes X W)
    (hb : ∀ (W' : WX) (pn : List (Addr × Obj)) (xe : Value → Shared → Prop), Takes (X.tr pn xe) W' → PassesOwn (model X.prog X.w) X.A X.env xe → DSs (X.tr pn xe) W' body db) (hh : HdsD X (h₀ :: hds) l) :
    DS X W (.Try body (h₀ :: hds) [] [] pos) (dTryM l db) := by
  obtain ⟨lc, h1, h2⟩ := hh.ok
  refine ⟨⟨_, ps_try_many (tb := fun W' => tsOf X.K W' db) (Wout := W) hs hf tk (fun W' pn xe t po => (hb W' pn xe t po).pss) h1, fun F σ H s G Dd E rs st q r => ?_⟩⟩
  refine ⟨F, s, G, _, rs, st, q, r.nx, r.rt, ?_, r.bk, r.ct⟩
  intro F' H' G' cls dd e σ' s' hF rs' rx st' q'
  exact h2 W E Dd F' H' G' cls dd e σ' s' rs' rx st' (r.mono hF) q'
/-! isinstance(e, c) in a suite -/
structure KitE (K : PySem.W.Frag) (m : Str → D → Option Bool) : Prop where
  ok : ∀ y c b, m y c = some b → ExcC K (He.ga K y) ∧ ∃ cv, (∀ F v, Rep K F v c → ∀ u, RelV v u → u = cv) ∧ PySem.W.kitOne K (.ref (He.ga K y)) cv = some b
def gIsE (m : Str → D → Option Bool) (e : Exn) (a : Addr) : D → D → Gp → DK → Prop := fun x c G Q => x = .ref a ∧ e.fs = none ∧ match m e.cls c with
  | some b => Q (.bl b) G
  | none => False
theorem dc_isE {X : Cx} {m : Str → D → Option Bool} {e : Exn} {cls : Value} {d : Option Addr} {a : Addr} {oe : Obj} {pn : List (Addr × Obj)} (hm : KitE X.K m) (h : HeldAt X.K e cls d oe) : DCall (X.suite a ((a, oe) :: pn)) (.builtin "isinstance") (g2 (gIsE m e a)) := by
  obtain ⟨rfl, nd, z, f⟩ := h
  by_cases hfs : e.fs = none
  · have hd := nd hfs
    subst hd
    by_cases hy : ∃ c b, m e.cls c = some b
    · obtain ⟨c0, b0, e0⟩ := hy
      refine dcall2 (call_isE (pn := pn) (hm.ok _ _ _ e0).1 z f) fun F H G v u x y Qd Q rs rv ru q c => ?_
      obtain ⟨rfl, _, q⟩ := q
      cases rv
      split at q
      · rename_i b eb
        obtain ⟨_, cv, h1, h2⟩ := hm.ok _ _ _ eb
        exact ⟨u, cv, b, rfl, h1 F u ru, h2, c F H G _ _ (FSame.refl F) rs (.bl b) q⟩
      · exact q.elim
    · refine ⟨⟨fun _ _ _ => False, fun _ _ _ _ _ _ _ _ _ h => h.elim, fun F H G vs xs Qd Q rs rv q c => ?_⟩⟩
      unfold g2 at q
      split at q
      · obtain ⟨_, _, q⟩ := q
        split at q
        · rename_i b eb
          exact hy ⟨_, _, eb⟩
        · exact q
      · exact q
  · refine ⟨⟨fun _ _ _ => False, fun _ _ _ _ _ _ _ _ _ h => h.elim, fun F H G vs xs Qd Q rs rv q c => ?_⟩⟩
    unfold g2 at q
    split at q
    · exact hfs q.2.1
    · exact q
/-! the tables of classes -/
def lk {α β : Type} [DecidableEq α] (a : α) : List (α × β) → Option β
  | [] => none
  | (c, d) :: r => if a = c then some d else lk a r
theorem lookup_mem {α β : Type} [DecidableEq α] {a : α} {b : β} : ∀ {l : List (α × β)}, lk a l = some b → (a, b) ∈ l
  | [], h => nomatch h
  | (c, d) :: r, h => by
    unfold lk at h
    split at h
    · rename_i e
      cases h
      rw [e]
      exact List.mem_cons_self
    · exact List.mem_cons_of_mem _ (lookup_mem h)
abbrev catT (l : List (Str × Bool)) : Str → Option Bool := fun y => lk y l
theorem catch_of {K : PySem.W.Frag} {x : Str} {l : List (Str × Bool)} (h : (Fc.catch_ x l).ok K = true) : Catch K (.ref (He.ga K x)) (catT l) := ⟨fun y b e => by
  have z := List.all_eq_true.mp (show (l.all fun p => decide (PySem.W.exmOne K (.ref (He.ga K p.1)) (.ref (He.ga K x)) = some p.2)) = true from h) _ (lookup_mem e)
  exact of_decide_eq_true z⟩
def kkey : D → Option (Str ⊕ String)
  | .glo y => some (.inl y)
  | .ty n => some (.inr n)
  | _ => none
abbrev kitT (l : List ((Str × (Str ⊕ String)) × Bool)) : Str → D → Option Bool := fun y c => match kkey c with
  | some k => lk (y, k) l
  | none => none
theorem excC_of {K : PySem.W.Frag} {D : Addr} (h : excB K D = true) : ExcC K D := by
  unfold excB at h
  obtain ⟨h1, h⟩ := He.ba h
  obtain ⟨h2, h⟩ := He.ba h
  obtain ⟨h3, h⟩ := He.ba h
  obtain ⟨h4, h⟩ := He.ba h
  obtain ⟨h5, h⟩ := He.ba h
  obtain ⟨h6, h⟩ := He.ba h
  obtain ⟨h7, h8⟩ := He.ba h
  exact ⟨of_decide_eq_true h1, of_decide_eq_true h2, of_decide_eq_true h3, h4, of_decide_eq_true h5, of_decide_eq_true h6, of_decide_eq_true h7, of_decide_eq_true h8⟩
theorem kits_of {K : PySem.W.Frag} {l : List ((Str × (Str ⊕ String)) × Bool)} (h : (Fc.kits l).ok K = true) : KitE K (kitT l) := ⟨fun y c b e => by
  cases ek : kkey c with
  | none =>
    have e' : (match kkey c with
      | some k => lk (y, k) l
      | none => none) = some b := e
    rw [ek] at e'
    cases e'
  | some k =>
    have e' : (match kkey c with
      | some k => lk (y, k) l
      | none => none) = some b := e
    rw [ek] at e'
    have z := List.all_eq_true.mp (show (l.all fun p => excB K (He.ga K p.1.1) && decide (PySem.W.kitOne K (.ref (He.ga K p.1.1)) (match p.1.2 with
      | .inl y => .ref (He.ga K y)
      | .inr n => .type n) = some p.2)) = true from h) _ (lookup_mem e')
    obtain ⟨z1, z2⟩ := He.ba z
    have z3 := of_decide_eq_true z2
    refine ⟨excC_of z1, ?_⟩
    cases c with
    | glo x =>
      cases ek
      exact ⟨_, fun F v rv u ru => by cases rv; exact ru, z3⟩
    | ty n =>
      cases ek
      exact ⟨_, fun F v rv u ru => by cases rv; exact ru, z3⟩
    | _ => cases ek⟩
end Dl
set_option Elab.async false
set_option linter.all false
set_option maxRecDepth 100000
set_option maxHeartbeats 4000000
/-! The data layer: calls by keywords. -/
namespace Dl
open PySem PySem.Spec PyProof.Rows L2
set_option autoImplicit false
section
variable {X : Cx} {CX : CXT} {k n : Nat} {f : Addr} {fd : FuncData} {ps ks : List Str} {sp : Sp} {E : St → XK} {x : Str} {p pos : Pos} {e : Expr} {es : List Expr} {kws : List Keyword} {t tk : TA}
abbrev KB (K : PySem.W.Frag) (fd : FuncData) (ps : List Str) (n : Nat) (ks : List Str) : Prop := KBn K fd ps n ks (fun us ws => us ++ ws) (fun vs zs => vs ++ zs)
/-- f(e, .., k = v, ..): what is raised is wished for at the caller's slots -/
theorem pe_callKS (F : FnOk X.prog X.w X.K X.mg X.base CX k f fd ps sp) (hr : Room k X.A) (hg : Gl X x) (hm : X.mg x = some (.ref f)) (hk : PySem.W.keepIn X.K (.ref f) = true) (hb : KB X.K fd ps n ks) (hx : ∀ σ, PassesAt CX X σ (E σ)) (ha : PA X (e :: es) t) (hkw : PK X kws tk)
    (hall : (backToKw pos (keywordEach kws X.env)).all (·.1.isSome) = true) (hks : (backToKw pos (keywordEach kws X.env)).filterMap (·.1) = ks) (hdb : (x == ("__debug__" : Str)) = false) (he : starEach (e :: es) X.env = (false, eval e X.env) :: starEach es X.env)
    (hpl : ((backTo pos (starEach (e :: es) X.env)).any (·.1) || (backToKw pos (keywordEach kws X.env)).any (·.1.isNone)) = false) :
    PE X (.Call (.Name x p) (e :: es) kws pos) (fun σ H Q => t σ H fun vs H1 => tk σ H1 fun zs H2 => vs.length = n ∧ zs.length = ks.length ∧ sp (vs ++ zs) H2 Q (E σ)) := by
  constructor
  intro pins s σ H Q I h
  refine wpAny_Call_Name_kw (ld_glob I hg hm (PySem.W.callWith_KW (h₀ := X.base) I.ok.mod.kin hk hall (thn (ha.run pos pins s σ H _ I h) fun us s1 z1 => ?_) hpl he) hdb)
  obtain ⟨vs, H1, I1, r, q⟩ := z1
  refine thn (hkw.run pos pins s1 σ H1 _ I1 q) fun ws s2 z2 => ?_
  obtain ⟨zs, H2, I2, rz, l1, l2, q2⟩ := z2
  refine ⟨I2.kIn, ?_⟩
  rw [hks]
  have bt := hb.to s2 us ws I2.kIn (r.length.symm.trans l1) (rz.length.symm.trans l2)
  refine wpAny_call (codeAny_mono (F.run X.A X.stack s2 H2 ⟨us, ks.zip ws⟩ (us ++ ws) (vs ++ zs) Q (E σ) hr I2.env0 bt (hb.rel r rz) q2) fun r s' hq => ?_)
  cases r with
  | error u => exact hx σ pins H2 s2 u s' I2 hq
  | ok fl =>
    cases fl with
    | ret u => exact I2.after hq
    | _ => exact hq.elim
end
section
variable {K : PySem.W.Frag} {x qual : Str} {params : Arguments} {body : List Stmt} {scope : Scope} {kws : List (Str × V)} {f : Addr} {fd : FuncData} {ps ks : List Str} {n : Nat}
theorem kb_of (F : FunD K x qual params body scope [] kws f fd)
    (h : ∀ (kV doc pm : Value) (an : Option Addr) (cdv ct : Value) (us ws : List Value), us.length = n → ws.length = ks.length → bindArgs (PySem.W.fnOf x qual params body scope .none kV doc pm an cdv ct) ⟨us, ks.zip ws⟩ = pure (ps.zip (us ++ ws))) : KB K fd ps n ks := by
  obtain ⟨oc, od, dV, kV, doc, pm, an, cdv, ct, osl, rfl, lk, hcd, hD, hK⟩ := F.ex
  rcases hD with ⟨_, rfl⟩ | ⟨e, _⟩
  · exact ⟨fun s us ws X l1 l2 => .of_eq (h kV doc pm an cdv ct us ws l1 l2), fun r1 r2 => r1.append r2⟩
  · exact absurd rfl e
end
section
variable (P : Program) (w : World) (K : PySem.W.Frag) (mg : Str → Option Value) (base : Heap)
/-- what a call by keywords wants of its callee: n values, then the keywords ks; left out: the defaults dvs -/
structure CalleeK (x : Str) (k : Nat) (ps : List Str) (sp : DSp) (n : Nat) (ks : List Str) (dvs : List V) : Prop where
  ex : ∃ fd, DFn P w K mg base k (He.ga K x) fd ps sp ∧ KB K fd ps n ks ∧ (dvs ≠ [] → ∃ ds, Vals dvs ds ∧ Binds K fd ps ds)
  g : mg x = some (.ref (He.ga K x))
  kp : PySem.W.keepIn K (.ref (He.ga K x)) = true
end
structure DKw (X : Cx) (W : WX) (kws : List Keyword) (d : DTA) : Prop where
  ex : ∃ t, PK X kws t ∧ AA X.K W t d
abbrev dCallK (sp : DSp) (n m : Nat) (dA dK : DTA) : DTE := fun s G Q E => dA s G (fun xs G1 => dK s G1 (fun ys G2 => xs.length = n ∧ ys.length = m ∧ sp (xs ++ ys) G2 Q E) E) E
abbrev dCallD (sp : DSp) (dds : List D) (dA : DTA) : DTE := fun s G Q E => dA s G (fun xs G1 => sp (xs ++ dds) G1 Q E) E
section
variable {X : Cx} {W : WX} {x : Str} {k n : Nat} {ps ks : List Str} {sp : DSp} {dvs : List V} {dds : List D} {p pos kpos : Pos} {e : Expr} {es : List Expr} {kws : List Keyword} {de : DTE} {dA dK : DTA} {nm : Option Str}
theorem dk_nil : DKw X W [] dNil := ⟨⟨_, pk_nil, fun F σ H s G Qd Ed Q rs st q c cx => c F H G [] [] (FSame.refl F) rs .nil q⟩⟩
theorem dk_cons (h : DE X W e de) (h2 : DKw X W kws dA) : DKw X W (⟨nm, e, kpos⟩ :: kws) (dCons de dA) := by
  obtain ⟨t, p, q⟩ := h
  obtain ⟨u, p2, q2⟩ := h2
  exact ⟨⟨_, pk_cons p p2, fun F σ H s G Qd Ed Q rs st hq c cx => q F σ H s G _ Ed _ rs st hq (fun F1 H1 G1 v x e1 rs1 rv q1 =>
    q2 F1 σ H1 s G1 _ Ed _ rs1 (st.mono e1) q1 (fun F2 H2 G2 vs xs e2 rs2 rvs q2 => c F2 H2 G2 _ _ (e1.trans e2) rs2 (.cons (rv.mono e2) rvs) q2) (cx.mono e1)) cx⟩⟩
theorem de_callK (c : CalleeK X.prog X.w X.K X.mg X.base x k ps sp n ks dvs) (hr : Room k X.A) (tk : Takes X W) (ha : DA X W (e :: es) dA) (hkw : DKw X W kws dK)
    (hg : Gl X x := by rfl) (hall : (backToKw pos (keywordEach kws X.env)).all (·.1.isSome) = true := by rfl) (hks : (backToKw pos (keywordEach kws X.env)).filterMap (·.1) = ks := by rfl) (hdb : (x == ("__debug__" : Str)) = false := by decide)
    (he : starEach (e :: es) X.env = (false, eval e X.env) :: starEach es X.env := by rfl) (hpl : ((backTo pos (starEach (e :: es) X.env)).any (·.1) || (backToKw pos (keywordEach kws X.env)).any (·.1.isNone)) = false := by rfl) :
    DE X W (.Call (.Name x p) (e :: es) kws pos) (dCallK sp n ks.length dA dK) := by
  obtain ⟨⟨fd, F, hb, _⟩, g, kp⟩ := c
  obtain ⟨t, p1, q1⟩ := ha
  obtain ⟨u, p2, q2⟩ := hkw
  refine ⟨⟨_, pe_callKS F hr hg g kp hb (fun σ => passAt tk σ) p1 p2 hall hks hdb he hpl, fun F σ H s G Qd Ed Q rs st hq c cx => q1 F σ H s G _ Ed _ rs st hq (fun F1 H1 G1 vs xs e1 rs1 rv z1 => ?_) cx⟩⟩
  refine q2 F1 σ H1 s G1 _ Ed _ rs1 (st.mono e1) z1 (fun F2 H2 G2 zs ys e2 rs2 rz z2 => ?_) (cx.mono e1)
  obtain ⟨l1, l2, z2⟩ := z2
  refine ⟨by rw [rv.length]; exact l1, by rw [rz.length]; exact l2, F2, G2, xs ++ ys, Qd, Ed, rs2, (rv.mono e2).append rz, z2, c.mono (e1.trans e2), ?_⟩
  exact fun F3 H3 G3 cls dd x e3 rs3 rx q3 => cx F3 H3 G3 cls dd x ((e1.trans e2).trans e3) rs3 rx q3
theorem de_callD (c : CalleeK X.prog X.w X.K X.mg X.base x k ps sp n ks dvs) (hr : Room k X.A) (tk : Takes X W) (ha : DA X W (e :: es) dA) (hd : dvs ≠ []) (hds : ∀ F, RepL X.K F dvs dds)
    (hg : Gl X x := by rfl) (hdb : (x == ("__debug__" : Str)) = false := by decide) (he : starEach (e :: es) X.env = (false, eval e X.env) :: starEach es X.env := by rfl) (hpl : (backTo pos (starEach es X.env)).any (·.1) = false := by rfl) :
    DE X W (.Call (.Name x p) (e :: es) [] pos) (dCallD sp dds dA) := by
  obtain ⟨⟨fd, F, _, hb⟩, g, kp⟩ := c
  obtain ⟨us, hv, hb⟩ := hb hd
  obtain ⟨t, p1, q1⟩ := ha
  refine ⟨⟨_, pe_callSD F hr hg g kp hb hv (fun σ => passAt tk σ) p1 hdb he hpl, fun F σ H s G Qd Ed Q rs st hq c cx => q1 F σ H s G _ Ed _ rs st hq (fun F1 H1 G1 vs xs e1 rs1 rv z1 => ?_) cx⟩⟩
  exact ⟨F1, G1, xs ++ dds, Qd, Ed, rs1, rv.append (hds F1), z1, c.mono e1, fun F3 H3 G3 cls dd x e3 rs3 rx q3 => cx F3 H3 G3 cls dd x (e1.trans e3) rs3 rx q3⟩
end
/-! list(range(..)) -/
def rgD (a b : Int) : List D := (List.range (b - a).toNat).map fun i => D.int (a + (i : Nat))
theorem rgD_len (a b : Int) : (rgD a b).length = (b - a).toNat := by
  unfold rgD
  rw [List.length_map, List.length_range]
theorem rg_rep {K : PySem.W.Frag} {F : Fp} (a b : Int) : RepL K F (rgV a b) (rgD a b) := by
  unfold rgV rgD
  generalize List.range (b - a).toNat = l
  induction l with
  | nil => exact .nil
  | cons i r ih => exact .cons (.int _) ih
abbrev dListRg1 (d : DTE) : DTE := fun s G Q E => d s G (fun x G1 => match x with
  | .int n => RgOk 0 n ∧ Q (.lst (rgD 0 n)) G1
  | _ => False) E
abbrev dListRg1M (d : DTE) : DTE := fun s G Q E => d s G (fun x G1 => match x with
  | .int n => RgOk 0 n ∧ ∀ p, G1 p = none → Q (.ref p) (gupd G1 p (.lst (rgD 0 n)))
  | _ => False) E
abbrev dListRg2 (d d' : DTE) : DTE := fun s G Q E => d s G (fun x G1 => d' s G1 (fun y G2 => match x, y with
  | .int a, .int b => RgOk a b ∧ Q (.lst (rgD a b)) G2
  | _, _ => False) E) E
section
variable {X : Cx} {W : WX} {a b : Expr} {da db : DTE} {p p1 p2 pos pos' : Pos}
theorem de_listRg1 (hc : X.calm = true) (hm : X.mg "list" = none) (hr : X.mg "range" = none) (h : DE X W a da) (hg : Gl X "list" := by rfl) (hg2 : Gl X "range" := by rfl) (na : starEach [a] X.env = (false, eval a X.env) :: starEach [] X.env := by rfl)
    (na2 : starEach [.Call (.Name "range" p1) [a] [] pos'] X.env = (false, eval (.Call (.Name "range" p1) [a] [] pos') X.env) :: starEach [] X.env := by rfl) : DE X W (.Call (.Name "list" p) [.Call (.Name "range" p1) [a] [] pos'] [] pos) (dListRg1 da) := by
  obtain ⟨t, pa, q⟩ := h
  refine ⟨⟨_, pe_listRg hc hg hm (prg_1 hg2 hr pa na) na2, fun F σ H s G Qd Ed Q rs st hq c cx => q F σ H s G _ Ed _ rs st hq (fun F1 H1 G1 v x e1 rs1 rv q1 => ?_) cx⟩⟩
  cases rv with
  | int n => exact ⟨n, rfl, q1.1, (c.mono e1).lst rs1 (rg_rep 0 n) q1.2⟩
  | _ => exact False.elim q1
theorem de_listRg1M (hc : X.calm = true) (hm : X.mg "list" = none) (hr : X.mg "range" = none) (h : DE X W a da) (hg : Gl X "list" := by rfl) (hg2 : Gl X "range" := by rfl) (na : starEach [a] X.env = (false, eval a X.env) :: starEach [] X.env := by rfl)
    (na2 : starEach [.Call (.Name "range" p1) [a] [] pos'] X.env = (false, eval (.Call (.Name "range" p1) [a] [] pos') X.env) :: starEach [] X.env := by rfl) : DE X W (.Call (.Name "list" p) [.Call (.Name "range" p1) [a] [] pos'] [] pos) (dListRg1M da) := by
  obtain ⟨t, pa, q⟩ := h
  refine ⟨⟨_, pe_listRg hc hg hm (prg_1 hg2 hr pa na) na2, fun F σ H s G Qd Ed Q rs st hq c cx => q F σ H s G _ Ed _ rs st hq (fun F1 H1 G1 v x e1 rs1 rv q1 => ?_) cx⟩⟩
  cases rv with
  | int n => exact ⟨n, rfl, q1.1, (c.mono e1).lstM rs1 (rg_rep 0 n) q1.2⟩
  | _ => exact False.elim q1
theorem de_listRg2 (hc : X.calm = true) (hm : X.mg "list" = none) (hr : X.mg "range" = none) (h : DE X W a da) (h2 : DE X W b db) (hg : Gl X "list" := by rfl) (hg2 : Gl X "range" := by rfl) (na : starEach [a, b] X.env = (false, eval a X.env) :: starEach [b] X.env := by rfl) (nb : starEach [b] X.env = (false, eval b X.env) :: starEach [] X.env := by rfl)
    (hp : (backTo pos' (starEach [b] X.env)).any (·.1) = false := by rfl)
    (na2 : starEach [.Call (.Name "range" p1) [a, b] [] pos'] X.env = (false, eval (.Call (.Name "range" p1) [a, b] [] pos') X.env) :: starEach [] X.env := by rfl) : DE X W (.Call (.Name "list" p) [.Call (.Name "range" p1) [a, b] [] pos'] [] pos) (dListRg2 da db) := by
  obtain ⟨t, pa, q⟩ := h
  obtain ⟨u, pb, q2⟩ := h2
  refine ⟨⟨_, pe_listRg hc hg hm (prg_2 hg2 hr pa pb na nb hp) na2, fun F σ H s G Qd Ed Q rs st hq c cx => q F σ H s G _ Ed _ rs st hq (fun F1 H1 G1 v x e1 rs1 rv q1 => ?_) cx⟩⟩
  refine q2 F1 σ H1 s G1 _ Ed _ rs1 (st.mono e1) q1 (fun F2 H2 G2 u y e2 rs2 ru q3 => ?_) (cx.mono e1)
  cases rv with
  | int n =>
    cases ru with
    | int m => exact ⟨n, m, rfl, rfl, q3.1, (c.mono (e1.trans e2)).lst rs2 (rg_rep n m) q3.2⟩
    | _ => exact False.elim q3
  | _ => exact False.elim q3
end
end Dl
set_option Elab.async false
set_option linter.all false
set_option maxRecDepth 100000
set_option maxHeartbeats 4000000
/-! The data layer: several clauses with names. -/
namespace Dl
open PySem PySem.Spec PyProof.Rows L2
set_option autoImplicit false
/-- what the clauses, each with its slot, wish of the body's exception -/
def wNam (K : PySem.W.Frag) (Wo : WX) (D : Ends) : List (Nat × Value × (Addr → Value → Option Addr → TS)) → WX
  | [] => Wo
  | (i, c, ts) :: r => wAs K c i ts (wNam K Wo D r) D
inductive HdsN (X : Cx) : List ExceptHandler → List (Nat × Value × (Addr → Value → Option Addr → TS)) → Prop
  | nil : HdsN X [] []
  | cons {i : Nat} {n x : Str} {c : Value} {ts : Addr → Value → Option Addr → TS} {b1 : Stmt} {bs : List Stmt} {p1 p2 : Pos} {hds : List ExceptHandler} {l : List (Nat × Value × (Addr → Value → Option Addr → TS))} (hi : X.N[i]? = some n) (hl : X.env.kindOf n = some .local) (hc : Names X x c)
      (sui : ∀ (b : Addr) (ob : Obj) (k : Value) (dd : Option Addr) (pq : List (Addr × Obj)), Zc k dd ob → (∃ vs, ob.data = .fields vs) → PSs (X.suite b ((b, ob) :: pq)) (b1 :: bs) (ts b k dd)) (r : HdsN X hds l) :
      HdsN X (.ExceptHandler (some (.Name x p1)) (some n) (b1 :: bs) p2 :: hds) ((i, c, ts) :: l)
section
variable {X : Cx} {body : List Stmt} {hd0 : ExceptHandler} {hds : List ExceptHandler} {l : List (Nat × Value × (Addr → Value → Option Addr → TS))} {pos : Pos} {tb : WX → TS} {Wo : WX}
theorem not_frame {B h : Heap} {es : List Env} {b : Addr} {o : Obj} {vs : Array Value} (ff : h.FunFrames B es) (e : h.get? b = some o) (dd : o.data = .fields vs) : b ∉ frs es := fun hm => by
  obtain ⟨_, o2, e2, hn⟩ := ff.mem hm
  cases e.symm.trans e2
  exact hn _ dd
theorem ps_try_nam (hs : X.stack = X.env :: X.outer) (hf : X.env.frame = some X.env.locals) (hN : X.N.Nodup) (tk : Takes X Wo)
    (hb : ∀ (U : WX) (pq : List (Addr × Obj)) (xe : Value → Shared → Prop), Takes (X.tr pq xe) U → PassesOwn (model X.prog X.w) X.A X.env xe → PSs (X.tr pq xe) body (tb U)) (hh : HdsN X (hd0 :: hds) l) :
    PS X (.Try body (hd0 :: hds) [] [] pos) (fun D σ H => tb (wNam X.K Wo D l) D σ H) := by
  refine ⟨fun pins s σ H D I h => ?_⟩
  have xok := I.ok
  have xfr : X.A.frames = some (X.env :: X.outer) := xok.frames.trans (by rw [hs])
  refine wpAny_Try_except ?_
  have base := (hb (wNam X.K Wo D l) (X.pn ++ pins) (fun ev t1 => wpAny (model X.prog X.w) X.A (noteFrame ev X.env) (fun _ t2 => wpAny (model X.prog X.w) X.A (setFlight ev none)
      (fun _ t3 => wpAny (model X.prog X.w) X.A (handleBy ev X.env (hd0 :: hds)) (SP X pins D) X.xe t3) X.xe t2) X.xe t1) (fun ev t xx => ?_) PassesOwn.looking).run [] s σ H D (I.toTry _) h
  · refine wpAny_mono base (fun fl t r => ?_) (fun _ _ he => he)
    cases fl with
    | next =>
      obtain ⟨σ2, H2, J, q⟩ := r
      exact wpAny_execs_nil ⟨σ2, H2, J.ofTry xok, q⟩
    | ret v =>
      obtain ⟨y, σ2, H2, J, ry, q⟩ := r
      exact ⟨y, σ2, H2, J.ofTry xok, ry, q⟩
    | brk =>
      obtain ⟨σ2, H2, J, q⟩ := r
      exact ⟨σ2, H2, J.ofTry xok, q⟩
    | cont =>
      obtain ⟨σ2, H2, J, q⟩ := r
      exact ⟨σ2, H2, J.ofTry xok, q⟩
  · obtain ⟨b, B, tI, pq, τ, T, k, dd, rfl, J0, nb, up, sky0, nT, os, ag, w⟩ := xx
    have J : Inv X pins τ T tI := J0.ofTry xok
    have sky : Sky B (X.env :: X.outer) b (Zc k dd) X.env.locals t.heap := hs ▸ sky0
    show wpAny (model X.prog X.w) X.A (noteFrame (.ref b) X.env) _ _ _
    refine Sky.land Zc.steady xfr hf sky fun g3 f3 up3 => ?_
    have J3 : Inv X pins τ T { t with heap := g3 } := J.landed nb f3.1 (up.trans up3) os ag
    obtain ⟨o3, vs3, e3, z3, d3⟩ := f3.there
    have nfr := not_frame f3.2.2.1 e3 d3
    have nL : b ≠ X.env.locals := fun z => nfr (List.mem_filterMap.mpr ⟨_, .head _, by rw [hf, z]⟩)
    have nF : b ∉ X.fs := fun hm => by
      obtain ⟨en, hen, q⟩ := List.mem_filterMap.mp hm
      exact nfr (List.mem_filterMap.mpr ⟨en, .tail _ hen, q⟩)
    have S3 := J3.suite e3 d3 nT nL nF
    have all : ∀ {hs2 : List ExceptHandler} {l2 : List (Nat × Value × (Addr → Value → Option Addr → TS))}, HdsN X hs2 l2 → wNam X.K Wo D l2 k dd τ T → wpAny (model X.prog X.w) X.A (handleBy (.ref b) X.env hs2) (SP X pins D) X.xe { t with heap := g3 } := by
      intro hs2 l2 hk
      induction hk with
      | nil =>
        intro w
        refine wpAny_handleBy_nil ?_
        obtain ⟨k1, k2, k3, oe, vs, TT, oT, ts2, he, hz, hd, h1, hr⟩ := id f3
        unfold PySem.passOn
        refine wpAny_bind (wpAny_field he hd h1 ?_)
        rw [if_neg (by simp : ¬ ((Value.ref TT == Value.none) = true))]
        have out : wpAny (model X.prog X.w) X.A (setFlight (.ref b) X.env.frame) (fun _ t4 => wpAny (model X.prog X.w) X.A (throw (.ref b) : Sem Flow) (SP X pins D) X.xe t4) X.xe { t with heap := g3 } := by
          rw [hf]
          exact HandSPX.setFlight_upZ f3 fun g4 h4 up4 => wpAny_throw (tk _ _ ⟨b, B, tI, pins, τ, T, k, dd, rfl, J, nb, (up.trans up3).trans up4, .inr (.inr (hs.symm ▸ h4)), nT, os, ag, w⟩)
        first
          | exact wpAny_bind (wpAny_pure (wpAny_bind out))
          | exact wpAny_bind out
      | @cons i n x c ts b1 bs p1 p2 hds2 l2 hi hl hc sui r ih =>
        intro w
        obtain ⟨bb, hb1, hyes, hno⟩ := w
        refine wpAny_handleBy_cons (codeAny_handlers_test ?_) (fun q => nomatch q)
        have kn : PySem.W.Looks (model X.prog X.w) g3 (typeOf (.ref b)) k := fun _ _ _ _ m q => wpAny_typeOf_ref (m _ _ e3) (z3.1.symm ▸ q)
        have match_ := PySem.W.exm_one (M := model X.prog X.w) (J3.kIn) kn hb1
        have name_ : ∀ {Q E : Value → Shared → Prop}, Q c { t with heap := g3 } → wpAny (model X.prog X.w) (X.A.mark (some (.ref b))) (eval (.Name x p1) X.env) Q E { t with heap := g3 } := fun {Q E} q => by
          rcases hc with ⟨hg, hdb, hm | ⟨hm, hv, hnn⟩⟩
          · exact ld_glob (X := X.suite b ((b, o3) :: (X.pn ++ pins))) S3 hg hm q hdb
          · exact ld_blt (X := X.suite b ((b, o3) :: (X.pn ++ pins))) S3 hg hm hv q hnn hdb
        refine name_ (match_.here ?_)
        cases bb with
        | false =>
          show wpAny _ X.A (handleBy (.ref b) X.env hds2) _ _ _
          exact ih (hno rfl)
        | true =>
          refine codeAny_handlers_suite_as ?_
          refine HandSPX.lands_againZ f3 fun g4 f4 up4 => ?_
          have J4 : Inv X pins τ T { t with heap := g4 } := J.landed nb f4.1 ((up.trans up3).trans up4) os ag
          obtain ⟨o4, vs4, e4, z4, d4⟩ := f4.there
          have S4 := J4.suite e4 d4 nT nL nF
          refine store_ok (X := X.suite b ((b, o4) :: (X.pn ++ pins))) (v := .ref b) S4 hN hi (.inl hl) rfl (fun t5 S5 => ?_) (.inr hl)
          have run := (sui b o4 k dd (X.pn ++ pins) z4 ⟨_, d4⟩).run [] t5 _ T _ S5 (hyes rfl b nT)
          refine wpAny_mono run (fun fl t6 r6 => ?_) (fun _ _ z => z.elim)
          have off : ∀ {τ6 : St} {T6 : Hp} {Q : Shared → Prop}, Inv (X.suite b ((b, o4) :: (X.pn ++ pins))) [] τ6 T6 t6 → (∀ t7, Inv X pins (τ6.set i none) T6 t7 → Q t7) →
              wpAny (model X.prog X.w) X.A (do bindName X.env n .none; unbindBehindTheSuite X.env n p2) (fun _ t7 => Q t7) X.xe t6 := fun {τ6 T6 Q} S6 hq => gone_ok (S6.unsuite xok) hN hi hl hq
          cases fl with
          | next =>
            obtain ⟨τ6, T6, S6, q6⟩ := r6
            exact off S6 fun _ J7 => ⟨_, _, J7, q6⟩
          | ret v =>
            obtain ⟨y6, τ6, T6, S6, ry6, q6⟩ := r6
            exact off S6 fun _ J7 => ⟨_, _, _, J7, ry6, q6⟩
          | brk =>
            obtain ⟨τ6, T6, S6, q6⟩ := r6
            exact off S6 fun _ J7 => ⟨_, _, J7, q6⟩
          | cont =>
            obtain ⟨τ6, T6, S6, q6⟩ := r6
            exact off S6 fun _ J7 => ⟨_, _, J7, q6⟩
    exact all hh w
end
/-! by data -/
abbrev asEnds (i : Nat) (D : DEnds) : DEnds := { nx := fun s G => D.nx (s.set i none) G, rt := D.rt, ex := fun _ _ _ => False, bk := fun s G => D.bk (s.set i none) G, ct := fun s G => D.ct (s.set i none) G }
def pickN (D : DEnds) : List (Nat × (Str → Option Bool) × (Exn → Addr → DTS)) → Exn → DSt → Gp → Prop
  | [], e, s, G => D.ex e s G
  | (i, m, ds) :: r, e, s, G => match m e.cls with
    | some true => ∀ a, G a = none → ds e a (asEnds i D) (s.set i (some (.ref a))) G
    | some false => pickN D r e s G
    | none => False
abbrev dTryN (l : List (Nat × (Str → Option Bool) × (Exn → Addr → DTS))) (db : DTS) : DTS := fun D s G => db { D with ex := pickN D l } s G
inductive HdsND (X : Cx) : List ExceptHandler → List (Nat × (Str → Option Bool) × (Exn → Addr → DTS)) → Prop
  | nil : HdsND X [] []
  | cons (i : Nat) {n x : Str} {c : Value} {m : Str → Option Bool} {ds : Exn → Addr → DTS} {b1 : Stmt} {bs : List Stmt} {p1 p2 : Pos} {hds : List ExceptHandler} {l : List (Nat × (Str → Option Bool) × (Exn → Addr → DTS))} (hi : X.N[i]? = some n) (hl : X.env.kindOf n = some .local) (hc : Names X x c) (hm : Catch X.K c m)
      (sui : ∀ (a : Addr) (oe : Obj) (e : Exn) (cls : Value) (d : Option Addr) (pn : List (Addr × Obj)), HeldAt X.K e cls d oe → DSs (X.suite a ((a, oe) :: pn)) W0 (b1 :: bs) (ds e a)) (r : HdsND X hds l) :
      HdsND X (.ExceptHandler (some (.Name x p1)) (some n) (b1 :: bs) p2 :: hds) ((i, m, ds) :: l)
theorem held_as {K : PySem.W.Frag} {F : Fp} {σ : St} {s : DSt} {H : Hp} {G : Gp} {D : Ends} {Dd : DEnds} {W : WX} {ds : Exn → Addr → DTS} {i : Nat} {e : Exn} {a : Addr} {cls : Value} {dd : Option Addr} (rs : RS K F H G) (st : RepSt K F σ s) (rx : RepX K F cls dd e)
    (q : ds e a (asEnds i Dd) (s.set i (some (.ref a))) G) (r : EndsR K F W Dd D) :
    tsHeld K ds a cls dd { nx := fun σ' H' => D.nx (σ'.set i none) H', rt := D.rt, bk := fun σ' H' => D.bk (σ'.set i none) H', ct := fun σ' H' => D.ct (σ'.set i none) H' } (σ.set i (some (.ref a))) H := by
  refine ⟨e, rx.1, fun z => ?_, F, _, G, asEnds i Dd, rs, st.set i (.ref a), q, ⟨?_, r.rt, fun _ _ _ _ _ _ _ _ _ _ _ _ z => z, ?_, ?_⟩⟩
  · have h := rx.2
    rw [z] at h
    exact h
  · exact fun F2 H2 G2 σ2 s2 h2 rs2 st2 q2 => r.nx F2 H2 G2 _ _ h2 rs2 (st2.clear i none) q2
  · exact fun F2 H2 G2 σ2 s2 h2 rs2 st2 q2 => r.bk F2 H2 G2 _ _ h2 rs2 (st2.clear i none) q2
  · exact fun F2 H2 G2 σ2 s2 h2 rs2 st2 q2 => r.ct F2 H2 G2 _ _ h2 rs2 (st2.clear i none) q2
theorem HdsND.ok {X : Cx} {hds : List ExceptHandler} {l : List (Nat × (Str → Option Bool) × (Exn → Addr → DTS))} (h : HdsND X hds l) : ∃ lc, HdsN X hds lc ∧ ∀ (W : WX) (D : Ends) (Dd : DEnds) (F : Fp) (H : Hp) (G : Gp) (cls : Value) (dd : Option Addr) (e : Exn) (σ : St) (s : DSt),
    RS X.K F H G → RepX X.K F cls dd e → RepSt X.K F σ s → EndsR X.K F W Dd D → pickN Dd l e s G → wNam X.K W D lc cls dd σ H := by
  induction h with
  | nil => exact ⟨[], .nil, fun W D Dd F H G cls dd e σ s rs rx st r q => r.ex F H G cls dd e σ s (FSame.refl F) rs rx st q⟩
  | @cons i n x c m ds b1 bs p1 p2 hds l hi hl hc hm sui r ih =>
    obtain ⟨lc, h1, h2⟩ := ih
    refine ⟨(i, c, tsHeld X.K ds) :: lc, .cons hi hl hc (pss_held sui) h1, fun W D Dd F H G cls dd e σ s rs rx st r q => ?_⟩
    unfold pickN at q
    cases em : m e.cls with
    | none =>
      rw [em] at q
      exact q.elim
    | some b =>
      rw [em] at q
      have ex := hm.ok _ _ em
      rw [← rx.1] at ex
      refine ⟨b, ex, fun hb1 a ha => ?_, fun hb0 => ?_⟩
      · subst hb1
        exact held_as rs st rx (q a (rs.free ha).2) r
      · subst hb0
        exact h2 W D Dd F H G cls dd e σ s rs rx st r q
theorem ds_tryN {X : Cx} {W : WX} {body : List Stmt} {h0 : ExceptHandler} {hds : List ExceptHandler} {l : List (Nat × (Str → Option Bool) × (Exn → Addr → DTS))} {pos : Pos} {db : DTS} (hs : X.stack = X.env :: X.outer) (hf : X.env.frame = some X.env.locals) (hN : X.N.Nodup) (tk : Takes X W)
    (hb : ∀ (W' : WX) (pn : List (Addr × Obj)) (xe : Value → Shared → Prop), Takes (X.tr pn xe) W' → PassesOwn (model X.prog X.w) X.A X.env xe → DSs (X.tr pn xe) W' body db) (hh : HdsND X (h0 :: hds) l) :
    DS X W (.Try body (h0 :: hds) [] [] pos) (dTryN l db) := by
  obtain ⟨lc, h1, h2⟩ := hh.ok
  refine ⟨⟨_, ps_try_nam (tb := fun W' => tsOf X.K W' db) (Wo := W) hs hf hN tk (fun W' pn xe t po => (hb W' pn xe t po).pss) h1, fun F σ H s G Dd E rs st q r => ?_⟩⟩
  refine ⟨F, s, G, _, rs, st, q, r.nx, r.rt, ?_, r.bk, r.ct⟩
  intro F' H' G' cls dd e σ' s' hF rs' rx st' q'
  exact h2 W E Dd F' H' G' cls dd e σ' s' rs' rx st' (r.mono hF) q'
/-! from here on a name's list stands still -/
abbrev dFrzV (k : Nat) (d : DTS) : DTS := fun D s G => match s[k]? with
  | some (some (.ref a)) => match G a with
    | some (.lst ds) => d D (s.set k (some (.lst ds))) (gdel G a)
    | _ => False
  | _ => False
theorem RepSt.setD {K : PySem.W.Frag} {F : Fp} {σ : St} {s : DSt} {k : Nat} {v : V} {d : D} (r : RepSt K F σ s) (h : σ[k]? = some (some v)) (hd : Rep K F v d) : RepSt K F σ (s.set k (some d)) := by
  have z := r.set k hd
  rwa [show σ.set k (some v) = σ from by
    obtain ⟨hl, e⟩ := List.getElem?_eq_some_iff.mp h
    rw [← e, List.set_getElem_self]] at z
theorem ds_frzV {X : Cx} {W : WX} {st : Stmt} {d : DTS} (k : Nat) (h : DS X W st d) : DS X W st (dFrzV k d) := by
  obtain ⟨t, p, a⟩ := h
  refine ⟨⟨t, p, fun F σ H s G Dd E rs sr q r => ?_⟩⟩
  unfold dFrzV at q
  split at q
  · rename_i b e
    split at q
    · rename_i ds eg
      obtain ⟨v, h1, h2⟩ := sr.at_ k _ e
      cases h2
      obtain ⟨F2, e2, rs2, r2⟩ := rs.freeze eg
      exact a F2 σ H _ _ Dd E rs2 ((sr.mono e2).setD h1 r2) q (r.mono e2)
    · exact q.elim
  · exact q.elim
end Dl
set_option Elab.async false
set_option linter.all false
set_option maxRecDepth 100000
set_option maxHeartbeats 4000000
open PySem PySem.Spec PyProof.Rows L2 Dl
namespace Lk16
set_option autoImplicit false
def m_OutOfRange : Str → Option Bool := catT [("DivisionByZero", false), ("OutOfRange", true), ("TooGreat", false), ("TooMany", false)]
theorem m_OutOfRange_DivisionByZero : m_OutOfRange "DivisionByZero" = some false := by decide +kernel
theorem m_OutOfRange_OutOfRange : m_OutOfRange "OutOfRange" = some true := by decide +kernel
theorem m_OutOfRange_TooGreat : m_OutOfRange "TooGreat" = some false := by decide +kernel
theorem m_OutOfRange_TooMany : m_OutOfRange "TooMany" = some false := by decide +kernel
def m_TooMany : Str → Option Bool := catT [("DivisionByZero", false), ("OutOfRange", false), ("TooGreat", false), ("TooMany", true)]
theorem m_TooMany_DivisionByZero : m_TooMany "DivisionByZero" = some false := by decide +kernel
theorem m_TooMany_OutOfRange : m_TooMany "OutOfRange" = some false := by decide +kernel
theorem m_TooMany_TooGreat : m_TooMany "TooGreat" = some false := by decide +kernel
theorem m_TooMany_TooMany : m_TooMany "TooMany" = some true := by decide +kernel
def kitm : Str → D → Option Bool := kitT [(("DivisionByZero", .inl "FontError"), true), (("OutOfRange", .inl "FontError"), true), (("TooGreat", .inl "FontError"), true), (("TooMany", .inl "FontError"), true)]
theorem kit_DivisionByZero_FontError : kitm "DivisionByZero" (.glo "FontError") = some true := by decide +kernel
theorem kit_OutOfRange_FontError : kitm "OutOfRange" (.glo "FontError") = some true := by decide +kernel
theorem kit_TooGreat_FontError : kitm "TooGreat" (.glo "FontError") = some true := by decide +kernel
theorem kit_TooMany_FontError : kitm "TooMany" (.glo "FontError") = some true := by decide +kernel
local macro_rules | `(tactic| walk_at "dl") => `(tactic| simp only [m_OutOfRange_DivisionByZero, m_OutOfRange_OutOfRange, m_OutOfRange_TooGreat, m_OutOfRange_TooMany, m_TooMany_DivisionByZero, m_TooMany_OutOfRange, m_TooMany_TooGreat, m_TooMany_TooMany, kit_DivisionByZero_FontError, kit_OutOfRange_FontError, kit_TooGreat_FontError, kit_TooMany_FontError, dSeq, dNext, dBreak, dCont, dDrop, dRet, dRetN, dIfS, dNever, dAsg, dSet, dPar, dAug, dRaise, dVar, dC, dOp, dTest, dChain, dIsN, dNeg, dTru, dAnd, dOr, dNot, dAndV, dOrV, dNotV, dIf, dNil, dCons, dTup, dLst, dLstM, dStrm, dSl, dLc, dLcM, dYes, wipeD, dNoPart, dPart, dCall, dCallK, dCallD, dListRg1, dListRg1M, dListRg2, dCB, g1, g2, dgName, dgNil, dgCons, dgTup, dgSub, dFrz, frzD, dFrzV, dRevT, dTry, dTryAs, dTryM, sEnds, pick, dTryN, asEnds, pickN, gIsE, g2, dFor, dRng1, dRng2, dItSeq, dBM, dBM0, dRev, gI, gI0, gAdd, gMulA, geq_ii, geq_tup, geq_lst, geq_ref, geq_non, geq_bl, geq_str, geq_it, geq_il, geq_in, gIx, gLen, gInt, gAbs, gIsi, gListOf, gTupOf, gSl, gCatL, gRepL, gSetL, isL, dmAppend, dmExtend, dmPop, lv, cv, truth, tyOf, isNon, dstart, fEnds, Sm, List.map, List.replicate, List.length, List.append, List.cons_append, List.nil_append, List.set, List.getElem?_cons_zero, List.getElem?_cons_succ, List.getElem?_nil, Nat.reduceSub, Nat.reduceAdd, Bool.false_eq_true, if_false, if_true, decide_eq_true_eq, true_and, and_true, reduceCtorEq, Nat.succ_eq_add_one, Nat.zero_add, ite_true, ite_false, Option.map, eq_self, Int.reduceNeg, Int.reduceLE, Int.reduceLT, Int.reducePow, Int.reduceToNat, Int.reduceAdd, Int.reduceSub, Int.reduceMul, size_0, size_1, size_2, size_3, size_4, size_5, size_6, size_7, size_8, kit_ii, kit_ib, kit_bi, kit_bb, kit_tt, kit_tl, kit_lt, kit_ll, kit_it, kit_nt, kit_ti, kit_st, kit_si, kit_ss, atI_0, atI_1, atI_2, atI_3, atI_4, atI_5, gupd_same, gupd_gupd, Bool.not_true, Bool.not_false, Bool.not_eq_true', decide_eq_false_iff_not, Bool.not_eq_eq_eq_not, ne_eq, not_false_eq_true, Int.cast_ofNat_Int, Int.reduceEq, decide_true, decide_false])
/-- far from the line of a product's size -/
def Bnd (x : Int) : Prop := -1000000000000000000000000000000000000000000000000000000000000 ≤ x ∧ x ≤ 1000000000000000000000000000000000000000000000000000000000000
theorem cmul_b {i j : Int} (hi : Bnd i) (hj : Bnd j) : CMulD i j := by
  have e : (2 : Nat) ^ 200 = 1606938044258990275541962092341162602522202993782792835301376 := by decide
  obtain ⟨h1, h2⟩ := hi
  obtain ⟨h3, h4⟩ := hj
  exact cmul_w 200 200 (by rw [e]; omega) (by rw [e]; omega)
/-- a grid point -/
abbrev Pt := Int × Int
def pt (p : Pt) : D := .tup [.int p.1, .int p.2]
def PtB (p : Pt) : Prop := (-100000000000000000000 ≤ p.1 ∧ p.1 ≤ 100000000000000000000) ∧ (-100000000000000000000 ≤ p.2 ∧ p.2 ≤ 100000000000000000000)
def PtC (p : Pt) : Prop := (-1000000000000 ≤ p.1 ∧ p.1 ≤ 1000000000000) ∧ (-1000000000000 ≤ p.2 ∧ p.2 ≤ 1000000000000)
theorem PtC.b {p : Pt} (h : PtC p) : PtB p := by
  obtain ⟨⟨a, b⟩, c, d⟩ := h
  exact ⟨⟨by omega, by omega⟩, by omega, by omega⟩
theorem map_get {α β : Type} {f : α → β} {xs : List α} {i : Nat} {y : β} (h : (xs.map f)[i]? = some y) : ∃ x, xs[i]? = some x ∧ y = f x := by
  rw [List.getElem?_map] at h
  obtain ⟨x, h1, h2⟩ := Option.map_eq_some_iff.mp h
  exact ⟨x, h1, h2.symm⟩
theorem take_succ' {α : Type} {xs : List α} {i : Nat} {x : α} (h : xs[i]? = some x) : xs.take (i + 1) = xs.take i ++ [x] := by
  rw [List.take_add_one, h]
  rfl
/-- a comprehension's list, drawn turn by turn over a range -/
def LcV (G1 : Gp) (p : Addr) (P : Nat → List D → Prop) : Nat → List D → Gp → Prop := fun i acc G' => G' = gupd G1 p (.lst acc) ∧ acc.length ≤ i ∧ P i acc
theorem lc_rng {lo : Int} {n : Nat} {g : DTG} {tt : DTT} {te : DTE} {s : DSt} {G1 : Gp} {p : Addr} {fin : List D → Gp → Prop} (P : Nat → List D → Prop) (h0 : P 0 [])
    (turn : ∀ i acc, i < n → acc.length ≤ i → P i acc → g (.int (lo + i)) s (gupd G1 p (.lst acc)) fun s2 G2 => tt s2 G2 (fun b G3 => if b = true then te s2 G3 (fun y G4 => G4 p = some (.lst acc) ∧ acc.length < sizeLine ∧ LcV G1 p P (i + 1) (acc ++ [y]) (gupd G4 p (.lst (acc ++ [y])))) X0 else LcV G1 p P (i + 1) acc G3) X0)
    (done : ∀ acc, acc.length ≤ n → P n acc → fin acc (gupd G1 p (.lst acc))) : lcTurns (itInts lo n) g tt te s G1 p fin := by
  refine ⟨LcV G1 p P, ⟨rfl, Nat.le_refl _, h0⟩, ?_, ?_, ?_⟩
  · rintro i acc G' hi ⟨rfl, _, _⟩
    exact ⟨gupd_same .., trivial⟩
  · rintro i x acc G' hi rfl ⟨rfl, hl, hP⟩
    exact turn i acc hi hl hP
  · rintro acc G' ⟨rfl, hl, hP⟩
    exact done acc hl hP
theorem lc_push {G1 : Gp} {p : Addr} {P : Nat → List D → Prop} {i : Nat} {acc : List D} {y : D} (hl : acc.length ≤ i) (hi : i < 16777215) (h : P (i + 1) (acc ++ [y])) :
    (gupd G1 p (.lst acc)) p = some (.lst acc) ∧ acc.length < sizeLine ∧ LcV G1 p P (i + 1) (acc ++ [y]) (gupd (gupd G1 p (.lst acc)) p (.lst (acc ++ [y]))) := by
  refine ⟨gupd_same .., size_lt (by omega), gupd_gupd .., ?_, h⟩
  rw [List.length_append]
  show acc.length + 1 ≤ i + 1
  omega
theorem lc_lst {ds : List D} {g : DTG} {tt : DTT} {te : DTE} {s : DSt} {G1 : Gp} {p : Addr} {fin : List D → Gp → Prop} (P : Nat → List D → Prop) (h0 : P 0 [])
    (turn : ∀ i x acc, ds[i]? = some x → acc.length ≤ i → P i acc → g x s (gupd G1 p (.lst acc)) fun s2 G2 => tt s2 G2 (fun b G3 => if b = true then te s2 G3 (fun y G4 => G4 p = some (.lst acc) ∧ acc.length < sizeLine ∧ LcV G1 p P (i + 1) (acc ++ [y]) (gupd G4 p (.lst (acc ++ [y])))) X0 else LcV G1 p P (i + 1) acc G3) X0)
    (done : ∀ acc, acc.length ≤ ds.length → P ds.length acc → fin acc (gupd G1 p (.lst acc))) : lcTurns (itList ds) g tt te s G1 p fin := by
  refine ⟨LcV G1 p P, ⟨rfl, Nat.le_refl _, h0⟩, ?_, ?_, ?_⟩
  · rintro i acc G' hi ⟨rfl, _, _⟩
    exact ⟨gupd_same .., trivial⟩
  · rintro i x acc G' hi hx ⟨rfl, hl, hP⟩
    exact turn i x acc hx hl hP
  · rintro acc G' ⟨rfl, hl, hP⟩
    exact done acc hl hP
/-- the same, where the walk has read the heap -/
theorem lc_push' {G1 : Gp} {p : Addr} {P : Nat → List D → Prop} {i : Nat} {acc : List D} {y : D} (hl : acc.length ≤ i) (hi : i < 16777215) (h : P (i + 1) (acc ++ [y])) :
    acc.length < sizeLine ∧ LcV G1 p P (i + 1) (acc ++ [y]) (gupd G1 p (.lst (acc ++ [y]))) := by
  have z := lc_push (G1 := G1) (p := p) (P := P) hl hi h
  rw [gupd_gupd] at z
  exact z.2
/-- data that == may look at -/
def EqN (n : Nat) (d : D) : Prop := pure? d = true ∧ (toP d).canLay0 = true ∧ (toP d).depth ≤ n
theorem EqN.ok {n : Nat} {d : D} (h : EqN n d) (hn : n ≤ 64 := by decide) : EqOk d := by
  obtain ⟨a, b, c⟩ := h
  refine ⟨a, ?_⟩
  unfold SeqAt.shaped
  rw [b, Bool.true_and, decide_eq_true_eq]
  omega
theorem eqn_all {n : Nat} : ∀ {ds : List D}, (∀ d ∈ ds, EqN n d) → pure?.pures ds = true ∧ PyData.canLayAll0 (toP.toPs ds) = true ∧ PyData.depthAll (toP.toPs ds) ≤ n
  | [], _ => by
    unfold pure?.pures toP.toPs PyData.canLayAll0 PyData.depthAll
    exact ⟨rfl, rfl, Nat.zero_le _⟩
  | d :: ds, h => by
    obtain ⟨a, b, c⟩ := h d (List.mem_cons_self ..)
    obtain ⟨a', b', c'⟩ := eqn_all fun x hx => h x (List.mem_cons_of_mem _ hx)
    unfold pure?.pures toP.toPs PyData.canLayAll0 PyData.depthAll
    rw [a, a', b, b']
    exact ⟨rfl, rfl, by omega⟩
theorem eqn_lst {n : Nat} {ds : List D} (h : ∀ d ∈ ds, EqN n d) : EqN (n + 1) (.lst ds) := by
  obtain ⟨a, b, c⟩ := eqn_all h
  unfold EqN pure? toP PyData.canLay0 PyData.depth
  exact ⟨a, b, by omega⟩
theorem eqn_tup {n : Nat} {ds : List D} (h : ∀ d ∈ ds, EqN n d) : EqN (n + 1) (.tup ds) := by
  obtain ⟨a, b, c⟩ := eqn_all h
  unfold EqN pure? toP PyData.canLay0 PyData.depth
  exact ⟨a, b, by omega⟩
theorem eqn_int (i : Int) : EqN 0 (.int i) := ⟨rfl, rfl, Nat.le_refl 0⟩
theorem eqn_pt (p : Pt) : EqN 1 (pt p) := eqn_tup fun d h => by
  simp only [List.mem_cons, List.not_mem_nil, or_false] at h
  rcases h with rfl | rfl <;> exact eqn_int _
mutual
theorem eqv_refl : ∀ {d : D}, pure? d = true → PyData.eqv (toP d) (toP d) = true
  | .non, _ => by unfold toP PyData.eqv; rfl
  | .bl b, _ => by unfold toP PyData.eqv; exact beq_self_eq_true b
  | .int i, _ => by unfold toP PyData.eqv; exact beq_self_eq_true i
  | .str x, _ => by unfold toP PyData.eqv; exact beq_self_eq_true x
  | .tup ds, h => by
    unfold toP PyData.eqv
    unfold pure? at h
    exact eqv_refls h
  | .lst ds, h => by
    unfold toP PyData.eqv
    unfold pure? at h
    exact eqv_refls h
  | .ty _, h => by simp [pure?] at h
  | .ref _, h => by simp [pure?] at h
  | .glo _, h => by simp [pure?] at h
  | .strm, h => by simp [pure?] at h
  | .scr _, h => by simp [pure?] at h
theorem eqv_refls : ∀ {ds : List D}, pure?.pures ds = true → PyData.eqvAll (toP.toPs ds) (toP.toPs ds) = true
  | [], _ => by unfold toP.toPs PyData.eqvAll; rfl
  | d :: ds, h => by
    unfold pure?.pures at h
    have h' := Bool.and_eq_true_iff.mp h
    unfold toP.toPs PyData.eqvAll
    rw [eqv_refl h'.1, eqv_refls h'.2]
    rfl
end
theorem deq_refl {n : Nat} {d : D} (h : EqN n d) : deq d d = true := eqv_refl h.1
theorem EqN.mono {n m : Nat} {d : D} (h : EqN n d) (l : n ≤ m) : EqN m d := ⟨h.1, h.2.1, Nat.le_trans h.2.2 l⟩
theorem geq_pt {p : Pt} {G : Gp} {Q : DK} (h : Q (.bl true) G) : gEq false (pt p) (pt p) G Q := ⟨(eqn_pt p).ok, (eqn_pt p).ok, by
  show Q (.bl (if false = true then _ else deq (pt p) (pt p))) G
  rw [deq_refl (eqn_pt p)]
  exact h⟩
theorem at_end {α : Type} {xs : List α} {x : α} (h0 : 0 < xs.length) (h : xs[xs.length - 1]? = some x) : atI xs (-1) = some x := by
  unfold atI ixN
  rw [if_neg (by decide), if_pos (by omega)]
  show xs[_]? = some x
  rw [← h]
  congr 1
  omega
theorem geq_selfT {n : Nat} {xs : List D} {G : Gp} {Q : DK} (e : EqN n (.tup xs)) (hn : n ≤ 64) (h : Q (.bl true) G) : gEq false (.tup xs) (.tup xs) G Q := ⟨e.ok hn, e.ok hn, by
  show Q (.bl (if false = true then _ else deq (.tup xs) (.tup xs))) G
  rw [deq_refl e]
  exact h⟩
theorem geq_selfL {n : Nat} {xs : List D} {G : Gp} {Q : DK} (e : EqN n (.lst xs)) (hn : n ≤ 64) (h : Q (.bl true) G) : gEq false (.lst xs) (.lst xs) G Q := ⟨e.ok hn, e.ok hn, by
  show Q (.bl (if false = true then _ else deq (.lst xs) (.lst xs))) G
  rw [deq_refl e]
  exact h⟩
theorem eqn_bl (b : Bool) : EqN 0 (.bl b) := ⟨rfl, rfl, Nat.le_refl 0⟩
theorem eqn_b3 (a b c : Bool) : EqN 1 (.lst [.bl a, .bl b, .bl c]) := eqn_lst fun d h => by
  simp only [List.mem_cons, List.not_mem_nil, or_false] at h
  rcases h with rfl | rfl | rfl <;> exact eqn_bl _
theorem eqn_str (x : Str) (h : PyData.strOk x = true := by decide +kernel) : EqN 0 (.str x) := ⟨rfl, by unfold toP PyData.canLay0; exact h, Nat.le_refl 0⟩
theorem geq_selfS {x : Str} {G : Gp} {Q : DK} (hx : PyData.strOk x = true) (h : Q (.bl true) G) : gEq false (.str x) (.str x) G Q := ⟨(eqn_str x hx).ok, (eqn_str x hx).ok, by
  show Q (.bl (if false = true then _ else deq (.str x) (.str x))) G
  rw [deq_refl (eqn_str x hx)]
  exact h⟩
theorem self_ne {n : Nat} {d : D} {A B : Prop} (e : EqN n d) (hn : n ≤ 64) (h : B) : EqOk d ∧ EqOk d ∧ if deq d d = false then A else B := ⟨e.ok hn, e.ok hn, by
  rw [deq_refl e, if_neg (by decide)]
  exact h⟩
theorem self_eq {n : Nat} {d : D} {A B : Prop} (e : EqN n d) (hn : n ≤ 64) (h : A) : EqOk d ∧ EqOk d ∧ if deq d d = true then A else B := ⟨e.ok hn, e.ok hn, by
  rw [deq_refl e, if_pos rfl]
  exact h⟩
theorem self_q {n : Nat} {d : D} {G : Gp} {Q : DK} (e : EqN n d) (hn : n ≤ 64) (h : Q (.bl true) G) : EqOk d ∧ EqOk d ∧ Q (.bl (deq d d)) G := ⟨e.ok hn, e.ok hn, by
  rw [deq_refl e]
  exact h⟩
theorem geq_neT {n : Nat} {xs : List D} {G : Gp} {Q : DK} (e : EqN n (.tup xs)) (hn : n ≤ 64) (h : Q (.bl false) G) : gEq true (.tup xs) (.tup xs) G Q := ⟨e.ok hn, e.ok hn, by
  show Q (.bl (if true = true then !deq (.tup xs) (.tup xs) else _)) G
  rw [deq_refl e]
  exact h⟩

/-- the pair of a number in lowest terms -/
def rt (q : Rat) : D := .tup [.int q.num, .int q.den]
/-- within the text's limits -/
def RIn (q : Rat) : Prop := -1000000000000000000 ≤ q.num ∧ q.num ≤ 1000000000000000000 ∧ (q.den : Int) ≤ 1000000000000000000
/-- small enough for every product -/
def RW (q : Rat) : Prop := (-100000000000000000000000000000 ≤ q.num ∧ q.num ≤ 100000000000000000000000000000) ∧ (q.den : Int) ≤ 100000000000000000000000000000
theorem RIn.w {q : Rat} (h : RIn q) : RW q := by
  obtain ⟨a, b, c⟩ := h
  exact ⟨⟨by omega, by omega⟩, by omega⟩
theorem den_pos' (q : Rat) : (0 : Int) < (q.den : Int) := by
  have := q.den_nz
  omega
/-- a ratio of bounded parts -/
def RB (N M : Int) (q : Rat) : Prop := 0 < N ∧ ∃ m : Int, q = Rat.divInt m N ∧ -M ≤ m ∧ m ≤ M
theorem num_le {n d : Int} (hd : 0 < d) : (Rat.divInt n d).num.natAbs ≤ n.natAbs := by
  rw [Rat.num_divInt, Int.sign_eq_one_of_pos hd, Int.one_mul, Int.natAbs_ediv_of_dvd (Int.gcd_dvd_right ..)]
  exact Nat.div_le_self _ _
theorem den_le {n d : Int} (hd : 0 < d) : ((Rat.divInt n d).den : Int) ≤ d := by
  rw [Rat.den_divInt, if_neg (by omega)]
  have : d.natAbs / Int.gcd d n ≤ d.natAbs := Nat.div_le_self _ _
  omega
theorem RB.num {N M : Int} {q : Rat} (h : RB N M q) : -M ≤ q.num ∧ q.num ≤ M := by
  obtain ⟨h0, m, rfl, h1, h2⟩ := h
  have := num_le (n := m) h0
  omega
theorem RB.den {N M : Int} {q : Rat} (h : RB N M q) : (q.den : Int) ≤ N := by
  obtain ⟨h0, m, rfl, h1, h2⟩ := h
  exact den_le h0
theorem RB.inn {N M : Int} {q : Rat} (h : RB N M q) (h1 : N ≤ 1000000000000000000 := by decide) (h2 : M ≤ 1000000000000000000 := by decide) : RIn q := by
  have a := h.num
  have b := h.den
  exact ⟨by omega, by omega, by omega⟩
theorem RB.w {N M : Int} {q : Rat} (h : RB N M q) (h1 : N ≤ 100000000000000000000000000000 := by decide) (h2 : M ≤ 100000000000000000000000000000 := by decide) : RW q := by
  have a := h.num
  have b := h.den
  exact ⟨⟨by omega, by omega⟩, by omega⟩
theorem RB.le {N M M' : Int} {q : Rat} (h : RB N M q) (hm : M ≤ M') : RB N M' q := by
  obtain ⟨h0, m, e, h1, h2⟩ := h
  exact ⟨h0, m, e, by omega, by omega⟩
theorem RB.mul {N M N' M' : Int} {p q : Rat} (h : RB N M p) (h' : RB N' M' q) : RB (N * N') (M * M') (p * q) := by
  obtain ⟨h0, m, rfl, h1, h2⟩ := h
  obtain ⟨k0, k, rfl, k1, k2⟩ := h'
  refine ⟨Int.mul_pos h0 k0, m * k, Rat.divInt_mul_divInt _ _, ?_⟩
  have e : (m * k).natAbs ≤ M.natAbs * M'.natAbs := by
    rw [Int.natAbs_mul]
    exact Nat.mul_le_mul (by omega) (by omega)
  have e2 : ((M.natAbs * M'.natAbs : Nat) : Int) = M * M' := by
    rw [Int.natCast_mul, Int.natAbs_of_nonneg (by omega), Int.natAbs_of_nonneg (by omega)]
  omega
theorem RB.add {N M M' : Int} {p q : Rat} (h : RB N M p) (h' : RB N M' q) : RB N (M + M') (p + q) := by
  obtain ⟨h0, m, rfl, h1, h2⟩ := h
  obtain ⟨k0, k, rfl, k1, k2⟩ := h'
  refine ⟨h0, m + k, ?_, by omega, by omega⟩
  rw [Rat.divInt_add_divInt _ _ (by omega) (by omega), ← Int.add_mul, Rat.divInt_mul_right (by omega)]
theorem RB.neg {N M : Int} {p : Rat} (h : RB N M p) : RB N M (-p) := by
  obtain ⟨h0, m, rfl, h1, h2⟩ := h
  exact ⟨h0, -m, Rat.neg_divInt _ _, by omega, by omega⟩
theorem RB.sub {N M M' : Int} {p q : Rat} (h : RB N M p) (h' : RB N M' q) : RB N (M + M') (p - q) := by
  rw [Rat.sub_eq_add_neg]
  exact h.add h'.neg
/-- over a greater whole -/
theorem RB.over {N M : Int} {p : Rat} (k : Int) (hk : 0 < k) (h : RB N M p) : RB (N * k) (M * k) p := by
  obtain ⟨h0, m, rfl, h1, h2⟩ := h
  refine ⟨Int.mul_pos h0 hk, m * k, (Rat.divInt_mul_right (by omega)).symm, ?_, ?_⟩
  · have := Int.mul_le_mul_of_nonneg_right h1 (show 0 ≤ k by omega)
    rw [Int.neg_mul] at this
    exact this
  · exact Int.mul_le_mul_of_nonneg_right h2 (by omega)
theorem RB.mk {n d N M : Int} (hd : 0 < d) (h : d ∣ N) (hN : 0 < N) (h1 : -M ≤ n * (N / d)) (h2 : n * (N / d) ≤ M) : RB N M (Rat.divInt n d) := by
  obtain ⟨k, rfl⟩ := h
  have hk : 0 < k := by
    rcases Int.lt_or_le 0 k with h | h
    · exact h
    · have := Int.mul_nonpos_of_nonneg_of_nonpos (show 0 ≤ d by omega) h
      omega
  rw [Int.mul_ediv_cancel_left _ (by omega)] at h1 h2
  exact ⟨hN, n * k, (Rat.divInt_mul_right (by omega)).symm, h1, h2⟩
theorem rt_add (p q : Rat) : Rat.divInt (p.num * q.den + q.num * p.den) (p.den * q.den) = p + q := by
  rw [Rat.add_def', ← Rat.divInt_ofNat, Int.natCast_mul]
theorem rt_sub (p q : Rat) : Rat.divInt (p.num * q.den - q.num * p.den) (p.den * q.den) = p - q := by
  rw [Rat.sub_def', ← Rat.divInt_ofNat, Int.natCast_mul]
theorem rt_mul (p q : Rat) : Rat.divInt (p.num * q.num) (p.den * q.den) = p * q := by
  rw [Rat.mul_def', ← Rat.divInt_ofNat, Int.natCast_mul]
theorem w_mul {a b : Int} (ha : -100000000000000000000000000000 ≤ a ∧ a ≤ 100000000000000000000000000000) (hb : -100000000000000000000000000000 ≤ b ∧ b ≤ 100000000000000000000000000000) :
    CMulD a b ∧ (a * b).natAbs ≤ 10000000000000000000000000000000000000000000000000000000000 := by
  refine ⟨cmul_b ⟨by omega, by omega⟩ ⟨by omega, by omega⟩, ?_⟩
  have e : (a * b).natAbs ≤ 100000000000000000000000000000 * 100000000000000000000000000000 := by
    rw [Int.natAbs_mul]
    exact Nat.mul_le_mul (by omega) (by omega)
  exact e
theorem RW.d {p : Rat} (h : RW p) : -100000000000000000000000000000 ≤ (p.den : Int) ∧ (p.den : Int) ≤ 100000000000000000000000000000 := by
  have := den_pos' p
  exact ⟨by omega, h.2⟩
theorem dmul_ne (p q : Rat) : (p.den : Int) * q.den ≠ 0 := by
  have := Int.mul_pos (den_pos' p) (den_pos' q)
  omega
theorem cdiv_b {i j : Int} (h : 0 < j) (hj : Bnd j) : CDivW i j := by
  have e : (2 : Nat) ^ 200 = 1606938044258990275541962092341162602522202993782792835301376 := by decide
  obtain ⟨_, h2⟩ := hj
  exact cdiv_w 200 h (by rw [e]; omega)
theorem eq_rt (p q : Rat) : deq (rt p) (rt q) = decide (p = q) := by
  have e : deq (rt p) (rt q) = (decide (p.num = q.num) && (decide ((p.den : Int) = q.den) && true)) := rfl
  rw [e, Bool.and_true]
  by_cases h : p = q
  · subst h
    simp
  · rw [decide_eq_false h, Bool.and_eq_false_iff, decide_eq_false_iff_not, decide_eq_false_iff_not]
    by_cases h1 : p.num = q.num
    · exact .inr fun h2 => h (Rat.ext h1 (by omega))
    · exact .inl h1
theorem eqn_rt (q : Rat) : EqN 1 (rt q) := eqn_tup fun d h => by
  simp only [List.mem_cons, List.not_mem_nil, or_false] at h
  rcases h with rfl | rfl <;> exact eqn_int _

theorem rt_div (p q : Rat) : Rat.divInt (p.num * q.den) (p.den * q.num) = p / q := by
  rw [Rat.div_def, Rat.inv_def]
  conv => rhs; lhs; rw [← Rat.num_divInt_den p]
  by_cases h : q.num = 0
  · rw [h, Int.mul_zero, Rat.divInt_zero, Rat.divInt_zero, Rat.mul_zero]
  · rw [Rat.divInt_mul_divInt]
/-- a point -/
def rp (p : Rat × Rat) : D := .tup [rt p.1, rt p.2]
structure Tr where
  tx : Rat
  ty : Rat
  xx : Rat
  xy : Rat
  yx : Rat
  yy : Rat
def trd (t : Tr) : D := .tup [rt t.tx, rt t.ty, rt t.xx, rt t.xy, rt t.yx, rt t.yy]
def applyR (t : Tr) (p : Rat × Rat) : Rat × Rat := (t.tx + t.xx * p.1 + t.xy * p.2, t.ty + t.yx * p.1 + t.yy * p.2)
def TB (t : Tr) : Prop := RB 60 6000 t.tx ∧ RB 60 6000 t.ty ∧ RB 60 6000 t.xx ∧ RB 60 6000 t.xy ∧ RB 60 6000 t.yx ∧ RB 60 6000 t.yy
def PB (p : Rat × Rat) : Prop := RB 60 3000 p.1 ∧ RB 60 3000 p.2
/-- what a transform's product needs -/
def RowOk (a b c x y : Rat) : Prop := (RW a ∧ RW b ∧ RW c ∧ RW x ∧ RW y) ∧ RIn (b * x) ∧ RIn (a + b * x) ∧ RIn (c * y) ∧ RIn (a + b * x + c * y)
theorem rowok {a b c x y : Rat} (ha : RB 60 6000 a) (hb : RB 60 6000 b) (hc : RB 60 6000 c) (hx : RB 60 3000 x) (hy : RB 60 3000 y) : RowOk a b c x y := by
  have m1 := hb.mul hx
  have m2 := hc.mul hy
  have s1 := (ha.over 60 (by decide)).add m1
  have s2 := s1.add m2
  exact ⟨⟨ha.w, hb.w, hc.w, hx.w, hy.w⟩, m1.inn, s1.inn, m2.inn, s2.inn⟩
theorem rb_lit {q : Rat} (n : Int) (h : q = Rat.divInt n 1) (h1 : -50 ≤ n) (h2 : n ≤ 50) : RB 60 3000 q := by
  subst h
  exact RB.mk (by decide) (by decide) (by decide) (by omega) (by omega)
theorem rb0 : RB 60 3000 0 := rb_lit 0 rfl (by decide) (by decide)
theorem rb1 : RB 60 3000 1 := rb_lit 1 rfl (by decide) (by decide)
theorem rbm1 : RB 60 3000 (-1) := rb1.neg
theorem RB.six {q : Rat} (h : RB 60 3000 q) : RB 60 6000 q := h.le (by decide)
theorem eqok_rp (p : Rat × Rat) : EqOk (rp p) := ⟨rfl, rfl⟩
theorem eq_rp (p q : Rat × Rat) : deq (rp p) (rp q) = decide (p = q) := by
  have e : deq (rp p) (rp q) = (deq (rt p.1) (rt q.1) && (deq (rt p.2) (rt q.2) && true)) := rfl
  rw [e, eq_rt, eq_rt, Bool.and_true]
  by_cases h : p = q
  · subst h
    simp
  · rw [decide_eq_false h, Bool.and_eq_false_iff, decide_eq_false_iff_not, decide_eq_false_iff_not]
    by_cases h1 : p.1 = q.1
    · exact .inr fun h2 => h (Prod.ext h1 h2)
    · exact .inl h1
theorem geq_rp {p q : Rat × Rat} {G : Gp} {Q : DK} (h : Q (.bl (decide (p = q))) G) : gEq false (rp p) (rp q) G Q := ⟨eqok_rp p, eqok_rp q, by
  show Q (.bl (if false = true then _ else deq (rp p) (rp q))) G
  rw [eq_rp]
  exact h⟩
theorem gne_rp {p q : Rat × Rat} {G : Gp} {Q : DK} (h : Q (.bl (!decide (p = q))) G) : gEq true (rp p) (rp q) G Q := ⟨eqok_rp p, eqok_rp q, by
  show Q (.bl (if true = true then !deq (rp p) (rp q) else _)) G
  rw [eq_rp]
  exact h⟩
theorem eqn_rp (p : Rat × Rat) : EqN 2 (rp p) := eqn_tup fun d h => by
  simp only [List.mem_cons, List.not_mem_nil, or_false] at h
  rcases h with rfl | rfl <;> exact eqn_rt _

/-- between two numbers -/
def bt (x y t : Rat) : Rat := x + t * (y - x)
def btw (p q : Rat × Rat) (t : Rat) : Rat × Rat := (bt p.1 q.1 t, bt p.2 q.2 t)
def BtOk (x y t : Rat) : Prop := RW x ∧ RW y ∧ RW t ∧ RIn (y - x) ∧ RIn (t * (y - x)) ∧ RIn (bt x y t)
theorem bt_rb {N M K L : Int} {x y t : Rat} (hx : RB N M x) (hy : RB N M y) (ht : RB K L t) : RB (N * K) (M * K + L * (M + M)) (bt x y t) := by
  have h := (hx.over K ht.1).add (show RB (N * K) (L * (M + M)) (t * (y - x)) by
    rw [Int.mul_comm N K]
    exact ht.mul (hy.sub hx))
  exact h
theorem btok {N M K L : Int} {x y t : Rat} (hx : RB N M x) (hy : RB N M y) (ht : RB K L t) (n1 : N * K ≤ 1000000000000000000 := by decide) (n2 : M * K + L * (M + M) ≤ 1000000000000000000 := by decide)
    (n3 : N ≤ 1000000000000000000 := by decide) (n4 : M + M ≤ 1000000000000000000 := by decide) (n5 : K ≤ 1000000000000000000 := by decide) (n6 : L ≤ 1000000000000000000 := by decide) (n7 : L * (M + M) ≤ 1000000000000000000 := by decide) (n8 : 0 ≤ M := by decide) : BtOk x y t :=
  ⟨(hx.inn n3 (by omega)).w, (hy.inn n3 (by omega)).w, (ht.inn n5 n6).w, (hy.sub hx).inn n3 n4, (ht.mul (hy.sub hx)).inn (by rw [Int.mul_comm]; exact n1) n7, (bt_rb hx hy ht).inn n1 n2⟩
abbrev Seg := Option ((Rat × Rat) × (Rat × Rat))
def segd : Seg → D
  | none => .non
  | some s => .tup [rp s.1, rp s.2]
def SegB : Seg → Prop
  | none => True
  | some s => PB s.1 ∧ PB s.2
/-- a cut's time -/
def TmB (t : Rat) : Prop := RB 2520 7560 t
def cutd (a : Rat × Rat) (s : Seg) (b : Rat × Rat) (t : Rat) : Seg × (Rat × Rat) × Seg := match s with
  | none => (none, btw a b t, none)
  | some s =>
    (some (btw a s.1 t, btw (btw a s.1 t) (btw s.1 s.2 t) t), btw (btw (btw a s.1 t) (btw s.1 s.2 t) t) (btw (btw s.1 s.2 t) (btw s.2 b t) t) t, some (btw (btw s.1 s.2 t) (btw s.2 b t) t, btw s.2 b t))
/-- points of the first, second, third cut -/
def PB1 (p : Rat × Rat) : Prop := RB 151200 52920000 p.1 ∧ RB 151200 52920000 p.2
def PB2 (p : Rat × Rat) : Prop := RB 381024000 933508800000 p.1 ∧ RB 381024000 933508800000 p.2
def PB3 (p : Rat × Rat) : Prop := RB 960180480000 16467095232000000 p.1 ∧ RB 960180480000 16467095232000000 p.2
theorem pb1 {p q : Rat × Rat} {t : Rat} (hp : PB p) (hq : PB q) (ht : TmB t) : (BtOk p.1 q.1 t ∧ BtOk p.2 q.2 t) ∧ PB1 (btw p q t) :=
  ⟨⟨btok hp.1 hq.1 ht, btok hp.2 hq.2 ht⟩, bt_rb hp.1 hq.1 ht, bt_rb hp.2 hq.2 ht⟩
theorem pb2 {p q : Rat × Rat} {t : Rat} (hp : PB1 p) (hq : PB1 q) (ht : TmB t) : (BtOk p.1 q.1 t ∧ BtOk p.2 q.2 t) ∧ PB2 (btw p q t) :=
  ⟨⟨btok hp.1 hq.1 ht, btok hp.2 hq.2 ht⟩, bt_rb hp.1 hq.1 ht, bt_rb hp.2 hq.2 ht⟩
theorem pb3 {p q : Rat × Rat} {t : Rat} (hp : PB2 p) (hq : PB2 q) (ht : TmB t) : (BtOk p.1 q.1 t ∧ BtOk p.2 q.2 t) ∧ PB3 (btw p q t) :=
  ⟨⟨btok hp.1 hq.1 ht, btok hp.2 hq.2 ht⟩, bt_rb hp.1 hq.1 ht, bt_rb hp.2 hq.2 ht⟩
/-- the curve's number at u, as the law reckons it -/
def bern (a b c d u : Rat) : Rat := 0 + (1 - u) * ((1 - u) * (1 - u)) * a + 3 * (u * ((1 - u) * (1 - u))) * b + 3 * (u * (u * (1 - u))) * c + u * (u * u) * d
def BnOk (a b c d u : Rat) : Prop :=
  (RW u ∧ RW (1 - u) ∧ RW ((1 - u) * (1 - u)) ∧ RW (u * (1 - u)) ∧ RW (u * u) ∧ RW (u * ((1 - u) * (1 - u))) ∧ RW (u * (u * (1 - u)))) ∧
  (RW ((1 - u) * ((1 - u) * (1 - u))) ∧ RW (3 * (u * ((1 - u) * (1 - u)))) ∧ RW (3 * (u * (u * (1 - u)))) ∧ RW (u * (u * u))) ∧ (RW a ∧ RW b ∧ RW c ∧ RW d) ∧
  (RW ((1 - u) * ((1 - u) * (1 - u)) * a) ∧ RW (3 * (u * ((1 - u) * (1 - u))) * b) ∧ RW (3 * (u * (u * (1 - u))) * c) ∧ RW (u * (u * u) * d)) ∧
  RW (0 + (1 - u) * ((1 - u) * (1 - u)) * a) ∧ RW (0 + (1 - u) * ((1 - u) * (1 - u)) * a + 3 * (u * ((1 - u) * (1 - u))) * b) ∧
  RW (0 + (1 - u) * ((1 - u) * (1 - u)) * a + 3 * (u * ((1 - u) * (1 - u))) * b + 3 * (u * (u * (1 - u))) * c)
theorem rb_three : RB 1 3 3 := ⟨by decide, 3, rfl, by decide, by decide⟩
theorem rb_zero {N : Int} (h : 0 < N) : RB N 0 0 := ⟨h, 0, (Rat.zero_divInt N).symm, by decide, by decide⟩
theorem bnok {N M K L : Int} {a b c d u : Rat} (hu : RB K L u) (hr : RB K L (1 - u)) (ha : RB N M a) (hb : RB N M b) (hc : RB N M c) (hd : RB N M d)
    (n1 : K ≤ 100000000000000000000000000000 := by decide) (n2 : L ≤ 100000000000000000000000000000 := by decide) (n3 : K * K ≤ 100000000000000000000000000000 := by decide) (n4 : L * L ≤ 100000000000000000000000000000 := by decide)
    (n5 : 1 * (K * (K * K)) ≤ 100000000000000000000000000000 := by decide) (n6 : 3 * (L * (L * L)) ≤ 100000000000000000000000000000 := by decide) (n7 : N ≤ 100000000000000000000000000000 := by decide) (n8 : M ≤ 100000000000000000000000000000 := by decide)
    (n9 : 1 * (K * (K * K)) * N ≤ 100000000000000000000000000000 := by decide) (n10 : 3 * (L * (L * L)) * M + (3 * (L * (L * L)) * M + (3 * (L * (L * L)) * M)) ≤ 100000000000000000000000000000 := by decide)
    (n11 : 0 ≤ L * (L * L) := by decide) (n12 : 0 ≤ 3 * (L * (L * L)) * M := by decide) (n13 : 0 < 1 * (K * (K * K)) * N := by decide) : BnOk a b c d u := by
  have r2 := hr.mul hr
  have ur := hu.mul hr
  have u2 := hu.mul hu
  have up : ∀ {q : Rat}, RB (K * (K * K)) (L * (L * L)) q → RB (1 * (K * (K * K))) (3 * (L * (L * L))) q := fun h => by
    rw [Int.one_mul]
    exact h.le (by omega)
  have f0 := up (hr.mul r2)
  have f1 := rb_three.mul (hu.mul r2)
  have f2 := rb_three.mul (hu.mul ur)
  have f3 := up (hu.mul u2)
  have m0 := f0.mul ha
  have m1 := f1.mul hb
  have m2 := f2.mul hc
  have m3 := f3.mul hd
  have z := rb_zero n13
  have s0 := z.add m0
  have s1 := s0.add m1
  have s2 := s1.add m2
  have k5 : K * (K * K) ≤ 100000000000000000000000000000 := by omega
  have k6 : L * (L * L) ≤ 100000000000000000000000000000 := by omega
  exact ⟨⟨hu.w n1 n2, hr.w n1 n2, r2.w n3 n4, ur.w n3 n4, u2.w n3 n4, (hu.mul r2).w k5 k6, (hu.mul ur).w k5 k6⟩, ⟨f0.w n5 n6, f1.w n5 n6, f2.w n5 n6, f3.w n5 n6⟩, ⟨ha.w n7 n8, hb.w n7 n8, hc.w n7 n8, hd.w n7 n8⟩,
    ⟨m0.w n9 (by omega), m1.w n9 (by omega), m2.w n9 (by omega), m3.w n9 (by omega)⟩, s0.w n9 (by omega), s1.w n9 (by omega), s2.w n9 (by omega)⟩
def onseg (a : Rat × Rat) (s : Seg) (b : Rat × Rat) (u : Rat) : Rat × Rat := match s with
  | none => btw a b u
  | some s => (bern a.1 s.1.1 s.2.1 b.1 u, bern a.2 s.1.2 s.2.2 b.2 u)
def LnOk (x y t : Rat) : Prop := RW x ∧ RW y ∧ RW t ∧ RW (y - x) ∧ RW (t * (y - x))
def OnOk (a : Rat × Rat) (s : Seg) (b : Rat × Rat) (u : Rat) : Prop := match s with
  | none => LnOk a.1 b.1 u ∧ LnOk a.2 b.2 u
  | some s => BnOk a.1 s.1.1 s.2.1 b.1 u ∧ BnOk a.2 s.1.2 s.2.2 b.2 u
theorem BtOk.ln {x y t : Rat} (h : BtOk x y t) : LnOk x y t := ⟨h.1, h.2.1, h.2.2.1, h.2.2.2.1.w, h.2.2.2.2.1.w⟩
theorem TmB.seven {t : Rat} (h : TmB t) : RB 7560 22680 t := h.over 3 (by decide)
theorem TmB.rest {t : Rat} (h : TmB t) : RB 2520 10080 (1 - t) := (show RB 2520 2520 1 from ⟨by decide, 2520, by decide +kernel, by decide, by decide⟩).sub h
theorem one7 : RB 7560 7560 1 := ⟨by decide, 7560, by decide +kernel, by decide, by decide⟩
theorem bern_1 (a b c d t : Rat) : bern a b c d t = bt (bt (bt a b t) (bt b c t) t) (bt (bt b c t) (bt c d t) t) t := by
  unfold bern bt
  grind
theorem cut_mid (a : Rat × Rat) (s : Seg) (b : Rat × Rat) (t : Rat) : (cutd a s b t).2.1 = onseg a s b t := by
  cases s with
  | none => rfl
  | some s => exact Prod.ext (bern_1 ..).symm (bern_1 ..).symm
theorem onok {a b : Rat × Rat} {s : Seg} {u : Rat} (hu : RB 7560 60480 u) (hr : RB 7560 60480 (1 - u)) (ha : PB a) (hs : SegB s) (hb : PB b) : OnOk a s b u := by
  cases s with
  | none =>
    have l : ∀ {x y : Rat}, RB 60 3000 x → RB 60 3000 y → LnOk x y u := fun hx hy => ⟨hx.w, hy.w, hu.w, (hy.sub hx).w, (hu.mul (hy.sub hx)).w⟩
    exact ⟨l ha.1 hb.1, l ha.2 hb.2⟩
  | some s => exact ⟨bnok hu hr ha.1 hs.1.1 hs.2.1 hb.1, bnok hu hr ha.2 hs.1.2 hs.2.2 hb.2⟩
theorem tm_of {n d : Int} (h1 : 1 ≤ d) (h9 : d ≤ 9) (n1 : -(2 * d) ≤ n) (n2 : n ≤ 3 * d) : TmB (Rat.divInt n d) := by
  have hd : d = 1 ∨ d = 2 ∨ d = 3 ∨ d = 4 ∨ d = 5 ∨ d = 6 ∨ d = 7 ∨ d = 8 ∨ d = 9 := by omega
  rcases hd with rfl | rfl | rfl | rfl | rfl | rfl | rfl | rfl | rfl <;> exact RB.mk (by decide) (by decide) (by decide) (by omega) (by omega)
theorem eqn_seg (s : Seg) : EqN 3 (segd s) := by
  cases s with
  | none => exact ⟨rfl, rfl, by decide⟩
  | some s =>
    refine eqn_tup fun d h => ?_
    simp only [List.mem_cons, List.not_mem_nil, or_false] at h
    rcases h with rfl | rfl <;> exact eqn_rp _

structure Pth where
  knots : List (Rat × Rat)
  segs : List Seg
  cyc : Bool
def pathd (P : Pth) : D := .tup [.tup (P.knots.map rp), .tup (P.segs.map segd), .bl P.cyc]
def Pth.kn (P : Pth) (k : Nat) : Rat × Rat := P.knots.getD (k % P.knots.length) (0, 0)
def Pth.sg (P : Pth) (k : Nat) : Seg := P.segs.getD k none
structure PathOk (m : Nat) (P : Pth) : Prop where
  k0 : 0 < P.knots.length
  km : P.knots.length ≤ m
  kb : ∀ p ∈ P.knots, PB p
  sb : ∀ s ∈ P.segs, SegB s
  sl : P.segs.length = if P.cyc = true then P.knots.length else P.knots.length - 1
theorem PathOk.kn {m : Nat} {P : Pth} (h : PathOk m P) (k : Nat) : PB (P.kn k) := by
  have l := Nat.mod_lt k h.k0
  unfold Pth.kn
  rw [List.getD_eq_getElem?_getD, List.getElem?_eq_getElem l]
  exact h.kb _ (List.getElem_mem l)
theorem PathOk.sg {m : Nat} {P : Pth} (h : PathOk m P) {k : Nat} (l : k < P.segs.length) : SegB (P.sg k) := by
  unfold Pth.sg
  rw [List.getD_eq_getElem?_getD, List.getElem?_eq_getElem l]
  exact h.sb _ (List.getElem_mem l)
theorem at_kn {P : Pth} (h : 0 < P.knots.length) (k : Nat) : atI (P.knots.map rp) ((k : Int) % ((P.knots.map rp).length : Int)) = some (rp (P.kn k)) := by
  have l := Nat.mod_lt k h
  rw [List.length_map, ← Int.natCast_emod]
  refine atI_nat ?_
  unfold Pth.kn
  rw [List.getElem?_map, List.getD_eq_getElem?_getD, List.getElem?_eq_getElem l]
  rfl
theorem at_sg {P : Pth} {k : Nat} (l : k < P.segs.length) : atI (P.segs.map segd) (k : Int) = some (segd (P.sg k)) := by
  refine atI_nat ?_
  unfold Pth.sg
  rw [List.getElem?_map, List.getD_eq_getElem?_getD, List.getElem?_eq_getElem l]
  rfl
/-- a time held within n -/
structure HB (n : Nat) (h : Rat) : Prop where
  h0 : 0 ≤ h.num
  h1 : h.num ≤ n * h.den
  h9 : h.den ≤ 9
def frac (h : Rat) : Rat := Rat.divInt (h.num % h.den) h.den
theorem frac_eq (h : Rat) : h - Rat.ofInt (h.num / h.den) = frac h := by
  rw [← rt_sub]
  show Rat.divInt (h.num * 1 - h.num / (h.den : Int) * h.den) (h.den * 1) = _
  rw [Int.mul_one, Int.mul_one, Int.mul_comm (h.num / (h.den : Int)), ← Int.emod_def]
  rfl
theorem HB.tm {n : Nat} {h : Rat} (hb : HB n h) : TmB (frac h) := by
  have d0 := den_pos' h
  have m0 := Int.emod_nonneg h.num (show (h.den : Int) ≠ 0 by omega)
  have m1 := Int.emod_lt_of_pos h.num d0
  have := hb.h9
  exact tm_of (by omega) (by omega) (by omega) (by omega)
theorem HB.lt {n : Nat} {h : Rat} (hb : HB n h) (hf : frac h ≠ 0) : h.num / h.den < n := by
  have d0 := den_pos' h
  refine Int.ediv_lt_of_lt_mul d0 ?_
  have h1 := hb.h1
  rcases Int.lt_or_eq_of_le h1 with l | e
  · exact l
  · refine absurd ?_ hf
    unfold frac
    rw [e, Int.mul_emod_left]
    exact Rat.zero_divInt _
theorem HB.idx {n : Nat} {h : Rat} (hb : HB n h) : 0 ≤ h.num / h.den := Int.ediv_nonneg hb.h0 (by omega)
def ptAt (P : Pth) (h : Rat) : Rat × Rat :=
  if frac h = 0 then P.kn (h.num / h.den).toNat else (cutd (P.kn (h.num / h.den).toNat) (P.sg (h.num / h.den).toNat) (P.kn ((h.num / h.den).toNat + 1)) (frac h)).2.1
theorem divInt_cross {x d : Int} (hd : 0 < d) : (Rat.divInt x d).num * d = x * (Rat.divInt x d).den := by
  have h := Rat.num_divInt_den (Rat.divInt x d)
  exact (Rat.divInt_eq_divInt_iff (by have := (Rat.divInt x d).den_nz; omega) (by omega)).mp h
def heldR (n : Nat) (cyc : Bool) (t : Rat) : Rat := if cyc = true then Rat.divInt (t.num % (n * t.den)) t.den else if t.num < 0 then 0 else if (n : Int) * t.den < t.num then Rat.ofInt n else t
theorem held_hb {n : Nat} {cyc : Bool} {t : Rat} (hn : cyc = true → 0 < n) (h9 : t.den ≤ 9) : HB n (heldR n cyc t) := by
  have d0 := den_pos' t
  unfold heldR
  split
  · rename_i hc
    have n0 : 0 < (n : Int) * t.den := Int.mul_pos (by have := hn hc; omega) d0
    have m0 := Int.emod_nonneg t.num (show (n : Int) * t.den ≠ 0 by omega)
    have m1 := Int.emod_lt_of_pos t.num n0
    generalize t.num % (n * t.den) = x at m0 m1
    have c := divInt_cross (x := x) d0
    have dl := den_le (n := x) d0
    generalize Rat.divInt x (t.den : Int) = h at c dl
    have e0 := den_pos' h
    refine ⟨?_, ?_, by omega⟩
    · rcases Int.lt_or_le h.num 0 with l | l
      · have k1 : h.num * (t.den : Int) < 0 := Int.mul_neg_of_neg_of_pos l d0
        have k2 : 0 ≤ x * (h.den : Int) := Int.mul_nonneg m0 (by omega)
        omega
      · exact l
    · refine Int.le_of_mul_le_mul_right (a := (t.den : Int)) ?_ d0
      rw [c, show (n : Int) * h.den * t.den = n * t.den * h.den by ac_rfl]
      exact Int.mul_le_mul_of_nonneg_right (by omega) (by omega)
  · split
    · exact ⟨by decide, by show (0 : Int) ≤ n * 1; omega, by decide⟩
    · split
      · exact ⟨by show (0 : Int) ≤ n; omega, by show (n : Int) ≤ n * 1; omega, by show 1 ≤ 9; decide⟩
      · exact ⟨by omega, by omega, h9⟩
theorem eqok_rt (p : Rat) : EqOk (rt p) := ⟨rfl, rfl⟩
theorem geq_rt {p q : Rat} {G : Gp} {Q : DK} (h : Q (.bl (decide (p = q))) G) : gEq false (rt p) (rt q) G Q := ⟨eqok_rt p, eqok_rt q, by
  show Q (.bl (if false = true then _ else deq (rt p) (rt q))) G
  rw [eq_rt]
  exact h⟩
theorem HB.inn {n : Nat} {h : Rat} (hb : HB n h) (hn : n ≤ 1000000) : RIn h := by
  obtain ⟨h0, h1, h9⟩ := hb
  have : (n : Int) * h.den ≤ 1000000 * 9 := Int.mul_le_mul (by omega) (by omega) (by omega) (by decide)
  exact ⟨by omega, by omega, by omega⟩
theorem eqn_path (P : Pth) : EqN 5 (pathd P) := eqn_tup fun d h => by
  simp only [List.mem_cons, List.not_mem_nil, or_false] at h
  rcases h with rfl | rfl | rfl
  · exact (eqn_tup (n := 2) fun d h => by
      obtain ⟨p, _, rfl⟩ := List.mem_map.mp h
      exact eqn_rp p).mono (by decide)
  · exact eqn_tup (n := 3) fun d h => by
      obtain ⟨p, _, rfl⟩ := List.mem_map.mp h
      exact eqn_seg p
  · exact ⟨rfl, rfl, Nat.zero_le 4⟩

inductive Jn where
  | line | curve (p q : Rat × Rat) | smooth (t : Rat)
def jnd : Jn → D
  | .line => .str "line"
  | .curve p q => .tup [.str "curve", rp p, rp q]
  | .smooth t => .tup [.str "smooth", rt t]
def JB : Jn → Prop
  | .line => True
  | .curve p q => PB p ∧ PB q
  | .smooth t => RB 300 1200 t
def smo : Jn → Bool
  | .smooth _ => true
  | _ => false
def hlf : Rat := Rat.divInt 1 2
theorem rt_hlf : rt hlf = .tup [.int 1, .int 2] := rfl
theorem rb_hlf : RB 2 1 hlf := ⟨by decide, 1, rfl, by decide, by decide⟩
def subP (p q : Rat × Rat) : Rat × Rat := (p.1 - q.1, p.2 - q.2)
def sclP (c : Rat) (p : Rat × Rat) : Rat × Rat := (c * p.1, c * p.2)
def halfP (p q : Rat × Rat) : Rat × Rat := sclP hlf (subP p q)
/-- a direction -/
def DB (p : Rat × Rat) : Prop := RB 120 12000 p.1 ∧ RB 120 12000 p.2
theorem db_sub {p q : Rat × Rat} (hp : PB p) (hq : PB q) : DB (subP p q) := ⟨(hp.1.sub hq.1).over 2 (by decide), (hp.2.sub hq.2).over 2 (by decide)⟩
theorem db_half {p q : Rat × Rat} (hp : PB p) (hq : PB q) : DB (halfP p q) := ⟨(rb_hlf.mul (hp.1.sub hq.1)).le (by decide), (rb_hlf.mul (hp.2.sub hq.2)).le (by decide)⟩
theorem line_0 : atI ("line" : Str).cps.toList 0 = some 108 := by decide +kernel
theorem line_z : ("line" : Str).length ≤ sizeLine := by decide +kernel
theorem eqok_str (x : Str) (h : PyData.strOk x = true := by decide +kernel) : EqOk (.str x) := (eqn_str x h).ok
theorem cs_1 : deq (.str ("curve" : Str)) (.str ("smooth" : Str)) = false := by decide +kernel
theorem cs_2 : deq (.str ("smooth" : Str)) (.str ("smooth" : Str)) = true := by decide +kernel
theorem cs_3 : deq (.str ⟨#[108]⟩) (.str ("smooth" : Str)) = false := by decide +kernel
theorem cs_4 : deq (.str ("curve" : Str)) (.str ("curve" : Str)) = true := by decide +kernel
theorem cs_5 : deq (.str ("smooth" : Str)) (.str ("curve" : Str)) = false := by decide +kernel
theorem cs_6 : deq (.str ⟨#[108]⟩) (.str ("curve" : Str)) = false := by decide +kernel
theorem js_at {js : List Jn} {k : Nat} {j : Jn} (h : js[k]? = some j) : atI (js.map jnd) (k : Int) = some (jnd j) := atI_nat (by rw [List.getElem?_map, h]; rfl)
theorem ps_at {ps : List (Rat × Rat)} {k : Nat} (h : k < ps.length) : atI (ps.map rp) (k : Int) = some (rp (ps.getD k (0, 0))) := atI_nat (by rw [List.getElem?_map, List.getD_eq_getElem?_getD, List.getElem?_eq_getElem h]; rfl)
theorem pb_at {ps : List (Rat × Rat)} (h : ∀ p ∈ ps, PB p) {k : Nat} (hk : k < ps.length) : PB (ps.getD k (0, 0)) := by
  rw [List.getD_eq_getElem?_getD, List.getElem?_eq_getElem hk]
  exact h _ (List.getElem_mem hk)
def idxd : Option Nat → D
  | none => .non
  | some k => .int k
/-- the direction at a point: i the join on the other side, a the point behind, b the one before -/
def dirP (ps : List (Rat × Rat)) (js : List Jn) (i : Option Nat) (b a : Nat) (ch : Rat × Rat) : Rat × Rat := match i with
  | none => ch
  | some k => if smo (js.getD k .line) = true then halfP (ps.getD a (0, 0)) (ps.getD b (0, 0)) else ch
theorem db_dir {ps : List (Rat × Rat)} {js : List Jn} {i : Option Nat} {b a : Nat} {ch : Rat × Rat} (hp : ∀ p ∈ ps, PB p) (hb : b < ps.length) (ha : a < ps.length) (hc : DB ch) : DB (dirP ps js i b a ch) := by
  unfold dirP
  split
  · exact hc
  · split
    · exact db_half (pb_at hp ha) (pb_at hp hb)
    · exact hc
theorem prev_mod {k n : Nat} (hk : k < n) : ((k : Int) - 1) % (n : Int) = (((k + n - 1) % n : Nat) : Int) := by
  rw [Int.natCast_emod, show ((k + n - 1 : Nat) : Int) = (k : Int) - 1 + n by omega, Int.add_emod_right]
theorem next_mod (k n : Nat) : ((k : Int) + 1) % (n : Int) = (((k + 1) % n : Nat) : Int) := by rw [Int.natCast_emod]; rfl
/-- the join before, the join behind -/
def befJ (n : Nat) (cyc : Bool) (k : Nat) : Option Nat := if cyc = true then some ((k + n - 1) % n) else if k = 0 then none else some (k - 1)
def aftJ (n : Nat) (cyc : Bool) (k : Nat) : Option Nat := if cyc = true then some ((k + 1) % n) else if k + 1 = n - 1 then none else some (k + 1)
def facJ (t : Rat) : Rat := 1 / (3 * t)
def leavP (ps : List (Rat × Rat)) (js : List Jn) (cyc : Bool) (k : Nat) : Rat × Rat :=
  dirP ps js (befJ ps.length cyc k) ((k + ps.length - 1) % ps.length) ((k + 1) % ps.length) (subP (ps.getD ((k + 1) % ps.length) (0, 0)) (ps.getD k (0, 0)))
def comP (ps : List (Rat × Rat)) (js : List Jn) (cyc : Bool) (k : Nat) : Rat × Rat :=
  dirP ps js (aftJ ps.length cyc k) k (((k + 1) % ps.length + 1) % ps.length) (subP (ps.getD ((k + 1) % ps.length) (0, 0)) (ps.getD k (0, 0)))
def smP (ps : List (Rat × Rat)) (js : List Jn) (cyc : Bool) (k : Nat) (t : Rat) : (Rat × Rat) × (Rat × Rat) :=
  let a := ps.getD k (0, 0)
  let b := ps.getD ((k + 1) % ps.length) (0, 0)
  let l := leavP ps js cyc k
  let c := comP ps js cyc k
  ((a.1 + facJ t * l.1, a.2 + facJ t * l.2), (b.1 - facJ t * c.1, b.2 - facJ t * c.2))
def JsOk (ps : List (Rat × Rat)) (js : List Jn) (cyc : Bool) : Prop := (∀ p ∈ ps, PB p) ∧ (∀ j ∈ js, JB j) ∧ 0 < ps.length ∧ ps.length ≤ 1000 ∧ js.length = if cyc = true then ps.length else ps.length - 1
/-- a tension that may stand -/
def TnOk (t : Rat) : Prop := ∃ m : Int, t = Rat.divInt m 300 ∧ 225 ≤ m ∧ m ≤ 1200
theorem TnOk.rb {t : Rat} (h : TnOk t) : RB 300 1200 t := by
  obtain ⟨m, e, h1, h2⟩ := h
  exact ⟨by decide, m, e, by omega, h2⟩
theorem TnOk.three {t : Rat} (h : TnOk t) : RB 300 3600 (3 * t) ∧ (3 * t).num ≠ 0 := by
  refine ⟨?_, ?_⟩
  · have z := rb_three.mul h.rb
    exact z
  · obtain ⟨m, rfl, h1, h2⟩ := h
    intro e
    have e0 : 3 * Rat.divInt m 300 = 0 := Rat.num_eq_zero.mp e
    rcases Rat.mul_eq_zero.mp e0 with h | h
    · exact absurd h (by decide +kernel)
    · have z := (Rat.divInt_eq_divInt_iff (by decide) (by decide)).mp (h.trans (Rat.zero_divInt 1).symm)
      omega
theorem TnOk.fac {t : Rat} (h : TnOk t) : ∃ m : Int, 225 ≤ m ∧ m ≤ 1200 ∧ RB m 100 (facJ t) := by
  obtain ⟨m, rfl, h1, h2⟩ := h
  refine ⟨m, h1, h2, by omega, 100, ?_, by decide, by decide⟩
  unfold facJ
  have e3 : (3 : Rat) * Rat.divInt m 300 = Rat.divInt m 100 := by
    rw [show (3 : Rat) = Rat.divInt 3 1 from by decide +kernel, Rat.divInt_mul_divInt]
    exact (Rat.divInt_eq_divInt_iff (by decide) (by decide)).mpr (by omega)
  rw [e3, Rat.div_def, Rat.one_mul, Rat.inv_divInt]
/-- what is added to a point -/
theorem stepok {f a l : Rat} {m : Int} (h1 : 225 ≤ m) (h2 : m ≤ 1200) (hf : RB m 100 f) (ha : RB 60 3000 a) (hl : RB 120 12000 l) : RIn (f * l) ∧ RIn (a + f * l) ∧ RIn (a - f * l) := by
  have s := hf.mul hl
  have a2 := ha.over (m * 2) (by omega)
  rw [show (60 : Int) * (m * 2) = m * 120 by omega] at a2
  exact ⟨s.inn (by omega) (by decide), (a2.add s).inn (by omega) (by omega), (a2.sub s).inn (by omega) (by omega)⟩
theorem fac_w {f : Rat} {m : Int} (h1 : 225 ≤ m) (h2 : m ≤ 1200) (hf : RB m 100 f) : RW f := hf.w (by omega) (by decide)
theorem one_in : RIn 1 := ⟨by decide, by decide, by decide⟩
theorem three_rt : rt 3 = .tup [.int 3, .int 1] := rfl
theorem one_rt : rt 1 = .tup [.int 1, .int 1] := rfl
def segP (ps : List (Rat × Rat)) (js : List Jn) (cyc : Bool) (k : Nat) : Seg := match js.getD k .line with
  | .line => none
  | .curve p q => some (p, q)
  | .smooth t => some (smP ps js cyc k t)
theorem js_get {js : List Jn} {k : Nat} (h : k < js.length) : js[k]? = some (js.getD k .line) := by
  rw [List.getD_eq_getElem?_getD, List.getElem?_eq_getElem h]
  rfl
/-- a tension below the least -/
def Low (t : Rat) : Prop := t.num * 4 < 3 * t.den
def prd : Option (Rat × Rat) → D
  | none => .non
  | some p => rp p
/-- the law's direction at a point -/
def dirL (ps : List (Rat × Rat)) (js : List Jn) (cyc : Bool) (at_ : Nat) : Option (Rat × Rat) :=
  if js.length ≤ at_ ∨ (cyc = false ∧ at_ = 0) then none
  else if smo (js.getD (if cyc = true then (at_ + ps.length - 1) % ps.length else at_ - 1) .line) = true ∧ smo (js.getD at_ .line) = true then some (halfP (ps.getD ((at_ + 1) % ps.length) (0, 0)) (ps.getD ((at_ + ps.length - 1) % ps.length) (0, 0)))
  else none
/-- the law's segment -/
def segL (ps : List (Rat × Rat)) (js : List Jn) (cyc : Bool) (k : Nat) (t : Rat) : (Rat × Rat) × (Rat × Rat) :=
  let a := ps.getD k (0, 0)
  let b := ps.getD ((k + 1) % ps.length) (0, 0)
  let ch := subP b a
  let l := (dirL ps js cyc k).getD ch
  let c := (dirL ps js cyc (if cyc = true then (k + 1) % ps.length else k + 1)).getD ch
  ((a.1 + facJ t * l.1, a.2 + facJ t * l.2), (b.1 - facJ t * c.1, b.2 - facJ t * c.2))
theorem getD_js {js : List Jn} {k : Nat} {j : Jn} (h : js[k]? = some j) : js.getD k .line = j := by rw [List.getD_eq_getElem?_getD, h]; rfl
/-- the law's directions are the text's -/
theorem leav_eq {ps : List (Rat × Rat)} {js : List Jn} {cyc : Bool} {k : Nat} {t : Rat} (ok : JsOk ps js cyc) (ek : js[k]? = some (.smooth t)) :
    (dirL ps js cyc k).getD (subP (ps.getD ((k + 1) % ps.length) (0, 0)) (ps.getD k (0, 0))) = leavP ps js cyc k := by
  obtain ⟨hp, hj, n0, n1, hl⟩ := ok
  have km : k < js.length := (List.getElem?_eq_some_iff.mp ek).1
  have sk : smo (js.getD k .line) = true := by rw [getD_js ek]; rfl
  unfold dirL leavP dirP befJ
  cases cyc with
  | true =>
    rw [if_neg (fun h => h.elim (fun h => by omega) (fun h => by cases h.1)), if_pos rfl, if_pos rfl, sk]
    dsimp only
    by_cases h : smo (js.getD ((k + ps.length - 1) % ps.length) .line) = true
    · rw [if_pos ⟨h, rfl⟩, if_pos h]; rfl
    · rw [if_neg (fun z => h z.1), if_neg h]; rfl
  | false =>
    simp only [Bool.false_eq_true, if_false]
    by_cases h0 : k = 0
    · rw [if_pos (.inr ⟨trivial, h0⟩), if_pos h0]; rfl
    · rw [if_neg (fun h => h.elim (fun h => by omega) (fun h => h0 h.2)), if_neg h0, sk]
      dsimp only
      by_cases h : smo (js.getD (k - 1) .line) = true
      · rw [if_pos ⟨h, rfl⟩, if_pos h]; rfl
      · rw [if_neg (fun z => h z.1), if_neg h]; rfl
theorem back_mod {k n : Nat} (hk : k < n) : ((k + 1) % n + n - 1) % n = k := by
  by_cases h : k + 1 = n
  · subst h
    rw [Nat.mod_self, show 0 + (k + 1) - 1 = k by omega]
    exact Nat.mod_eq_of_lt (by omega)
  · rw [Nat.mod_eq_of_lt (show k + 1 < n by omega), show k + 1 + n - 1 = k + n by omega, Nat.add_mod_right]
    exact Nat.mod_eq_of_lt hk
theorem com_eq {ps : List (Rat × Rat)} {js : List Jn} {cyc : Bool} {k : Nat} {t : Rat} (ok : JsOk ps js cyc) (ek : js[k]? = some (.smooth t)) :
    (dirL ps js cyc (if cyc = true then (k + 1) % ps.length else k + 1)).getD (subP (ps.getD ((k + 1) % ps.length) (0, 0)) (ps.getD k (0, 0))) = comP ps js cyc k := by
  obtain ⟨hp, hj, n0, n1, hl⟩ := ok
  have km : k < js.length := (List.getElem?_eq_some_iff.mp ek).1
  have sk : smo (js.getD k .line) = true := by rw [getD_js ek]; rfl
  unfold dirL comP dirP aftJ
  cases cyc with
  | true =>
    rw [if_pos rfl] at hl
    have e : (k + 1) % ps.length < ps.length := Nat.mod_lt _ n0
    rw [if_pos rfl, if_neg (fun h => h.elim (fun h => by omega) (fun h => by cases h.1)), if_pos rfl, if_pos rfl, back_mod (by omega), sk]
    dsimp only
    by_cases h : smo (js.getD ((k + 1) % ps.length) .line) = true
    · rw [if_pos ⟨rfl, h⟩, if_pos h]; rfl
    · rw [if_neg (fun z => h z.2), if_neg h]; rfl
  | false =>
    rw [if_neg (by decide)] at hl
    simp only [Bool.false_eq_true, if_false]
    by_cases h1 : k + 1 = ps.length - 1
    · rw [if_pos (.inl (by omega)), if_pos h1]; rfl
    · rw [if_neg (fun h => h.elim (fun h => by omega) (fun h => by omega)), if_neg h1, show k + 1 - 1 = k by omega, sk]
      dsimp only
      rw [Nat.mod_eq_of_lt (show k + 1 < ps.length by omega), show k + 1 + ps.length - 1 = k + ps.length by omega, Nat.add_mod_right, Nat.mod_eq_of_lt (show k < ps.length by omega)]
      by_cases h : smo (js.getD (k + 1) .line) = true
      · rw [if_pos ⟨rfl, h⟩, if_pos h]; rfl
      · rw [if_neg (fun z => h z.2), if_neg h]; rfl
theorem seg_eq {ps : List (Rat × Rat)} {js : List Jn} {cyc : Bool} {k : Nat} {t : Rat} (ok : JsOk ps js cyc) (ek : js[k]? = some (.smooth t)) : segL ps js cyc k t = smP ps js cyc k t := by
  unfold segL smP
  dsimp only
  rw [leav_eq ok ek, com_eq ok ek]
theorem fac_rt {t : Rat} (h : t.num ≠ 0) : Rat.divInt t.den (3 * t.num) = facJ t := by
  unfold facJ
  rw [Rat.div_def, Rat.one_mul]
  have e : (3 : Rat) * t = Rat.divInt (3 * t.num) t.den := by
    conv => lhs; rw [← Rat.num_divInt_den t, show (3 : Rat) = Rat.divInt 3 1 from by decide +kernel, Rat.divInt_mul_divInt]
    rw [Int.one_mul]
  rw [e, Rat.inv_divInt]
theorem rt_negq (f : Rat) : D.tup [.int (0 - f.num), .int f.den] = rt (-f) := by
  unfold rt
  rw [Rat.neg_num, Rat.neg_den, Int.zero_sub]
def JG : Jn → Prop
  | .smooth t => TnOk t
  | .curve p q => PB p ∧ PB q
  | .line => True
theorem TnOk.notLow {t : Rat} (h : TnOk t) : ¬ Low t := by
  obtain ⟨m, e, h1, h2⟩ := h
  have d0 := den_pos' t
  have c : t.num * 300 = m * (t.den : Int) := (Rat.divInt_eq_divInt_iff (show (t.den : Int) ≠ 0 by omega) (by decide)).mp (show Rat.divInt t.num t.den = Rat.divInt m 300 by rw [Rat.num_divInt_den]; exact e)
  have := Int.mul_le_mul_of_nonneg_right h1 (show (0 : Int) ≤ t.den by omega)
  unfold Low
  omega
theorem JG.jb {j : Jn} (h : JG j) : JB j := by
  cases j with
  | line => trivial
  | curve p q => exact h
  | smooth t => exact TnOk.rb h
theorem eqn_jn (j : Jn) : EqN 3 (jnd j) := by
  cases j with
  | line => exact (eqn_str _).mono (by decide)
  | curve p q =>
    exact eqn_tup fun d h => by
      simp only [List.mem_cons, List.not_mem_nil, or_false] at h
      rcases h with rfl | rfl | rfl
      · exact (eqn_str _).mono (by decide)
      · exact eqn_rp _
      · exact eqn_rp _
  | smooth t =>
    exact EqN.mono (eqn_tup (n := 1) fun d h => by
      simp only [List.mem_cons, List.not_mem_nil, or_false] at h
      rcases h with rfl | rfl
      · exact (eqn_str _).mono (by decide)
      · exact eqn_rt _) (by decide)
theorem eqn_handed (ps : List (Rat × Rat)) (js : List Jn) : EqN 5 (.tup [.lst (ps.map rp), .lst (js.map jnd)]) := eqn_tup fun d h => by
  simp only [List.mem_cons, List.not_mem_nil, or_false] at h
  rcases h with rfl | rfl
  · exact (eqn_lst (n := 2) fun d h => by
      obtain ⟨p, _, rfl⟩ := List.mem_map.mp h
      exact eqn_rp p).mono (by decide)
  · exact eqn_lst (n := 3) fun d h => by
      obtain ⟨p, _, rfl⟩ := List.mem_map.mp h
      exact eqn_jn p
def sp_ratio : DSp := fun ds G Q E => ∃ n d : Int, ds = [.int n, .int d] ∧ Bnd n ∧ Bnd d ∧ (d = 0 → E ⟨"DivisionByZero", none⟩ G) ∧
  (d ≠ 0 → RIn (Rat.divInt n d) → Q (rt (Rat.divInt n d)) G) ∧ (d ≠ 0 → ¬RIn (Rat.divInt n d) → E ⟨"TooGreat", none⟩ G)
def r_ratio_0t : DTS := dRaise "DivisionByZero"
def r_ratio_1t_1 : DTS := dSet 1 (dNeg (dVar 1))
def r_ratio_1t : DTS := dSeq (dSet 0 (dNeg (dVar 0))) (r_ratio_1t_1)
def r_ratio_5t : DTS := dRaise "TooGreat"
def r_ratio_6 : DTS := dRet (dTup (dCons (dVar 0) (dCons (dVar 1) (dNil))))
def r_ratio_5 : DTS := dSeq (dIfS (dOr (dTest (dOp gLt (dVar 0) (dNeg (dC (.int 1000000000000000000))))) (dOr (dTest (dOp gGt (dVar 0) (dC (.int 1000000000000000000)))) (dTest (dOp gGt (dVar 1) (dC (.int 1000000000000000000)))))) (r_ratio_5t) (dNext)) (r_ratio_6)
def r_ratio_4 : DTS := dSeq (dSet 1 (dOp gDiv (dVar 1) (dVar 2))) (r_ratio_5)
def r_ratio_3 : DTS := dSeq (dSet 0 (dOp gDiv (dVar 0) (dVar 2))) (r_ratio_4)
def r_ratio_2 : DTS := dSeq (dSet 2 (dCB gGcd (dCons (dVar 0) (dCons (dVar 1) (dNil))))) (r_ratio_3)
def r_ratio_1 : DTS := dSeq (dIfS (dTest (dOp gLt (dVar 1) (dC (.int 0)))) (r_ratio_1t) (dNext)) (r_ratio_2)
def r_ratio : DTS := dSeq (dIfS (dTest (dOp (gEq false) (dVar 1) (dC (.int 0)))) (r_ratio_0t) (dNext)) (r_ratio_1)
theorem ratio_2 {Q : DK} {E : DX} {G : Gp} {n d : Int} {x : Option D} (hd0 : 0 < d) (hd : Bnd d) (q1 : RIn (Rat.divInt n d) → Q (rt (Rat.divInt n d)) G) (q2 : ¬RIn (Rat.divInt n d) → E ⟨"TooGreat", none⟩ G) :
    r_ratio_2 (fEnds Q E) [some (.int n), some (.int d), x] G := by
  unfold r_ratio_2 r_ratio_3 r_ratio_4 r_ratio_5 r_ratio_5t r_ratio_6
  walk_at "dl"
  have en : (Rat.divInt n d).num = n / ((Nat.gcd n.natAbs d.natAbs : Nat) : Int) := by
    rw [Rat.num_divInt, Int.sign_eq_one_of_pos hd0, Int.one_mul, Int.gcd_comm]
    rfl
  have ed : ((Rat.divInt n d).den : Int) = d / ((Nat.gcd n.natAbs d.natAbs : Nat) : Int) := by
    rw [Rat.den_divInt, if_neg (by omega), Int.natCast_ediv, Int.natAbs_of_nonneg (by omega), Int.gcd_comm]
    rfl
  have g0 : 0 < Nat.gcd n.natAbs d.natAbs := Nat.gcd_pos_of_pos_right _ (by omega)
  have g1 : Nat.gcd n.natAbs d.natAbs ≤ d.natAbs := Nat.gcd_le_right _ (by omega)
  have hg : CDivW n ((Nat.gcd n.natAbs d.natAbs : Nat) : Int) := cdiv_b (by omega) ⟨by omega, by obtain ⟨_, h2⟩ := hd; omega⟩
  refine ⟨hg, cdiv_x hg, ?_⟩
  rw [← en, ← ed]
  unfold rt at q1
  generalize Rat.divInt n d = z at q1 q2
  have fin : ¬RIn z → dnX E ⟨"TooGreat", none⟩ G := fun h => ⟨G, fun _ _ h => h, q2 h⟩
  unfold RIn at fin q1
  split
  · exact fin (by omega)
  · split
    · exact fin (by omega)
    · split
      · exact fin (by omega)
      · exact dn_id (q1 ⟨by omega, by omega, by omega⟩)
theorem p_ratio (ds : List D) (G : Gp) (Q : DK) (E : DX) (h : sp_ratio ds G Q E) : ds.length = 2 ∧ r_ratio (fEnds Q E) (dstart 3 ds) G := by
  obtain ⟨n, d, rfl, hn, hd, q0, q1, q2⟩ := h
  refine ⟨rfl, ?_⟩
  unfold r_ratio r_ratio_0t r_ratio_1 r_ratio_1t r_ratio_1t_1
  walk_at "dl"
  split
  · rename_i h0
    exact ⟨G, fun _ _ h => h, q0 h0⟩
  · rename_i h0
    split
    · rename_i h1
      obtain ⟨b1, b2⟩ := hd
      rw [← Rat.neg_divInt_neg] at q1 q2
      exact ratio_2 (by omega) ⟨by omega, by omega⟩ (q1 h0) (q2 h0)
    · exact ratio_2 (by omega) hd (q1 h0) (q2 h0)
def sp_add : DSp := fun ds G Q E => ∃ p q : Rat, ds = [rt p, rt q] ∧ RW p ∧ RW q ∧ (RIn (p + q) → Q (rt (p + q)) G) ∧ (¬RIn (p + q) → E ⟨"TooGreat", none⟩ G)
def r_add : DTS := dRet (dCall sp_ratio (dCons (dOp gAdd (dOp gMulA (dOp gIx (dVar 0) (dC (.int 0))) (dOp gIx (dVar 1) (dC (.int 1)))) (dOp gMulA (dOp gIx (dVar 1) (dC (.int 0))) (dOp gIx (dVar 0) (dC (.int 1))))) (dCons (dOp gMulA (dOp gIx (dVar 0) (dC (.int 1))) (dOp gIx (dVar 1) (dC (.int 1)))) (dNil))))
theorem p_add (ds : List D) (G : Gp) (Q : DK) (E : DX) (h : sp_add ds G Q E) : ds.length = 2 ∧ r_add (fEnds Q E) (dstart 2 ds) G := by
  obtain ⟨p, q, rfl, hp, hq, q1, q2⟩ := h
  refine ⟨rfl, ?_⟩
  unfold r_add rt
  walk_at "dl"
  obtain ⟨c1, b1⟩ := w_mul hp.1 hq.d
  obtain ⟨c2, b2⟩ := w_mul hq.1 hp.d
  obtain ⟨c3, b3⟩ := w_mul hp.d hq.d
  refine ⟨c1, c2, c3, _, _, rfl, ⟨by omega, by omega⟩, ⟨by omega, by omega⟩, fun h => absurd h (dmul_ne p q), ?_⟩
  rw [rt_add]
  exact ⟨fun _ h => dn_id (q1 h), fun _ h => ⟨G, fun _ _ h => h, q2 h⟩⟩
def sp_subtract : DSp := fun ds G Q E => ∃ p q : Rat, ds = [rt p, rt q] ∧ RW p ∧ RW q ∧ (RIn (p - q) → Q (rt (p - q)) G) ∧ (¬RIn (p - q) → E ⟨"TooGreat", none⟩ G)
def r_subtract : DTS := dRet (dCall sp_ratio (dCons (dOp gSub (dOp gMulA (dOp gIx (dVar 0) (dC (.int 0))) (dOp gIx (dVar 1) (dC (.int 1)))) (dOp gMulA (dOp gIx (dVar 1) (dC (.int 0))) (dOp gIx (dVar 0) (dC (.int 1))))) (dCons (dOp gMulA (dOp gIx (dVar 0) (dC (.int 1))) (dOp gIx (dVar 1) (dC (.int 1)))) (dNil))))
theorem p_subtract (ds : List D) (G : Gp) (Q : DK) (E : DX) (h : sp_subtract ds G Q E) : ds.length = 2 ∧ r_subtract (fEnds Q E) (dstart 2 ds) G := by
  obtain ⟨p, q, rfl, hp, hq, q1, q2⟩ := h
  refine ⟨rfl, ?_⟩
  unfold r_subtract rt
  walk_at "dl"
  obtain ⟨c1, b1⟩ := w_mul hp.1 hq.d
  obtain ⟨c2, b2⟩ := w_mul hq.1 hp.d
  obtain ⟨c3, b3⟩ := w_mul hp.d hq.d
  refine ⟨c1, c2, c3, _, _, rfl, ⟨by omega, by omega⟩, ⟨by omega, by omega⟩, fun h => absurd h (dmul_ne p q), ?_⟩
  rw [rt_sub]
  exact ⟨fun _ h => dn_id (q1 h), fun _ h => ⟨G, fun _ _ h => h, q2 h⟩⟩
def sp_multiply : DSp := fun ds G Q E => ∃ p q : Rat, ds = [rt p, rt q] ∧ RW p ∧ RW q ∧ (RIn (p * q) → Q (rt (p * q)) G) ∧ (¬RIn (p * q) → E ⟨"TooGreat", none⟩ G)
def r_multiply : DTS := dRet (dCall sp_ratio (dCons (dOp gMulA (dOp gIx (dVar 0) (dC (.int 0))) (dOp gIx (dVar 1) (dC (.int 0)))) (dCons (dOp gMulA (dOp gIx (dVar 0) (dC (.int 1))) (dOp gIx (dVar 1) (dC (.int 1)))) (dNil))))
theorem p_multiply (ds : List D) (G : Gp) (Q : DK) (E : DX) (h : sp_multiply ds G Q E) : ds.length = 2 ∧ r_multiply (fEnds Q E) (dstart 2 ds) G := by
  obtain ⟨p, q, rfl, hp, hq, q1, q2⟩ := h
  refine ⟨rfl, ?_⟩
  unfold r_multiply rt
  walk_at "dl"
  obtain ⟨c1, b1⟩ := w_mul hp.1 hq.1
  obtain ⟨c3, b3⟩ := w_mul hp.d hq.d
  refine ⟨c1, c3, _, _, rfl, ⟨by omega, by omega⟩, ⟨by omega, by omega⟩, fun h => absurd h (dmul_ne p q), ?_⟩
  rw [rt_mul]
  exact ⟨fun _ h => dn_id (q1 h), fun _ h => ⟨G, fun _ _ h => h, q2 h⟩⟩
def sp_divide : DSp := fun ds G Q E => ∃ p q : Rat, ds = [rt p, rt q] ∧ RW p ∧ RW q ∧ (q.num = 0 → E ⟨"DivisionByZero", none⟩ G) ∧ (q.num ≠ 0 → RIn (p / q) → Q (rt (p / q)) G) ∧ (q.num ≠ 0 → ¬RIn (p / q) → E ⟨"TooGreat", none⟩ G)
def r_divide : DTS := dRet (dCall sp_ratio (dCons (dOp gMulA (dOp gIx (dVar 0) (dC (.int 0))) (dOp gIx (dVar 1) (dC (.int 1)))) (dCons (dOp gMulA (dOp gIx (dVar 0) (dC (.int 1))) (dOp gIx (dVar 1) (dC (.int 0)))) (dNil))))
theorem p_divide (ds : List D) (G : Gp) (Q : DK) (E : DX) (h : sp_divide ds G Q E) : ds.length = 2 ∧ r_divide (fEnds Q E) (dstart 2 ds) G := by
  obtain ⟨p, q, rfl, hp, hq, q0, q1, q2⟩ := h
  refine ⟨rfl, ?_⟩
  unfold r_divide rt
  walk_at "dl"
  obtain ⟨c1, b1⟩ := w_mul hp.1 hq.d
  obtain ⟨c3, b3⟩ := w_mul hp.d hq.1
  have dp := den_pos' p
  have hz : (p.den : Int) * q.num = 0 ↔ q.num = 0 := ⟨fun h => (Int.mul_eq_zero.mp h).resolve_left (by omega), fun h => by rw [h, Int.mul_zero]⟩
  refine ⟨c1, c3, _, _, rfl, ⟨by omega, by omega⟩, ⟨by omega, by omega⟩, fun h => ⟨G, fun _ _ h => h, q0 (hz.mp h)⟩, ?_⟩
  rw [rt_div]
  exact ⟨fun h1 h => dn_id (q1 (fun z => h1 (hz.mpr z)) h), fun h1 h => ⟨G, fun _ _ h => h, q2 (fun z => h1 (hz.mpr z)) h⟩⟩

def cmpR (p q : Rat) : Int := if p.num * q.den < q.num * p.den then -1 else if q.num * p.den < p.num * q.den then 1 else 0
def sp_compare : DSp := fun ds G Q _ => ∃ p q : Rat, ds = [rt p, rt q] ∧ RW p ∧ RW q ∧ Q (.int (cmpR p q)) G
def r_compare_2t : DTS := dRet (dNeg (dC (.int 1)))
def r_compare_3t : DTS := dRet (dC (.int 1))
def r_compare_4 : DTS := dRet (dC (.int 0))
def r_compare_3 : DTS := dSeq (dIfS (dTest (dOp gGt (dVar 2) (dVar 3))) (r_compare_3t) (dNext)) (r_compare_4)
def r_compare_2 : DTS := dSeq (dIfS (dTest (dOp gLt (dVar 2) (dVar 3))) (r_compare_2t) (dNext)) (r_compare_3)
def r_compare_1 : DTS := dSeq (dSet 3 (dOp gMulA (dOp gIx (dVar 1) (dC (.int 0))) (dOp gIx (dVar 0) (dC (.int 1))))) (r_compare_2)
def r_compare : DTS := dSeq (dSet 2 (dOp gMulA (dOp gIx (dVar 0) (dC (.int 0))) (dOp gIx (dVar 1) (dC (.int 1))))) (r_compare_1)
theorem p_compare (ds : List D) (G : Gp) (Q : DK) (E : DX) (h : sp_compare ds G Q E) : ds.length = 2 ∧ r_compare (fEnds Q E) (dstart 4 ds) G := by
  obtain ⟨p, q, rfl, hp, hq, q1⟩ := h
  refine ⟨rfl, ?_⟩
  unfold r_compare r_compare_1 r_compare_2 r_compare_2t r_compare_3 r_compare_3t r_compare_4 rt
  walk_at "dl"
  refine ⟨(w_mul hp.1 hq.d).1, (w_mul hq.1 hp.d).1, ?_⟩
  unfold cmpR at q1
  split
  · rename_i h
    rw [if_pos h] at q1
    exact dn_id q1
  · rename_i h
    rw [if_neg h] at q1
    split
    · rename_i h
      rw [if_pos h] at q1
      exact dn_id q1
    · rename_i h
      rw [if_neg h] at q1
      exact dn_id q1
def sp_difference : DSp := fun ds G Q _ => ∃ p q, ds = [rp p, rp q] ∧ PB p ∧ PB q ∧ Q (rp (subP p q)) G
def r_difference : DTS := dRet (dTup (dCons (dCall sp_subtract (dCons (dOp gIx (dVar 0) (dC (.int 0))) (dCons (dOp gIx (dVar 1) (dC (.int 0))) (dNil)))) (dCons (dCall sp_subtract (dCons (dOp gIx (dVar 0) (dC (.int 1))) (dCons (dOp gIx (dVar 1) (dC (.int 1))) (dNil)))) (dNil))))
theorem p_difference (ds : List D) (G : Gp) (Q : DK) (E : DX) (h : sp_difference ds G Q E) : ds.length = 2 ∧ r_difference (fEnds Q E) (dstart 2 ds) G := by
  obtain ⟨p, q, rfl, hp, hq, q1⟩ := h
  refine ⟨rfl, ?_⟩
  unfold r_difference rp
  walk_at "dl"
  refine ⟨_, _, rfl, hp.1.w, hq.1.w, fun _ => ?_, fun h => absurd (hp.1.sub hq.1).inn h⟩
  refine ⟨_, _, rfl, hp.2.w, hq.2.w, fun _ => ?_, fun h => absurd (hp.2.sub hq.2).inn h⟩
  exact dn_id q1
def sp_scaled : DSp := fun ds G Q _ => ∃ p c, ds = [rp p, rt c] ∧ (RW p.1 ∧ RW p.2 ∧ RW c) ∧ RIn (c * p.1) ∧ RIn (c * p.2) ∧ Q (rp (sclP c p)) G
def r_scaled : DTS := dRet (dTup (dCons (dCall sp_multiply (dCons (dVar 1) (dCons (dOp gIx (dVar 0) (dC (.int 0))) (dNil)))) (dCons (dCall sp_multiply (dCons (dVar 1) (dCons (dOp gIx (dVar 0) (dC (.int 1))) (dNil)))) (dNil))))
theorem p_scaled (ds : List D) (G : Gp) (Q : DK) (E : DX) (h : sp_scaled ds G Q E) : ds.length = 2 ∧ r_scaled (fEnds Q E) (dstart 2 ds) G := by
  obtain ⟨p, c, rfl, ⟨h1, h2, h3⟩, i1, i2, q1⟩ := h
  refine ⟨rfl, ?_⟩
  unfold r_scaled rp
  walk_at "dl"
  refine ⟨c, p.1, rfl, h3, h1, fun _ => ?_, fun h => absurd i1 h⟩
  refine ⟨c, p.2, rfl, h3, h2, fun _ => ?_, fun h => absurd i2 h⟩
  exact dn_id q1
def sp_is_smooth : DSp := fun ds G Q _ => ∃ j, ds = [jnd j] ∧ Q (.bl (smo j)) G
def r_is_smooth : DTS := dRet (dOp (gEq false) (dOp gIx (dVar 0) (dC (.int 0))) (dC (.str "smooth")))
theorem p_is_smooth (ds : List D) (G : Gp) (Q : DK) (E : DX) (h : sp_is_smooth ds G Q E) : ds.length = 1 ∧ r_is_smooth (fEnds Q E) (dstart 1 ds) G := by
  obtain ⟨j, rfl, q⟩ := h
  refine ⟨rfl, ?_⟩
  unfold r_is_smooth
  cases j with
  | line =>
    rw [show jnd .line = .str "line" from rfl]
    walk_at "dl"
    rw [line_0]
    refine ⟨line_z, eqok_str _, eqok_str _, ?_⟩
    rw [cs_3]
    exact dn_id q
  | curve p q' =>
    rw [show jnd (.curve p q') = .tup [.str "curve", rp p, rp q'] from rfl]
    walk_at "dl"
    refine ⟨eqok_str _, eqok_str _, ?_⟩
    rw [cs_1]
    exact dn_id q
  | smooth t =>
    rw [show jnd (.smooth t) = .tup [.str "smooth", rt t] from rfl]
    walk_at "dl"
    refine ⟨eqok_str _, eqok_str _, ?_⟩
    rw [cs_2]
    exact dn_id q
def sp_direction : DSp := fun ds G Q _ => ∃ ps js i, ∃ b a : Nat, ∃ ch, ds = [.lst (ps.map rp), .lst (js.map jnd), idxd i, .tup [.int b, .int a], rp ch] ∧ (∀ p ∈ ps, PB p) ∧ (∀ k, i = some k → k < js.length) ∧ b < ps.length ∧ a < ps.length ∧ Q (rp (dirP ps js i b a ch)) G
def r_direction_0t : DTS := dRet (dVar 4)
def r_direction_2 : DTS := dRet (dCall sp_scaled (dCons (dCall sp_difference (dCons (dOp gIx (dVar 0) (dVar 6)) (dCons (dOp gIx (dVar 0) (dVar 5)) (dNil)))) (dCons (dTup (dCons (dC (.int 1)) (dCons (dC (.int 2)) (dNil)))) (dNil))))
def r_direction_1 : DTS := dSeq (dAsg (dVar 3) (dgTup 2 (dgCons (dgName 5) (dgCons (dgName 6) (dgNil))))) (r_direction_2)
def r_direction : DTS := dSeq (dIfS (dOr (dTest (dIsN false (dVar 2))) (dNot (dTru (dCall sp_is_smooth (dCons (dOp gIx (dVar 1) (dVar 2)) (dNil)))))) (r_direction_0t) (dNext)) (r_direction_1)
theorem p_direction (ds : List D) (G : Gp) (Q : DK) (E : DX) (h : sp_direction ds G Q E) : ds.length = 5 ∧ r_direction (fEnds Q E) (dstart 7 ds) G := by
  obtain ⟨ps, js, i, b, a, ch, rfl, hp, hi, hb, ha, q⟩ := h
  refine ⟨rfl, ?_⟩
  unfold r_direction r_direction_0t
  cases i with
  | none =>
    rw [show idxd none = .non from rfl]
    walk_at "dl"
    exact dn_id q
  | some k =>
    rw [show idxd (some k) = .int k from rfl]
    have hk := hi k rfl
    have ej : js[k]? = some (js.getD k .line) := by rw [List.getD_eq_getElem?_getD, List.getElem?_eq_getElem hk]; rfl
    unfold dirP at q
    dsimp only at q
    walk_at "dl"
    rw [js_at ej]
    refine ⟨_, rfl, ?_⟩
    cases es : smo (js.getD k .line) with
    | false =>
      rw [es, if_neg (by decide)] at q
      walk_at "dl"
      exact dn_id q
    | true =>
      rw [es, if_pos rfl] at q
      unfold r_direction_1 r_direction_2
      walk_at "dl"
      rw [ps_at ha, ps_at hb]
      have pa := pb_at hp ha
      have pb := pb_at hp hb
      refine ⟨_, _, rfl, pa, pb, ?_⟩
      have d := db_sub pa pb
      have e := db_half pa pb
      exact ⟨_, hlf, rfl, ⟨d.1.w, d.2.w, rb_hlf.w⟩, e.1.inn, e.2.inn, dn_id q⟩
def sp_smooth_segment : DSp := fun ds G Q _ => ∃ ps js, ∃ k : Nat, ∃ cyc t, ds = [.lst (ps.map rp), .lst (js.map jnd), .int k, .bl cyc] ∧ JsOk ps js cyc ∧ js[k]? = some (.smooth t) ∧ TnOk t ∧ Q (segd (some (smP ps js cyc k t))) G
def r_smooth_segment_8t_1 : DTS := dSet 11 (dOp gMod (dVar 11) (dCB (g1 gLen) (dCons (dVar 1) (dNil))))
def r_smooth_segment_8t : DTS := dSeq (dSet 10 (dOp gMod (dVar 10) (dCB (g1 gLen) (dCons (dVar 1) (dNil))))) (r_smooth_segment_8t_1)
def r_smooth_segment_8e_0t : DTS := dSet 10 (dC .non)
def r_smooth_segment_8e : DTS := dIfS (dTest (dOp gLt (dVar 10) (dC (.int 0)))) (r_smooth_segment_8e_0t) (dNext)
def r_smooth_segment_9t : DTS := dSet 11 (dC .non)
def r_smooth_segment_17 : DTS := dRet (dTup (dCons (dVar 16) (dCons (dVar 17) (dNil))))
def r_smooth_segment_16 : DTS := dSeq (dSet 17 (dTup (dCons (dCall sp_subtract (dCons (dOp gIx (dVar 8) (dC (.int 0))) (dCons (dOp gIx (dVar 15) (dC (.int 0))) (dNil)))) (dCons (dCall sp_subtract (dCons (dOp gIx (dVar 8) (dC (.int 1))) (dCons (dOp gIx (dVar 15) (dC (.int 1))) (dNil)))) (dNil))))) (r_smooth_segment_17)
def r_smooth_segment_15 : DTS := dSeq (dSet 15 (dCall sp_scaled (dCons (dVar 13) (dCons (dVar 14) (dNil))))) (r_smooth_segment_16)
def r_smooth_segment_14 : DTS := dSeq (dSet 16 (dTup (dCons (dCall sp_add (dCons (dOp gIx (dVar 7) (dC (.int 0))) (dCons (dOp gIx (dVar 15) (dC (.int 0))) (dNil)))) (dCons (dCall sp_add (dCons (dOp gIx (dVar 7) (dC (.int 1))) (dCons (dOp gIx (dVar 15) (dC (.int 1))) (dNil)))) (dNil))))) (r_smooth_segment_15)
def r_smooth_segment_13 : DTS := dSeq (dSet 15 (dCall sp_scaled (dCons (dVar 12) (dCons (dVar 14) (dNil))))) (r_smooth_segment_14)
def r_smooth_segment_12 : DTS := dSeq (dSet 14 (dCall sp_divide (dCons (dTup (dCons (dC (.int 1)) (dCons (dC (.int 1)) (dNil)))) (dCons (dCall sp_multiply (dCons (dTup (dCons (dC (.int 3)) (dCons (dC (.int 1)) (dNil)))) (dCons (dOp gIx (dOp gIx (dVar 1) (dVar 2)) (dC (.int 1))) (dNil)))) (dNil))))) (r_smooth_segment_13)
def r_smooth_segment_11 : DTS := dSeq (dSet 13 (dCallK sp_direction 3 2 (dCons (dVar 0) (dCons (dVar 1) (dCons (dVar 11) (dNil)))) (dCons (dTup (dCons (dVar 5) (dCons (dOp gMod (dOp gAdd (dVar 6) (dC (.int 1))) (dVar 4)) (dNil)))) (dCons (dVar 9) (dNil))))) (r_smooth_segment_12)
def r_smooth_segment_10 : DTS := dSeq (dSet 12 (dCallK sp_direction 3 2 (dCons (dVar 0) (dCons (dVar 1) (dCons (dVar 10) (dNil)))) (dCons (dTup (dCons (dOp gMod (dOp gSub (dVar 5) (dC (.int 1))) (dVar 4)) (dCons (dVar 6) (dNil)))) (dCons (dVar 9) (dNil))))) (r_smooth_segment_11)
def r_smooth_segment_9 : DTS := dSeq (dIfS (dTest (dOp (gEq false) (dVar 11) (dCB (g1 gLen) (dCons (dVar 1) (dNil))))) (r_smooth_segment_9t) (dNext)) (r_smooth_segment_10)
def r_smooth_segment_8 : DTS := dSeq (dIfS (dTru (dVar 3)) (r_smooth_segment_8t) (r_smooth_segment_8e)) (r_smooth_segment_9)
def r_smooth_segment_7 : DTS := dSeq (dSet 11 (dOp gAdd (dVar 2) (dC (.int 1)))) (r_smooth_segment_8)
def r_smooth_segment_6 : DTS := dSeq (dSet 10 (dOp gSub (dVar 2) (dC (.int 1)))) (r_smooth_segment_7)
def r_smooth_segment_5 : DTS := dSeq (dSet 9 (dCall sp_difference (dCons (dVar 8) (dCons (dVar 7) (dNil))))) (r_smooth_segment_6)
def r_smooth_segment_4 : DTS := dSeq (dSet 8 (dOp gIx (dVar 0) (dVar 6))) (r_smooth_segment_5)
def r_smooth_segment_3 : DTS := dSeq (dSet 7 (dOp gIx (dVar 0) (dVar 5))) (r_smooth_segment_4)
def r_smooth_segment_2 : DTS := dSeq (dSet 6 (dOp gMod (dOp gAdd (dVar 2) (dC (.int 1))) (dVar 4))) (r_smooth_segment_3)
def r_smooth_segment_1 : DTS := dSeq (dSet 5 (dVar 2)) (r_smooth_segment_2)
def r_smooth_segment : DTS := dSeq (dSet 4 (dCB (g1 gLen) (dCons (dVar 0) (dNil)))) (r_smooth_segment_1)
theorem smooth_12 {Q : DK} {E : DX} {G : Gp} {js : List Jn} {k : Nat} {t : Rat} {a b L C : Rat × Rat} {x0 x3 x4 x5 x6 x9 x10 x11 x14 x15 x16 x17 : Option D} (ek : js[k]? = some (.smooth t)) (ht : TnOk t) (pk : PB a) (pe : PB b) (dl : DB L) (dc : DB C)
    (q : Q (segd (some ((a.1 + facJ t * L.1, a.2 + facJ t * L.2), (b.1 - facJ t * C.1, b.2 - facJ t * C.2)))) G) :
    r_smooth_segment_12 (fEnds Q E) [x0, some (.lst (js.map jnd)), some (.int k), x3, x4, x5, x6, some (rp a), some (rp b), x9, x10, x11, some (rp L), some (rp C), x14, x15, x16, x17] G := by
  obtain ⟨m, m1, m2, fb⟩ := ht.fac
  have fw := fac_w m1 m2 fb
  obtain ⟨t3, t3n⟩ := ht.three
  have a1 := stepok m1 m2 fb pk.1 dl.1
  have a2 := stepok m1 m2 fb pk.2 dl.2
  have b1 := stepok m1 m2 fb pe.1 dc.1
  have b2 := stepok m1 m2 fb pe.2 dc.2
  unfold r_smooth_segment_12 r_smooth_segment_13 r_smooth_segment_14 r_smooth_segment_15 r_smooth_segment_16 r_smooth_segment_17
  walk_at "dl"
  rw [js_at ek, show jnd (.smooth t) = .tup [.str "smooth", rt t] from rfl]
  walk_at "dl"
  refine ⟨3, t, rfl, rb_three.w, ht.rb.w, fun _ => ?_, fun h => absurd t3.inn h⟩
  refine ⟨1, 3 * t, rfl, one_in.w, t3.w, fun h => absurd h t3n, fun _ _ => ?_, fun _ h => absurd (fb.inn (by omega) (by decide)) h⟩
  rw [show (1 : Rat) / (3 * t) = facJ t from rfl]
  generalize facJ t = f at fb fw a1 a2 b1 b2 q
  refine ⟨L, f, rfl, ⟨dl.1.w, dl.2.w, fw⟩, a1.1, a2.1, ?_⟩
  unfold rp sclP
  walk_at "dl"
  refine ⟨_, _, rfl, pk.1.w, a1.1.w, fun _ => ?_, fun h => absurd a1.2.1 h⟩
  refine ⟨_, _, rfl, pk.2.w, a2.1.w, fun _ => ?_, fun h => absurd a2.2.1 h⟩
  refine ⟨C, f, rfl, ⟨dc.1.w, dc.2.w, fw⟩, b1.1, b2.1, ?_⟩
  walk_at "dl"
  refine ⟨_, _, rfl, pe.1.w, b1.1.w, fun _ => ?_, fun h => absurd b1.2.2 h⟩
  refine ⟨_, _, rfl, pe.2.w, b2.1.w, fun _ => ?_, fun h => absurd b2.2.2 h⟩
  exact dn_id q
theorem p_smooth_segment (ds : List D) (G : Gp) (Q : DK) (E : DX) (h : sp_smooth_segment ds G Q E) : ds.length = 4 ∧ r_smooth_segment (fEnds Q E) (dstart 18 ds) G := by
  obtain ⟨ps, js, k, cyc, t, rfl, ⟨hp, hj, n0, n1, hl⟩, ek, ht, q⟩ := h
  refine ⟨rfl, ?_⟩
  have km : k < js.length := by
    rcases Nat.lt_or_ge k js.length with h | h
    · exact h
    · rw [List.getElem?_eq_none h] at ek
      cases ek
  have kn : k < ps.length := by split at hl <;> omega
  have endl : (k + 1) % ps.length < ps.length := Nat.mod_lt _ n0
  have pk := pb_at hp kn
  have pe := pb_at hp endl
  unfold r_smooth_segment r_smooth_segment_1 r_smooth_segment_2 r_smooth_segment_3 r_smooth_segment_4 r_smooth_segment_5 r_smooth_segment_6 r_smooth_segment_7
  walk_at "dl"
  rw [List.length_map]
  refine ⟨by omega, ?_⟩
  rw [next_mod, ps_at kn, ps_at endl]
  walk_at "dl"
  refine ⟨_, _, rfl, pe, pk, ?_⟩
  have go : ∀ (x10 x11 : D) (i j : Option Nat), x10 = idxd i → x11 = idxd j → i = befJ ps.length cyc k → j = aftJ ps.length cyc k →
      r_smooth_segment_10 (fEnds Q E) [some (.lst (ps.map rp)), some (.lst (js.map jnd)), some (.int k), some (.bl cyc), some (.int ps.length), some (.int k), some (.int ((k + 1) % ps.length : Nat)), some (rp (ps.getD k (0, 0))), some (rp (ps.getD ((k + 1) % ps.length) (0, 0))), some (rp (subP (ps.getD ((k + 1) % ps.length) (0, 0)) (ps.getD k (0, 0)))), some x10, some x11, none, none, none, none, none, none] G := by
    rintro x10 x11 i j rfl rfl hi hj'
    have bi : ∀ r, i = some r → r < js.length := by
      rintro r rfl
      unfold befJ at hi
      split at hi
      · rename_i hc
        rw [if_pos hc] at hl
        cases hi
        rw [hl]
        exact Nat.mod_lt _ n0
      · split at hi
        · cases hi
        · cases hi
          omega
    have bj : ∀ r, j = some r → r < js.length := by
      rintro r rfl
      unfold aftJ at hj'
      split at hj'
      · rename_i hc
        rw [if_pos hc] at hl
        cases hj'
        rw [hl]
        exact Nat.mod_lt _ n0
      · rename_i hc
        rw [if_neg hc] at hl
        split at hj'
        · cases hj'
        · cases hj'
          omega
    have prl : (k + ps.length - 1) % ps.length < ps.length := Nat.mod_lt _ n0
    have ndl : ((k + 1) % ps.length + 1) % ps.length < ps.length := Nat.mod_lt _ n0
    have dch := db_sub pe pk
    have dl : DB (leavP ps js cyc k) := db_dir hp prl endl dch
    have dc : DB (comP ps js cyc k) := db_dir hp kn ndl dch
    unfold r_smooth_segment_10 r_smooth_segment_11
    walk_at "dl"
    refine ⟨by omega, ?_⟩
    rw [prev_mod kn]
    refine ⟨ps, js, i, _, _, _, rfl, hp, bi, prl, endl, ?_⟩
    walk_at "dl"
    refine ⟨by omega, ?_⟩
    rw [next_mod]
    refine ⟨ps, js, j, _, _, _, rfl, hp, bj, kn, ndl, ?_⟩
    rw [hi, hj']
    rw [show dirP ps js (befJ ps.length cyc k) ((k + ps.length - 1) % ps.length) ((k + 1) % ps.length) (subP (ps.getD ((k + 1) % ps.length) (0, 0)) (ps.getD k (0, 0))) = leavP ps js cyc k from rfl,
      show dirP ps js (aftJ ps.length cyc k) k (((k + 1) % ps.length + 1) % ps.length) (subP (ps.getD ((k + 1) % ps.length) (0, 0)) (ps.getD k (0, 0))) = comP ps js cyc k from rfl]
    walk_at "dl"
    exact smooth_12 ek ht pk pe dl dc q
  unfold r_smooth_segment_8 r_smooth_segment_8t r_smooth_segment_8t_1 r_smooth_segment_8e r_smooth_segment_8e_0t r_smooth_segment_9 r_smooth_segment_9t
  walk_at "dl"
  rw [List.length_map]
  cases cyc with
  | true =>
    rw [if_pos rfl] at hl
    walk_at "dl"
    refine ⟨by omega, by omega, ?_⟩
    rw [hl, prev_mod kn, next_mod]
    rw [if_neg (by omega)]
    exact go _ _ (some ((k + ps.length - 1) % ps.length)) (some ((k + 1) % ps.length)) rfl rfl (by unfold befJ; rw [if_pos rfl]) (by unfold aftJ; rw [if_pos rfl])
  | false =>
    rw [if_neg (by decide)] at hl
    try walk_at "dl"
    by_cases h0 : k = 0
    · rw [if_pos (by omega)]
      try walk_at "dl"
      by_cases h1 : k + 1 = ps.length - 1
      · rw [if_pos (by omega)]
        exact go _ _ none none rfl rfl (by unfold befJ; rw [if_neg (by decide), if_pos h0]) (by unfold aftJ; rw [if_neg (by decide), if_pos h1])
      · rw [if_neg (by omega)]
        exact go _ _ none (some (k + 1)) rfl rfl (by unfold befJ; rw [if_neg (by decide), if_pos h0]) (by unfold aftJ; rw [if_neg (by decide), if_neg h1])
    · rw [if_neg (by omega)]
      have ek1 : D.int ((k : Int) - 1) = idxd (some (k - 1)) := by
        show _ = D.int ((k - 1 : Nat) : Int)
        congr 1
        omega
      by_cases h1 : k + 1 = ps.length - 1
      · rw [if_pos (by omega)]
        exact go _ _ (some (k - 1)) none ek1 rfl (by unfold befJ; rw [if_neg (by decide), if_neg h0]) (by unfold aftJ; rw [if_neg (by decide), if_pos h1])
      · rw [if_neg (by omega)]
        exact go _ _ (some (k - 1)) (some (k + 1)) ek1 rfl (by unfold befJ; rw [if_neg (by decide), if_neg h0]) (by unfold aftJ; rw [if_neg (by decide), if_neg h1])
def sp_join_segment : DSp := fun ds G Q _ => ∃ ps js, ∃ k : Nat, ∃ cyc, ds = [.lst (ps.map rp), .lst (js.map jnd), .int k, .bl cyc] ∧ JsOk ps js cyc ∧ k < js.length ∧ (∀ t, Jn.smooth t ∈ js → TnOk t) ∧ Q (segd (segP ps js cyc k)) G
def r_join_segment_0t : DTS := dRet (dTup (dCons (dOp gIx (dOp gIx (dVar 1) (dVar 2)) (dC (.int 1))) (dCons (dOp gIx (dOp gIx (dVar 1) (dVar 2)) (dC (.int 2))) (dNil))))
def r_join_segment_1t : DTS := dRet (dCallK sp_smooth_segment 3 1 (dCons (dVar 0) (dCons (dVar 1) (dCons (dVar 2) (dNil)))) (dCons (dVar 3) (dNil)))
def r_join_segment_2 : DTS := dRet (dC .non)
def r_join_segment_1 : DTS := dSeq (dIfS (dTru (dCall sp_is_smooth (dCons (dOp gIx (dVar 1) (dVar 2)) (dNil)))) (r_join_segment_1t) (dNext)) (r_join_segment_2)
def r_join_segment : DTS := dSeq (dIfS (dTest (dOp (gEq false) (dOp gIx (dOp gIx (dVar 1) (dVar 2)) (dC (.int 0))) (dC (.str "curve")))) (r_join_segment_0t) (dNext)) (r_join_segment_1)
theorem p_join_segment (ds : List D) (G : Gp) (Q : DK) (E : DX) (h : sp_join_segment ds G Q E) : ds.length = 4 ∧ r_join_segment (fEnds Q E) (dstart 4 ds) G := by
  obtain ⟨ps, js, k, cyc, rfl, ok, hk, ht, q⟩ := h
  refine ⟨rfl, ?_⟩
  have ek := js_get hk
  unfold r_join_segment r_join_segment_0t
  walk_at "dl"
  rw [js_at ek]
  unfold segP at q
  generalize js.getD k .line = j at ek q
  have at1 : ∀ {j : Jn}, js[k]? = some j → j ∈ js := fun h => List.mem_of_getElem? h
  cases j with
  | line =>
    rw [show jnd .line = .str "line" from rfl]
    walk_at "dl"
    rw [line_0]
    refine ⟨line_z, eqok_str _, eqok_str _, ?_⟩
    rw [cs_6]
    unfold r_join_segment_1 r_join_segment_1t r_join_segment_2
    walk_at "dl"
    rw [js_at ek]
    refine ⟨.line, rfl, ?_⟩
    rw [show smo .line = false from rfl]
    walk_at "dl"
    exact dn_id q
  | curve p q' =>
    rw [show jnd (.curve p q') = .tup [.str "curve", rp p, rp q'] from rfl]
    walk_at "dl"
    refine ⟨eqok_str _, eqok_str _, ?_⟩
    rw [cs_4]
    walk_at "dl"
    exact dn_id q
  | smooth t =>
    rw [show jnd (.smooth t) = .tup [.str "smooth", rt t] from rfl]
    walk_at "dl"
    refine ⟨eqok_str _, eqok_str _, ?_⟩
    rw [cs_5]
    unfold r_join_segment_1 r_join_segment_1t r_join_segment_2
    walk_at "dl"
    rw [js_at ek]
    refine ⟨.smooth t, rfl, ?_⟩
    rw [show smo (.smooth t) = true from rfl]
    walk_at "dl"
    exact ⟨ps, js, k, cyc, t, rfl, ok, ek, ht t (at1 ek), dn_id q⟩
def sp_join_points : DSp := fun ds G Q E => ∃ ps js cyc, ds = [.lst (ps.map rp), .lst (js.map jnd), .bl cyc] ∧ JsOk ps js cyc ∧ (24 < ps.length → E ⟨"TooMany", none⟩ G) ∧ (ps.length ≤ 24 → (∃ t, Jn.smooth t ∈ js ∧ Low t) → E ⟨"OutOfRange", none⟩ G) ∧
  (ps.length ≤ 24 → (∀ t, Jn.smooth t ∈ js → ¬ Low t) → Q (pathd ⟨ps, (List.range js.length).map (segP ps js cyc), cyc⟩) G)
def r_join_points_0t : DTS := dRaise "TooMany"
def r_join_points_1b_0t : DTS := dRaise "OutOfRange"
def r_join_points_1b : DTS := dIfS (dAnd (dTru (dCall sp_is_smooth (dCons (dVar 3) (dNil)))) (dTest (dOp gLt (dCall sp_compare (dCons (dOp gIx (dVar 3) (dC (.int 1))) (dCons (dC (.tup [.int 3, .int 4])) (dNil)))) (dC (.int 0))))) (r_join_points_1b_0t) (dNext)
def r_join_points_3 : DTS := dRet (dTup (dCons (dCB (g1 gTupOf) (dCons (dVar 0) (dNil))) (dCons (dCB (g1 gTupOf) (dCons (dVar 4) (dNil))) (dCons (dVar 2) (dNil)))))
def r_join_points_2 : DTS := dSeq (dSet 4 (dLc (dRng1 (dCons (dCB (g1 gLen) (dCons (dVar 1) (dNil))) (dNil))) (dgName 5) (dYes) (dCallK sp_join_segment 3 1 (dCons (dVar 0) (dCons (dVar 1) (dCons (dVar 5) (dNil)))) (dCons (dVar 2) (dNil))) [5])) (r_join_points_3)
def r_join_points_1 : DTS := dSeq (dFor (dItSeq (dVar 1)) (dgName 3) (r_join_points_1b)) (r_join_points_2)
def r_join_points : DTS := dSeq (dIfS (dTest (dOp gGt (dCB (g1 gLen) (dCons (dVar 0) (dNil))) (dC (.int 24)))) (r_join_points_0t) (dNext)) (r_join_points_1)
theorem low_cmp (t : Rat) : cmpR t (Rat.divInt 3 4) < 0 ↔ Low t := by
  unfold cmpR Low
  rw [show (Rat.divInt 3 4).num = 3 by decide +kernel, show (Rat.divInt 3 4).den = 4 by decide +kernel]
  split
  · omega
  · split <;> omega
theorem p_join_points (ds : List D) (G : Gp) (Q : DK) (E : DX) (h : sp_join_points ds G Q E) : ds.length = 3 ∧ r_join_points (fEnds Q E) (dstart 6 ds) G := by
  obtain ⟨ps, js, cyc, rfl, ok, q0, q1, q2⟩ := h
  refine ⟨rfl, ?_⟩
  obtain ⟨hp, hj, n0, n1, hl⟩ := id ok
  have jl : js.length ≤ 1000 := by split at hl <;> omega
  unfold r_join_points r_join_points_0t
  walk_at "dl"
  rw [List.length_map]
  by_cases h24 : 24 < ps.length
  · rw [if_pos (by omega)]
    exact ⟨G, fun _ _ h => h, q0 h24⟩
  rw [if_neg (by omega)]
  unfold r_join_points_1
  walk_at "dl"
  refine for_lst (fun i s' G' => G' = G ∧ ∃ x, s' = [some (.lst (ps.map rp)), some (.lst (js.map jnd)), some (.bl cyc), x, none, none] ∧ ∀ k t, k < i → js[k]? = some (.smooth t) → ¬ Low t) ⟨rfl, _, rfl, fun k t h => by omega⟩ ?_ ?_
  · rintro i x s' G' hx ⟨rfl, x0, rfl, inv⟩
    obtain ⟨j, ej, rfl⟩ := map_get hx
    have jm := List.mem_of_getElem? ej
    unfold r_join_points_1b r_join_points_1b_0t
    walk_at "dl"
    refine ⟨j, rfl, ?_⟩
    have next : (∀ t, j = .smooth t → ¬ Low t) → ∀ k t, k < i + 1 → js[k]? = some (.smooth t) → ¬ Low t := fun h k t hk e => by
      by_cases z : k = i
      · subst z
        rw [ej] at e
        exact h t (Option.some.inj e)
      · exact inv k t (by omega) e
    cases j with
    | line =>
      rw [show smo .line = false from rfl]
      walk_at "dl"
      exact ⟨_, rfl, next fun t h => nomatch h⟩
    | curve p q' =>
      rw [show smo (.curve p q') = false from rfl]
      walk_at "dl"
      exact ⟨_, rfl, next fun t h => nomatch h⟩
    | smooth t =>
      rw [show smo (.smooth t) = true from rfl, show jnd (.smooth t) = .tup [.str "smooth", rt t] from rfl]
      walk_at "dl"
      have tb : RB 300 1200 t := hj _ jm
      refine ⟨t, Rat.divInt 3 4, rfl, tb.w, ⟨by decide +kernel, by decide +kernel⟩, ?_⟩
      walk_at "dl"
      by_cases hlow : Low t
      · rw [if_pos ((low_cmp t).mpr hlow)]
        exact ⟨G', fun _ _ h => h, q1 (by omega) ⟨t, jm, hlow⟩⟩
      · rw [if_neg (fun h => hlow ((low_cmp t).mp h))]
        exact ⟨_, rfl, next fun t' h => by cases h; exact hlow⟩
  · rintro s' G' ⟨rfl, x, rfl, inv⟩
    rw [List.length_map] at inv
    have good : ∀ t, Jn.smooth t ∈ js → ¬ Low t := fun t h => by
      obtain ⟨k, hk, e⟩ := List.mem_iff_getElem.mp h
      exact inv k t hk (by rw [List.getElem?_eq_getElem hk, e])
    have tn : ∀ t, Jn.smooth t ∈ js → TnOk t := fun t h => by
      obtain ⟨_, m, e, m1, m2⟩ := (show RB 300 1200 t from hj _ h)
      refine ⟨m, e, ?_, m2⟩
      have g := good t h
      unfold Low at g
      have c : t.num * 300 = m * (t.den : Int) := (Rat.divInt_eq_divInt_iff (show (t.den : Int) ≠ 0 by have := t.den_nz; omega) (by decide)).mp (show Rat.divInt t.num t.den = Rat.divInt m 300 by rw [Rat.num_divInt_den]; exact e)
      have d0 := den_pos' t
      rcases Int.lt_or_le m 225 with h2 | h2
      · have : m * (t.den : Int) ≤ 224 * t.den := Int.mul_le_mul_of_nonneg_right (by omega) (by omega)
        omega
      · exact h2
    unfold r_join_points_2
    walk_at "dl"
    rw [List.length_map]
    refine ⟨⟨by omega, by omega⟩, ?_⟩
    intro p hp'
    refine lc_rng (fun i acc => acc = (List.range i).map fun k => segd (segP ps js cyc k)) rfl ?_ ?_
    · rintro i acc hi hl' rfl
      walk_at "dl"
      refine ⟨ps, js, i, cyc, by rw [Int.zero_add], ok, by omega, tn, lc_push hl' (by omega) ?_⟩
      rw [List.range_succ, List.map_append]
      rfl
    · rintro acc hl' rfl
      rw [gdel_gupd hp']
      unfold r_join_points_3
      walk_at "dl"
      have z := q2 (by omega) good
      unfold pathd at z
      dsimp only at z
      rw [List.map_map] at z
      exact dn_id z

def sp__law_cell : DSp := fun ds G Q _ => ∃ (ns : List Int) (k : Int), ds = [.scr ns, .int k] ∧ 0 ≤ k ∧ ∀ n : Int, Q (.int n) G
def r__law_cell_0t : DTS := dRet (dOp gIx (dVar 0) (dVar 1))
def r__law_cell_1 : DTS := dRet (dC (.int 0))
def r__law_cell : DTS := dSeq (dIfS (dTest (dOp gLt (dVar 1) (dCB (g1 gLen) (dCons (dVar 0) (dNil))))) (r__law_cell_0t) (dNext)) (r__law_cell_1)
theorem p__law_cell (ds : List D) (G : Gp) (Q : DK) (E : DX) (h : sp__law_cell ds G Q E) : ds.length = 2 ∧ r__law_cell (fEnds Q E) (dstart 2 ds) G := by
  obtain ⟨ns, k, rfl, h0, q⟩ := h
  refine ⟨rfl, ?_⟩
  unfold r__law_cell r__law_cell_0t r__law_cell_1
  walk_at "dl"
  split
  · rename_i h
    obtain ⟨x, e, _⟩ := atI_in h0 h
    rw [e]
    exact dn_id (q x)
  · exact dn_id (q 0)
def sp__law_stream : DSp := fun ds G Q _ => ∃ i : Int, ds = [.int i] ∧ Q .strm G
def r__law_stream_0t : DTS := dRet (dStrm (dCons (dVar 0) (dCons (dC (.int 0)) (dCons (dOp gMod (dCB (g1 gInt) (dCons (dVar 0) (dNil))) (dC (.int 1000003))) (dNil)))))
def r__law_stream_1 : DTS := dRet (dStrm (dCons (dC (.int 0)) (dCons (dC (.int 0)) (dCons (dOp gMod (dCB (g1 gInt) (dCons (dVar 0) (dNil))) (dC (.int 1000000007))) (dNil)))))
def r__law_stream : DTS := dSeq (dIfS (dTest (dOp gGe (dVar 0) (dOp gPow (dC (.int 10)) (dC (.int 18))))) (r__law_stream_0t) (dNext)) (r__law_stream_1)
theorem p__law_stream (ds : List D) (G : Gp) (Q : DK) (E : DX) (h : sp__law_stream ds G Q E) : ds.length = 1 ∧ r__law_stream (fEnds Q E) (dstart 1 ds) G := by
  obtain ⟨i, rfl, q⟩ := h
  refine ⟨rfl, ?_⟩
  unfold r__law_stream r__law_stream_0t r__law_stream_1
  walk_at "dl"
  refine ⟨cpow_10 (by decide) (by decide), ?_⟩
  split
  · exact dn_id q
  · exact dn_id q
def sp__law_next : DSp := fun ds G Q _ => ∃ m : Int, ds = [.strm, .int m] ∧ CDivW 0 m ∧ ∀ r : Int, 0 ≤ r → r < m → Q (.int r) G
def r__law_next_0t_2 : DTS := dRet (dVar 2)
def r__law_next_0t_1 : DTS := dSeq (dAsg (dOp gDiv (dOp gIx (dVar 0) (dC (.int 0))) (dVar 1)) (dgSub (dVar 0) (dC (.int 0)))) (r__law_next_0t_2)
def r__law_next_0t : DTS := dSeq (dSet 2 (dOp gMod (dCB (g1 gInt) (dCons (dOp gIx (dVar 0) (dC (.int 0))) (dNil))) (dVar 1))) (r__law_next_0t_1)
def r__law_next_5 : DTS := dRet (dOp gMod (dCB (g1 gInt) (dCons (dVar 3) (dNil))) (dVar 1))
def r__law_next_4 : DTS := dSeq (dSet 3 (dOp gMod (dCB (g1 gInt) (dCons (dOp gAdd (dOp gMulA (dVar 3) (dC (.int 16807))) (dOp gIx (dVar 0) (dC (.int 2)))) (dNil))) (dC (.int 2147483647)))) (r__law_next_5)
def r__law_next_3 : DTS := dSeq (dSet 3 (dOp gMod (dCB (g1 gInt) (dCons (dOp gAdd (dOp gMulA (dVar 3) (dVar 3)) (dOp gMulA (dOp gIx (dVar 0) (dC (.int 1))) (dC (.int 40692)))) (dNil))) (dC (.int 2147483399)))) (r__law_next_4)
def r__law_next_2 : DTS := dSeq (dSet 3 (dOp gMod (dCB (g1 gInt) (dCons (dOp gAdd (dOp gMulA (dOp gIx (dVar 0) (dC (.int 2))) (dC (.int 48271))) (dOp gMulA (dOp gIx (dVar 0) (dC (.int 1))) (dC (.int 69621)))) (dNil))) (dC (.int 2147483647)))) (r__law_next_3)
def r__law_next_1 : DTS := dSeq (dAsg (dOp gAdd (dOp gIx (dVar 0) (dC (.int 1))) (dC (.int 1))) (dgSub (dVar 0) (dC (.int 1)))) (r__law_next_2)
def r__law_next : DTS := dSeq (dIfS (dTest (dOp gGt (dOp gIx (dVar 0) (dC (.int 0))) (dC (.int 0)))) (r__law_next_0t) (dNext)) (r__law_next_1)
theorem p__law_next (ds : List D) (G : Gp) (Q : DK) (E : DX) (h : sp__law_next ds G Q E) : ds.length = 2 ∧ r__law_next (fEnds Q E) (dstart 4 ds) G := by
  obtain ⟨m, rfl, hm, q⟩ := h
  refine ⟨rfl, ?_⟩
  have h0 : 0 < m := hm.1
  have fin : ∀ x : Int, Q (.int (x % m)) G := fun x => q _ (Int.emod_nonneg _ (by omega)) (Int.emod_lt_of_pos _ h0)
  unfold r__law_next r__law_next_0t r__law_next_0t_1 r__law_next_0t_2 r__law_next_1 r__law_next_2 r__law_next_3 r__law_next_4 r__law_next_5
  walk_at "dl"
  intro n
  split
  · intro n
    refine ⟨h0, fun _ => ⟨cdiv_x hm, dn_id (fin n)⟩⟩
  · intro _ c
    refine ⟨cmul_r (by decide), fun d => ⟨cmul_r (by decide), ?_, fun e => ⟨cmul_r (by decide), cmul_r (by decide), fun f => ⟨h0, dn_id (fin _)⟩⟩⟩⟩
    have z0 := Int.emod_nonneg (c * 48271 + d * 69621) (show (2147483647 : Int) ≠ 0 by decide)
    have z1 := Int.emod_lt_of_pos (c * 48271 + d * 69621) (show (0 : Int) < 2147483647 by decide)
    exact cmul_l ⟨by omega, by omega⟩
def sp__law_is_integer : DSp := fun ds G Q _ => ∃ i : Int, ds = [.int i] ∧ Q (.bl true) G
def r__law_is_integer : DTS := dRet (dAndV (dCB (g2 gIsi) (dCons (dVar 0) (dCons (dC (.ty "int")) (dNil)))) (dNotV (dCB (g2 gIsi) (dCons (dVar 0) (dCons (dC (.ty "bool")) (dNil))))))
theorem p__law_is_integer (ds : List D) (G : Gp) (Q : DK) (E : DX) (h : sp__law_is_integer ds G Q E) : ds.length = 1 ∧ r__law_is_integer (fEnds Q E) (dstart 1 ds) G := by
  obtain ⟨i, rfl, q⟩ := h
  refine ⟨rfl, ?_⟩
  unfold r__law_is_integer
  walk_at "dl"
  exact dn_id q

/-- for the ratio drawn by the law itself -/
def sp__law_ratio : DSp := fun ds G Q _ => ∃ n d : Int, ds = [.int n, .int d] ∧ d ≠ 0 ∧ Bnd n ∧ Bnd d ∧ Q (rt (Rat.divInt n d)) G
def r__law_ratio_2b_0t : DTS := dBreak
def r__law_ratio_2b_1 : DTS := dPar 2 3 (dCons (dVar 3) (dCons (dOp gMod (dCB (g1 gInt) (dCons (dVar 2) (dNil))) (dVar 3)) (dNil)))
def r__law_ratio_2b : DTS := dSeq (dIfS (dTest (dOp (gEq false) (dVar 3) (dC (.int 0)))) (r__law_ratio_2b_0t) (dNext)) (r__law_ratio_2b_1)
def r__law_ratio_3t : DTS := dSet 0 (dOp gSub (dC (.int 0)) (dVar 0))
def r__law_ratio_4 : DTS := dRet (dTup (dCons (dOp gDiv (dVar 0) (dVar 2)) (dCons (dOp gDiv (dCB (g1 gAbs) (dCons (dVar 1) (dNil))) (dVar 2)) (dNil))))
def r__law_ratio_3 : DTS := dSeq (dIfS (dTest (dOp gLt (dVar 1) (dC (.int 0)))) (r__law_ratio_3t) (dNext)) (r__law_ratio_4)
def r__law_ratio_2 : DTS := dSeq (dFor (dRng1 (dCons (dC (.int 1000)) (dNil))) (dgName 4) (r__law_ratio_2b)) (r__law_ratio_3)
def r__law_ratio_1 : DTS := dSeq (dSet 3 (dCB (g1 gAbs) (dCons (dVar 1) (dNil)))) (r__law_ratio_2)
def r__law_ratio : DTS := dSeq (dSet 2 (dCB (g1 gAbs) (dCons (dVar 0) (dNil)))) (r__law_ratio_1)
theorem lawratio_4 {Q : DK} {E : DX} {G : Gp} {n d : Int} {x3 x4 : Option D} (h0 : 0 < d) (hd : Bnd d) (D' : Int) (hD : D' = d ∨ D' = -d) (q : Q (rt (Rat.divInt n d)) G) :
    r__law_ratio_4 (fEnds Q E) [some (.int n), some (.int D'), some (.int (Nat.gcd n.natAbs d.natAbs : Nat)), x3, x4] G := by
  unfold r__law_ratio_4
  walk_at "dl"
  have en : (Rat.divInt n d).num = n / ((Nat.gcd n.natAbs d.natAbs : Nat) : Int) := by
    rw [Rat.num_divInt, Int.sign_eq_one_of_pos h0, Int.one_mul, Int.gcd_comm]
    rfl
  have ed : ((Rat.divInt n d).den : Int) = d / ((Nat.gcd n.natAbs d.natAbs : Nat) : Int) := by
    rw [Rat.den_divInt, if_neg (by omega), Int.natCast_ediv, Int.natAbs_of_nonneg (by omega), Int.gcd_comm]
    rfl
  have g0 : 0 < Nat.gcd n.natAbs d.natAbs := Nat.gcd_pos_of_pos_right _ (by omega)
  have g1 : Nat.gcd n.natAbs d.natAbs ≤ d.natAbs := Nat.gcd_le_right _ (by omega)
  have hg : CDivW n ((Nat.gcd n.natAbs d.natAbs : Nat) : Int) := cdiv_b (by omega) ⟨by omega, by obtain ⟨_, h2⟩ := hd; omega⟩
  refine ⟨hg, cdiv_x hg, ?_⟩
  have ea : (if D' < 0 then -D' else D') = d := by
    split <;> omega
  rw [ea, ← en, ← ed]
  exact dn_id q
theorem lawratio_3 {Q : DK} {E : DX} {G : Gp} {n d : Int} {x3 x4 : Option D} (hd0 : d ≠ 0) (hd : Bnd d) (q : Q (rt (Rat.divInt n d)) G) :
    r__law_ratio_3 (fEnds Q E) [some (.int n), some (.int d), some (.int (Nat.gcd n.natAbs d.natAbs : Nat)), x3, x4] G := by
  unfold r__law_ratio_3 r__law_ratio_3t
  walk_at "dl"
  obtain ⟨b1, b2⟩ := hd
  split
  · have z := lawratio_4 (Q := Q) (E := E) (G := G) (n := -n) (d := -d) (x3 := x3) (x4 := x4) (by omega) ⟨by omega, by omega⟩ d (.inr (by omega)) (by rw [Rat.neg_divInt_neg]; exact q)
    rw [Int.natAbs_neg, Int.natAbs_neg] at z
    rw [Int.zero_sub]
    exact z
  · exact lawratio_4 (by omega) ⟨b1, b2⟩ d (.inl rfl) q
theorem euclid_half {a b : Nat} (h : b < a) (hb : b ≠ 0) : 2 * (b * (a % b)) ≤ a * b := by
  have e := Nat.div_add_mod a b
  have m := Nat.mod_lt a (show 0 < b by omega)
  have d1 : 1 ≤ a / b := (Nat.one_le_div_iff (by omega)).mpr (by omega)
  have d2 : b * 1 ≤ b * (a / b) := Nat.mul_le_mul_left _ d1
  have k : 2 * (a % b) ≤ a := by omega
  calc 2 * (b * (a % b)) = b * (2 * (a % b)) := by ac_rfl
    _ ≤ b * a := Nat.mul_le_mul_left _ k
    _ = a * b := Nat.mul_comm ..
theorem p__law_ratio (ds : List D) (G : Gp) (Q : DK) (E : DX) (h : sp__law_ratio ds G Q E) : ds.length = 2 ∧ r__law_ratio (fEnds Q E) (dstart 5 ds) G := by
  obtain ⟨n, d, rfl, hd0, hn, hd, q⟩ := h
  refine ⟨rfl, ?_⟩
  unfold r__law_ratio r__law_ratio_1 r__law_ratio_2
  walk_at "dl"
  have en : (if n < 0 then -n else n) = (n.natAbs : Int) := by split <;> omega
  have ed : (if d < 0 then -d else d) = (d.natAbs : Int) := by split <;> omega
  rw [en, ed]
  refine for_rng (fun i s' G' => G' = G ∧ ∃ (a b : Nat) (k : Option D), s' = [some (.int n), some (.int d), some (.int a), some (.int b), k] ∧ Nat.gcd a b = Nat.gcd n.natAbs d.natAbs ∧
      ((i = 0 ∧ a = n.natAbs ∧ b = d.natAbs) ∨ (1 ≤ i ∧ b < a ∧ a * b * 2 ^ (i - 1) ≤ n.natAbs * d.natAbs))) ⟨rfl, _, _, none, rfl, rfl, .inl ⟨rfl, rfl, rfl⟩⟩ ?_ ?_
  · rintro i s' G' hi ⟨rfl, a, b, k, rfl, hg, hi'⟩
    unfold r__law_ratio_2b r__law_ratio_2b_0t r__law_ratio_2b_1
    walk_at "dl"
    by_cases hb : b = 0
    · subst hb
      rw [if_pos (by rfl)]
      rw [Nat.gcd_zero_right] at hg
      subst hg
      exact lawratio_3 hd0 hd q
    · rw [if_neg (by omega)]
      refine ⟨by omega, b, a % b, some (.int (0 + (i : Int))), ?_, ?_, .inr ⟨by omega, Nat.mod_lt _ (by omega), ?_⟩⟩
      · rw [Int.natCast_emod]
      · rw [← hg, Nat.gcd_comm a b, Nat.gcd_rec b a, Nat.gcd_comm]
      · rcases hi' with ⟨rfl, rfl, rfl⟩ | ⟨h1, h2, h3⟩
        · rw [Nat.add_sub_cancel, Nat.pow_zero, Nat.mul_one, Nat.mul_comm]
          exact Nat.mul_le_mul_right _ (Nat.mod_le ..)
        · have e := euclid_half h2 hb
          obtain ⟨j, rfl⟩ : ∃ j, i = j + 1 := ⟨i - 1, by omega⟩
          rw [Nat.add_sub_cancel] at h3 ⊢
          refine Nat.le_trans ?_ h3
          rw [Nat.pow_succ, show b * (a % b) * (2 ^ j * 2) = 2 * (b * (a % b)) * 2 ^ j by ac_rfl]
          exact Nat.mul_le_mul_right _ e
  · rintro s' G' ⟨rfl, a, b, k, rfl, hg, hi'⟩
    have hb : b = 0 := by
      rcases hi' with ⟨h, _⟩ | ⟨_, h2, h3⟩
      · cases h
      · rcases Nat.eq_zero_or_pos b with h | h
        · exact h
        · exfalso
          obtain ⟨n1, n2⟩ := hn
          obtain ⟨d1, d2⟩ := hd
          have k1 : 1 ≤ a * b := Nat.mul_pos (by omega) h
          have k2 : n.natAbs * d.natAbs ≤ 1000000000000000000000000000000000000000000000000000000000000 * 1000000000000000000000000000000000000000000000000000000000000 := Nat.mul_le_mul (by omega) (by omega)
          have k3 : 1 * 2 ^ 999 ≤ a * b * 2 ^ 999 := Nat.mul_le_mul_right _ k1
          have k4 : 1 * 2 ^ 999 ≤ 1000000000000000000000000000000000000000000000000000000000000 * 1000000000000000000000000000000000000000000000000000000000000 := Nat.le_trans k3 (Nat.le_trans h3 k2)
          have k5 : 2 ^ 200 * 2 ^ 200 ≤ 2 ^ 999 := by
            rw [← Nat.pow_add]
            exact Nat.pow_le_pow_right (by decide) (by decide)
          rw [Nat.one_mul] at k4
          exact absurd (Nat.le_trans k5 k4) (by decide)
    subst hb
    rw [Nat.gcd_zero_right] at hg
    subst hg
    exact lawratio_3 hd0 hd q
def sp__law_is_number : DSp := fun ds G Q _ => ∃ p : Rat, ds = [rt p] ∧ Q (.bl true) G
def r__law_is_number_0t : DTS := dRet (dC (.bl false))
def r__law_is_number_1 : DTS := dRet (dAndV (dCall sp__law_is_integer (dCons (dOp gIx (dVar 0) (dC (.int 0))) (dNil))) (dCall sp__law_is_integer (dCons (dOp gIx (dVar 0) (dC (.int 1))) (dNil))))
def r__law_is_number : DTS := dSeq (dIfS (dOr (dNot (dTru (dCB (g2 gIsi) (dCons (dVar 0) (dCons (dC (.ty "tuple")) (dNil)))))) (dTest (dOp (gEq true) (dCB (g1 gLen) (dCons (dVar 0) (dNil))) (dC (.int 2))))) (r__law_is_number_0t) (dNext)) (r__law_is_number_1)
theorem p__law_is_number (ds : List D) (G : Gp) (Q : DK) (E : DX) (h : sp__law_is_number ds G Q E) : ds.length = 1 ∧ r__law_is_number (fEnds Q E) (dstart 1 ds) G := by
  obtain ⟨p, rfl, q⟩ := h
  refine ⟨rfl, ?_⟩
  unfold r__law_is_number r__law_is_number_0t r__law_is_number_1 rt
  walk_at "dl"
  exact ⟨_, rfl, _, rfl, dn_id q⟩
def sp__law_sum : DSp := fun ds G Q _ => ∃ p q : Rat, ds = [rt p, rt q] ∧ RW p ∧ RW q ∧ Q (rt (p + q)) G
def r__law_sum : DTS := dRet (dCall sp__law_ratio (dCons (dOp gAdd (dOp gMulA (dOp gIx (dVar 0) (dC (.int 0))) (dOp gIx (dVar 1) (dC (.int 1)))) (dOp gMulA (dOp gIx (dVar 1) (dC (.int 0))) (dOp gIx (dVar 0) (dC (.int 1))))) (dCons (dOp gMulA (dOp gIx (dVar 0) (dC (.int 1))) (dOp gIx (dVar 1) (dC (.int 1)))) (dNil))))
theorem p__law_sum (ds : List D) (G : Gp) (Q : DK) (E : DX) (h : sp__law_sum ds G Q E) : ds.length = 2 ∧ r__law_sum (fEnds Q E) (dstart 2 ds) G := by
  obtain ⟨p, q, rfl, hp, hq, q1⟩ := h
  refine ⟨rfl, ?_⟩
  unfold r__law_sum rt
  walk_at "dl"
  obtain ⟨c1, b1⟩ := w_mul hp.1 hq.d
  obtain ⟨c2, b2⟩ := w_mul hq.1 hp.d
  obtain ⟨c3, b3⟩ := w_mul hp.d hq.d
  refine ⟨c1, c2, c3, _, _, rfl, dmul_ne p q, ⟨by omega, by omega⟩, ⟨by omega, by omega⟩, ?_⟩
  rw [rt_add]
  exact dn_id q1
def sp__law_difference : DSp := fun ds G Q _ => ∃ p q : Rat, ds = [rt p, rt q] ∧ RW p ∧ RW q ∧ Q (rt (p - q)) G
def r__law_difference : DTS := dRet (dCall sp__law_ratio (dCons (dOp gSub (dOp gMulA (dOp gIx (dVar 0) (dC (.int 0))) (dOp gIx (dVar 1) (dC (.int 1)))) (dOp gMulA (dOp gIx (dVar 1) (dC (.int 0))) (dOp gIx (dVar 0) (dC (.int 1))))) (dCons (dOp gMulA (dOp gIx (dVar 0) (dC (.int 1))) (dOp gIx (dVar 1) (dC (.int 1)))) (dNil))))
theorem p__law_difference (ds : List D) (G : Gp) (Q : DK) (E : DX) (h : sp__law_difference ds G Q E) : ds.length = 2 ∧ r__law_difference (fEnds Q E) (dstart 2 ds) G := by
  obtain ⟨p, q, rfl, hp, hq, q1⟩ := h
  refine ⟨rfl, ?_⟩
  unfold r__law_difference rt
  walk_at "dl"
  obtain ⟨c1, b1⟩ := w_mul hp.1 hq.d
  obtain ⟨c2, b2⟩ := w_mul hq.1 hp.d
  obtain ⟨c3, b3⟩ := w_mul hp.d hq.d
  refine ⟨c1, c2, c3, _, _, rfl, dmul_ne p q, ⟨by omega, by omega⟩, ⟨by omega, by omega⟩, ?_⟩
  rw [rt_sub]
  exact dn_id q1
def sp__law_product : DSp := fun ds G Q _ => ∃ p q : Rat, ds = [rt p, rt q] ∧ RW p ∧ RW q ∧ Q (rt (p * q)) G
def r__law_product : DTS := dRet (dCall sp__law_ratio (dCons (dOp gMulA (dOp gIx (dVar 0) (dC (.int 0))) (dOp gIx (dVar 1) (dC (.int 0)))) (dCons (dOp gMulA (dOp gIx (dVar 0) (dC (.int 1))) (dOp gIx (dVar 1) (dC (.int 1)))) (dNil))))
theorem p__law_product (ds : List D) (G : Gp) (Q : DK) (E : DX) (h : sp__law_product ds G Q E) : ds.length = 2 ∧ r__law_product (fEnds Q E) (dstart 2 ds) G := by
  obtain ⟨p, q, rfl, hp, hq, q1⟩ := h
  refine ⟨rfl, ?_⟩
  unfold r__law_product rt
  walk_at "dl"
  obtain ⟨c1, b1⟩ := w_mul hp.1 hq.1
  obtain ⟨c3, b3⟩ := w_mul hp.d hq.d
  refine ⟨c1, c3, _, _, rfl, dmul_ne p q, ⟨by omega, by omega⟩, ⟨by omega, by omega⟩, ?_⟩
  rw [rt_mul]
  exact dn_id q1
def sp__law_applied : DSp := fun ds G Q _ => ∃ t p, ds = [trd t, rp p] ∧ RowOk t.tx t.xx t.xy p.1 p.2 ∧ RowOk t.ty t.yx t.yy p.1 p.2 ∧ RW (t.xx * p.1 + t.xy * p.2) ∧ RW (t.yx * p.1 + t.yy * p.2) ∧ Q (rp (applyR t p)) G
def r__law_applied_3 : DTS := dRet (dTup (dCons (dVar 10) (dCons (dCall sp__law_sum (dCons (dVar 3) (dCons (dCall sp__law_sum (dCons (dCall sp__law_product (dCons (dVar 6) (dCons (dVar 8) (dNil)))) (dCons (dCall sp__law_product (dCons (dVar 7) (dCons (dVar 9) (dNil)))) (dNil)))) (dNil)))) (dNil))))
def r__law_applied_2 : DTS := dSeq (dSet 10 (dCall sp__law_sum (dCons (dVar 2) (dCons (dCall sp__law_sum (dCons (dCall sp__law_product (dCons (dVar 4) (dCons (dVar 8) (dNil)))) (dCons (dCall sp__law_product (dCons (dVar 5) (dCons (dVar 9) (dNil)))) (dNil)))) (dNil))))) (r__law_applied_3)
def r__law_applied_1 : DTS := dSeq (dAsg (dVar 1) (dgTup 2 (dgCons (dgName 8) (dgCons (dgName 9) (dgNil))))) (r__law_applied_2)
def r__law_applied : DTS := dSeq (dAsg (dVar 0) (dgTup 6 (dgCons (dgName 2) (dgCons (dgName 3) (dgCons (dgName 4) (dgCons (dgName 5) (dgCons (dgName 6) (dgCons (dgName 7) (dgNil))))))))) (r__law_applied_1)
theorem p__law_applied (ds : List D) (G : Gp) (Q : DK) (E : DX) (h : sp__law_applied ds G Q E) : ds.length = 2 ∧ r__law_applied (fEnds Q E) (dstart 11 ds) G := by
  obtain ⟨t, p, rfl, ⟨⟨w1, w2, w3, w4, w5⟩, a1, a2, a3, a4⟩, ⟨⟨v1, v2, v3, _, _⟩, b1, b2, b3, b4⟩, c1, c2, q⟩ := h
  refine ⟨rfl, ?_⟩
  unfold r__law_applied r__law_applied_1 r__law_applied_2 r__law_applied_3 trd rp
  walk_at "dl"
  refine ⟨t.xx, p.1, rfl, w2, w4, t.xy, p.2, rfl, w3, w5, _, _, rfl, a1.w, a3.w, t.tx, _, rfl, w1, c1, ?_⟩
  refine ⟨t.yx, p.1, rfl, v2, w4, t.yy, p.2, rfl, v3, w5, _, _, rfl, b1.w, b3.w, t.ty, _, rfl, v1, c2, ?_⟩
  rw [← Rat.add_assoc, ← Rat.add_assoc]
  exact dn_id q
def sp__law_small : DSp := fun ds G Q _ => ds = [.strm] ∧ ∀ q : Rat, RB 60 3000 q → Q (rt q) G
def r__law_small_0t : DTS := dRet (dTup (dCons (dOp gSub (dCall sp__law_next (dCons (dVar 0) (dCons (dC (.int 41)) (dNil)))) (dC (.int 20))) (dCons (dC (.int 1)) (dNil))))
def r__law_small_1 : DTS := dRet (dCall sp__law_ratio (dCons (dOp gSub (dCall sp__law_next (dCons (dVar 0) (dCons (dC (.int 101)) (dNil)))) (dC (.int 50))) (dCons (dOp gAdd (dCall sp__law_next (dCons (dVar 0) (dCons (dC (.int 6)) (dNil)))) (dC (.int 1))) (dNil))))
def r__law_small : DTS := dSeq (dIfS (dTest (dOp (gEq false) (dCall sp__law_next (dCons (dVar 0) (dCons (dC (.int 3)) (dNil)))) (dC (.int 0)))) (r__law_small_0t) (dNext)) (r__law_small_1)
theorem p__law_small (ds : List D) (G : Gp) (Q : DK) (E : DX) (h : sp__law_small ds G Q E) : ds.length = 1 ∧ r__law_small (fEnds Q E) (dstart 1 ds) G := by
  obtain ⟨rfl, q⟩ := h
  refine ⟨rfl, ?_⟩
  unfold r__law_small r__law_small_0t r__law_small_1
  walk_at "dl"
  refine ⟨_, rfl, cdiv_s (by decide) (by decide), fun k _ _ => ?_⟩
  walk_at "dl"
  split
  · refine ⟨_, rfl, cdiv_s (by decide) (by decide), fun n n0 n1 => ?_⟩
    exact dn_id (q (Rat.ofInt (n - 20)) (rb_lit (n - 20) (Rat.num_divInt_den (Rat.ofInt (n - 20))).symm (by omega) (by omega)))
  · refine ⟨_, rfl, cdiv_s (by decide) (by decide), fun n n0 n1 => ⟨_, rfl, cdiv_s (by decide) (by decide), fun d d0 d1 => ⟨_, _, rfl, by omega, ⟨by omega, by omega⟩, ⟨by omega, by omega⟩, dn_id (q _ ?_)⟩⟩⟩
    have hd : d = 0 ∨ d = 1 ∨ d = 2 ∨ d = 3 ∨ d = 4 ∨ d = 5 := by omega
    rcases hd with rfl | rfl | rfl | rfl | rfl | rfl <;> exact RB.mk (by decide) (by decide) (by decide) (by omega) (by omega)
def sp__law_point : DSp := fun ds G Q _ => ds = [.strm] ∧ ∀ p, PB p → Q (rp p) G
def r__law_point_1 : DTS := dRet (dTup (dCons (dVar 1) (dCons (dCall sp__law_small (dCons (dVar 0) (dNil))) (dNil))))
def r__law_point : DTS := dSeq (dSet 1 (dCall sp__law_small (dCons (dVar 0) (dNil)))) (r__law_point_1)
theorem p__law_point (ds : List D) (G : Gp) (Q : DK) (E : DX) (h : sp__law_point ds G Q E) : ds.length = 1 ∧ r__law_point (fEnds Q E) (dstart 2 ds) G := by
  obtain ⟨rfl, q⟩ := h
  refine ⟨rfl, ?_⟩
  unfold r__law_point r__law_point_1
  walk_at "dl"
  exact ⟨rfl, fun x hx => ⟨rfl, fun y hy => dn_id (q (x, y) ⟨hx, hy⟩)⟩⟩
def sp__law_is_point : DSp := fun ds G Q _ => ∃ p, ds = [rp p] ∧ Q (.bl true) G
def r__law_is_point_0t : DTS := dRet (dC (.bl false))
def r__law_is_point_1 : DTS := dRet (dAndV (dCall sp__law_is_number (dCons (dOp gIx (dVar 0) (dC (.int 0))) (dNil))) (dCall sp__law_is_number (dCons (dOp gIx (dVar 0) (dC (.int 1))) (dNil))))
def r__law_is_point : DTS := dSeq (dIfS (dOr (dNot (dTru (dCB (g2 gIsi) (dCons (dVar 0) (dCons (dC (.ty "tuple")) (dNil)))))) (dTest (dOp (gEq true) (dCB (g1 gLen) (dCons (dVar 0) (dNil))) (dC (.int 2))))) (r__law_is_point_0t) (dNext)) (r__law_is_point_1)
theorem p__law_is_point (ds : List D) (G : Gp) (Q : DK) (E : DX) (h : sp__law_is_point ds G Q E) : ds.length = 1 ∧ r__law_is_point (fEnds Q E) (dstart 1 ds) G := by
  obtain ⟨p, rfl, q⟩ := h
  refine ⟨rfl, ?_⟩
  unfold r__law_is_point r__law_is_point_0t r__law_is_point_1 rp
  walk_at "dl"
  exact ⟨_, rfl, _, rfl, dn_id q⟩
def sp__law_minus : DSp := fun ds G Q _ => ∃ p q, ds = [rp p, rp q] ∧ PB p ∧ PB q ∧ Q (rp (subP p q)) G
def r__law_minus : DTS := dRet (dTup (dCons (dCall sp__law_difference (dCons (dOp gIx (dVar 0) (dC (.int 0))) (dCons (dOp gIx (dVar 1) (dC (.int 0))) (dNil)))) (dCons (dCall sp__law_difference (dCons (dOp gIx (dVar 0) (dC (.int 1))) (dCons (dOp gIx (dVar 1) (dC (.int 1))) (dNil)))) (dNil))))
theorem p__law_minus (ds : List D) (G : Gp) (Q : DK) (E : DX) (h : sp__law_minus ds G Q E) : ds.length = 2 ∧ r__law_minus (fEnds Q E) (dstart 2 ds) G := by
  obtain ⟨p, q, rfl, hp, hq, q1⟩ := h
  refine ⟨rfl, ?_⟩
  unfold r__law_minus rp
  walk_at "dl"
  exact ⟨_, _, rfl, hp.1.w, hq.1.w, _, _, rfl, hp.2.w, hq.2.w, dn_id q1⟩
def sp__law_moved : DSp := fun ds G Q _ => ∃ p q c, ds = [rp p, rp q, rt c] ∧ (RW p.1 ∧ RW p.2 ∧ RW q.1 ∧ RW q.2 ∧ RW c) ∧ RW (c * q.1) ∧ RW (c * q.2) ∧ Q (rp (p.1 + c * q.1, p.2 + c * q.2)) G
def r__law_moved : DTS := dRet (dTup (dCons (dCall sp__law_sum (dCons (dOp gIx (dVar 0) (dC (.int 0))) (dCons (dCall sp__law_product (dCons (dVar 2) (dCons (dOp gIx (dVar 1) (dC (.int 0))) (dNil)))) (dNil)))) (dCons (dCall sp__law_sum (dCons (dOp gIx (dVar 0) (dC (.int 1))) (dCons (dCall sp__law_product (dCons (dVar 2) (dCons (dOp gIx (dVar 1) (dC (.int 1))) (dNil)))) (dNil)))) (dNil))))
theorem p__law_moved (ds : List D) (G : Gp) (Q : DK) (E : DX) (h : sp__law_moved ds G Q E) : ds.length = 3 ∧ r__law_moved (fEnds Q E) (dstart 3 ds) G := by
  obtain ⟨p, q, c, rfl, ⟨w1, w2, w3, w4, w5⟩, m1, m2, q1⟩ := h
  refine ⟨rfl, ?_⟩
  unfold r__law_moved rp
  walk_at "dl"
  exact ⟨c, q.1, rfl, w5, w3, _, _, rfl, w1, m1, c, q.2, rfl, w5, w4, _, _, rfl, w2, m2, dn_id q1⟩
def sp__law_direction : DSp := fun ds G Q _ => ∃ ps js, ∃ k : Nat, ∃ cyc, ds = [.lst (ps.map rp), .lst (js.map jnd), .int k, .bl cyc] ∧ JsOk ps js cyc ∧ k < ps.length ∧ Q (prd (dirL ps js cyc k)) G
def r__law_direction_2t : DTS := dSet 5 (dOp gMod (dCB (g1 gInt) (dCons (dOp gSub (dVar 2) (dC (.int 1))) (dNil))) (dVar 4))
def r__law_direction_3t : DTS := dRet (dC .non)
def r__law_direction_4t : DTS := dRet (dC .non)
def r__law_direction_6 : DTS := dRet (dTup (dCons (dCall sp__law_product (dCons (dOp gIx (dVar 6) (dC (.int 0))) (dCons (dTup (dCons (dC (.int 1)) (dCons (dC (.int 2)) (dNil)))) (dNil)))) (dCons (dCall sp__law_product (dCons (dOp gIx (dVar 6) (dC (.int 1))) (dCons (dTup (dCons (dC (.int 1)) (dCons (dC (.int 2)) (dNil)))) (dNil)))) (dNil))))
def r__law_direction_5 : DTS := dSeq (dSet 6 (dCall sp__law_minus (dCons (dOp gIx (dVar 0) (dOp gMod (dCB (g1 gInt) (dCons (dOp gAdd (dVar 2) (dC (.int 1))) (dNil))) (dVar 4))) (dCons (dOp gIx (dVar 0) (dOp gMod (dCB (g1 gInt) (dCons (dOp gSub (dVar 2) (dC (.int 1))) (dNil))) (dVar 4))) (dNil))))) (r__law_direction_6)
def r__law_direction_4 : DTS := dSeq (dIfS (dOr (dTest (dOp (gEq true) (dOp gIx (dOp gIx (dVar 1) (dVar 5)) (dC (.int 0))) (dC (.str "smooth")))) (dTest (dOp (gEq true) (dOp gIx (dOp gIx (dVar 1) (dVar 2)) (dC (.int 0))) (dC (.str "smooth"))))) (r__law_direction_4t) (dNext)) (r__law_direction_5)
def r__law_direction_3 : DTS := dSeq (dIfS (dOr (dTest (dOp gLt (dVar 5) (dC (.int 0)))) (dOr (dTest (dOp gGe (dVar 5) (dCB (g1 gLen) (dCons (dVar 1) (dNil))))) (dTest (dOp gGe (dVar 2) (dCB (g1 gLen) (dCons (dVar 1) (dNil))))))) (r__law_direction_3t) (dNext)) (r__law_direction_4)
def r__law_direction_2 : DTS := dSeq (dIfS (dTru (dVar 3)) (r__law_direction_2t) (dNext)) (r__law_direction_3)
def r__law_direction_1 : DTS := dSeq (dSet 5 (dOp gSub (dVar 2) (dC (.int 1)))) (r__law_direction_2)
def r__law_direction : DTS := dSeq (dSet 4 (dCB (g1 gLen) (dCons (dVar 0) (dNil)))) (r__law_direction_1)
theorem p__law_direction (ds : List D) (G : Gp) (Q : DK) (E : DX) (h : sp__law_direction ds G Q E) : ds.length = 4 ∧ r__law_direction (fEnds Q E) (dstart 7 ds) G := by
  obtain ⟨ps, js, k, cyc, rfl, ⟨hp, hj, n0, n1, hl⟩, kn, q⟩ := h
  refine ⟨rfl, ?_⟩
  have nxl : (k + 1) % ps.length < ps.length := Nat.mod_lt _ n0
  have prl : (k + ps.length - 1) % ps.length < ps.length := Nat.mod_lt _ n0
  have pn := pb_at hp nxl
  have pp := pb_at hp prl
  have go : ∀ b : Nat, k < js.length → b < js.length → (if cyc = true then (k + ps.length - 1) % ps.length else k - 1) = b → ¬ (cyc = false ∧ k = 0) →
      r__law_direction_4 (fEnds Q E) [some (.lst (ps.map rp)), some (.lst (js.map jnd)), some (.int k), some (.bl cyc), some (.int ps.length), some (.int b), none] G := by
    intro b hk hb eb hc
    unfold dirL at q
    rw [if_neg (fun h => h.elim (fun h => by omega) hc), eb] at q
    have e1 := js_get hb
    have e2 := js_get hk
    generalize js.getD b .line = j1 at q e1
    generalize js.getD k .line = j2 at q e2
    unfold r__law_direction_4 r__law_direction_4t
    walk_at "dl"
    rw [js_at e1, js_at e2]
    cases j1 with
    | line =>
      rw [show jnd .line = .str "line" from rfl]
      walk_at "dl"
      rw [line_0]
      refine ⟨line_z, eqok_str _, eqok_str _, ?_⟩
      rw [cs_3]
      walk_at "dl"
      exact dn_id q
    | curve p q' =>
      rw [show jnd (.curve p q') = .tup [.str "curve", rp p, rp q'] from rfl]
      walk_at "dl"
      refine ⟨eqok_str _, eqok_str _, ?_⟩
      rw [cs_1]
      walk_at "dl"
      exact dn_id q
    | smooth t =>
      rw [show jnd (.smooth t) = .tup [.str "smooth", rt t] from rfl]
      walk_at "dl"
      refine ⟨eqok_str _, eqok_str _, ?_⟩
      rw [cs_2]
      walk_at "dl"
      cases j2 with
      | line =>
        rw [show jnd .line = .str "line" from rfl]
        walk_at "dl"
        rw [line_0]
        refine ⟨line_z, eqok_str _, eqok_str _, ?_⟩
        rw [cs_3]
        walk_at "dl"
        exact dn_id q
      | curve p q' =>
        rw [show jnd (.curve p q') = .tup [.str "curve", rp p, rp q'] from rfl]
        walk_at "dl"
        refine ⟨eqok_str _, eqok_str _, ?_⟩
        rw [cs_1]
        walk_at "dl"
        exact dn_id q
      | smooth t2 =>
        rw [show jnd (.smooth t2) = .tup [.str "smooth", rt t2] from rfl]
        walk_at "dl"
        refine ⟨eqok_str _, eqok_str _, ?_⟩
        rw [cs_2]
        unfold r__law_direction_5 r__law_direction_6
        walk_at "dl"
        refine ⟨by omega, ?_⟩
        rw [next_mod, prev_mod kn, ps_at nxl, ps_at prl]
        refine ⟨by omega, ?_⟩
        rw [if_pos ⟨rfl, rfl⟩] at q
        refine ⟨_, _, rfl, pn, pp, ?_⟩
        have d := db_sub pn pp
        unfold prd halfP sclP at q
        dsimp only at q
        rw [Rat.mul_comm hlf, Rat.mul_comm hlf] at q
        generalize subP (ps.getD ((k + 1) % ps.length) (0, 0)) (ps.getD ((k + ps.length - 1) % ps.length) (0, 0)) = z at d q
        unfold rp
        walk_at "dl"
        exact ⟨z.1, hlf, rfl, d.1.w, rb_hlf.w, z.2, hlf, rfl, d.2.w, rb_hlf.w, dn_id q⟩
  unfold r__law_direction r__law_direction_1 r__law_direction_2 r__law_direction_2t r__law_direction_3 r__law_direction_3t
  walk_at "dl"
  rw [List.length_map]
  cases cyc with
  | true =>
    rw [if_pos rfl] at hl
    walk_at "dl"
    refine ⟨by omega, ?_⟩
    rw [prev_mod kn, List.length_map, hl]
    rw [if_neg (by omega), if_neg (by omega), if_neg (by omega)]
    exact go _ (by omega) (by omega) (if_pos rfl) (fun h => by cases h.1)
  | false =>
    rw [if_neg (by decide)] at hl
    try walk_at "dl"
    have out : js.length ≤ k ∨ (k = 0) → dn Q .non G := fun h => by
      unfold dirL at q
      rw [if_pos (h.elim .inl fun h => .inr ⟨rfl, h⟩)] at q
      exact dn_id q
    by_cases h0 : k = 0
    · rw [if_pos (by omega)]
      exact out (.inr h0)
    · rw [if_neg (by omega), List.length_map]
      by_cases h1 : js.length ≤ k
      · rw [if_neg (by omega), if_pos (by omega)]
        exact out (.inl h1)
      · rw [if_neg (by omega), if_neg (by omega)]
        rw [show (k : Int) - 1 = ((k - 1 : Nat) : Int) by omega]
        exact go _ (by omega) (by omega) (if_neg (by decide)) (fun h => h0 h.2)
def sp__law_segment : DSp := fun ds G Q _ => ∃ ps js, ∃ k : Nat, ∃ cyc, ds = [.lst (ps.map rp), .lst (js.map jnd), .int k, .bl cyc] ∧ JsOk ps js cyc ∧ k < js.length ∧ (∀ t, Jn.smooth t ∈ js → TnOk t) ∧ Q (segd (segP ps js cyc k)) G
def r__law_segment_0t : DTS := dRet (dC .non)
def r__law_segment_1t : DTS := dRet (dTup (dCons (dOp gIx (dOp gIx (dVar 1) (dVar 2)) (dC (.int 1))) (dCons (dOp gIx (dOp gIx (dVar 1) (dVar 2)) (dC (.int 2))) (dNil))))
def r__law_segment_6t : DTS := dSet 7 (dOp gMod (dCB (g1 gInt) (dCons (dOp gAdd (dVar 2) (dC (.int 1))) (dNil))) (dCB (g1 gLen) (dCons (dVar 0) (dNil))))
def r__law_segment_8t : DTS := dSet 6 (dCall sp__law_minus (dCons (dVar 5) (dCons (dVar 4) (dNil))))
def r__law_segment_9t : DTS := dSet 8 (dCall sp__law_minus (dCons (dVar 5) (dCons (dVar 4) (dNil))))
def r__law_segment_12 : DTS := dRet (dTup (dCons (dCall sp__law_moved (dCons (dVar 4) (dCons (dVar 6) (dCons (dVar 10) (dNil))))) (dCons (dCall sp__law_moved (dCons (dVar 5) (dCons (dVar 8) (dCons (dTup (dCons (dOp gSub (dC (.int 0)) (dOp gIx (dVar 10) (dC (.int 0)))) (dCons (dOp gIx (dVar 10) (dC (.int 1))) (dNil)))) (dNil))))) (dNil))))
def r__law_segment_11 : DTS := dSeq (dSet 10 (dCall sp__law_ratio (dCons (dOp gIx (dVar 9) (dC (.int 1))) (dCons (dOp gMulA (dC (.int 3)) (dOp gIx (dVar 9) (dC (.int 0)))) (dNil))))) (r__law_segment_12)
def r__law_segment_10 : DTS := dSeq (dSet 9 (dOp gIx (dOp gIx (dVar 1) (dVar 2)) (dC (.int 1)))) (r__law_segment_11)
def r__law_segment_9 : DTS := dSeq (dIfS (dTest (dIsN false (dVar 8))) (r__law_segment_9t) (dNext)) (r__law_segment_10)
def r__law_segment_8 : DTS := dSeq (dIfS (dTest (dIsN false (dVar 6))) (r__law_segment_8t) (dNext)) (r__law_segment_9)
def r__law_segment_7 : DTS := dSeq (dSet 8 (dCall sp__law_direction (dCons (dVar 0) (dCons (dVar 1) (dCons (dVar 7) (dCons (dVar 3) (dNil))))))) (r__law_segment_8)
def r__law_segment_6 : DTS := dSeq (dIfS (dTru (dVar 3)) (r__law_segment_6t) (dNext)) (r__law_segment_7)
def r__law_segment_5 : DTS := dSeq (dSet 7 (dOp gAdd (dVar 2) (dC (.int 1)))) (r__law_segment_6)
def r__law_segment_4 : DTS := dSeq (dSet 6 (dCall sp__law_direction (dCons (dVar 0) (dCons (dVar 1) (dCons (dVar 2) (dCons (dVar 3) (dNil))))))) (r__law_segment_5)
def r__law_segment_3 : DTS := dSeq (dSet 5 (dOp gIx (dVar 0) (dOp gMod (dCB (g1 gInt) (dCons (dOp gAdd (dVar 2) (dC (.int 1))) (dNil))) (dCB (g1 gLen) (dCons (dVar 0) (dNil)))))) (r__law_segment_4)
def r__law_segment_2 : DTS := dSeq (dSet 4 (dOp gIx (dVar 0) (dVar 2))) (r__law_segment_3)
def r__law_segment_1 : DTS := dSeq (dIfS (dTest (dOp (gEq false) (dOp gIx (dOp gIx (dVar 1) (dVar 2)) (dC (.int 0))) (dC (.str "curve")))) (r__law_segment_1t) (dNext)) (r__law_segment_2)
def r__law_segment : DTS := dSeq (dIfS (dTest (dOp (gEq false) (dOp gIx (dVar 1) (dVar 2)) (dC (.str "line")))) (r__law_segment_0t) (dNext)) (r__law_segment_1)
theorem lawseg_10 {Q : DK} {E : DX} {G : Gp} {js : List Jn} {k : Nat} {t : Rat} {a b L C : Rat × Rat} {x0 x3 x7 x9 x10 : Option D} (ek : js[k]? = some (.smooth t)) (ht : TnOk t) (pk : PB a) (pe : PB b) (dl : DB L) (dc : DB C)
    (q : Q (segd (some ((a.1 + facJ t * L.1, a.2 + facJ t * L.2), (b.1 - facJ t * C.1, b.2 - facJ t * C.2)))) G) :
    r__law_segment_10 (fEnds Q E) [x0, some (.lst (js.map jnd)), some (.int k), x3, some (rp a), some (rp b), some (rp L), x7, some (rp C), x9, x10] G := by
  obtain ⟨m, m1, m2, fb⟩ := ht.fac
  have fw := fac_w m1 m2 fb
  obtain ⟨t3, t3n⟩ := ht.three
  have a1 := stepok m1 m2 fb pk.1 dl.1
  have a2 := stepok m1 m2 fb pk.2 dl.2
  have b1 := stepok m1 m2 fb.neg pe.1 dc.1
  have b2 := stepok m1 m2 fb.neg pe.2 dc.2
  have tn : t.num ≠ 0 := fun h => t3n (by rw [Rat.num_eq_zero] at h; rw [h, Rat.mul_zero]; rfl)
  have tb := ht.rb.num
  have td := ht.rb.den
  have d0 := den_pos' t
  unfold r__law_segment_10 r__law_segment_11 r__law_segment_12
  walk_at "dl"
  rw [js_at ek, show jnd (.smooth t) = .tup [.str "smooth", rt t] from rfl]
  walk_at "dl"
  rw [show rt t = .tup [.int t.num, .int t.den] from rfl]
  walk_at "dl"
  refine ⟨cmul_b ⟨by decide, by decide⟩ ⟨by omega, by omega⟩, _, _, rfl, by omega, ⟨by omega, by omega⟩, ⟨by omega, by omega⟩, ?_⟩
  rw [fac_rt tn]
  have fn := (fac_w m1 m2 fb.neg)
  rw [Rat.sub_eq_add_neg, Rat.sub_eq_add_neg, ← Rat.neg_mul, ← Rat.neg_mul] at q
  generalize facJ t = f at fb fw fn a1 a2 b1 b2 q
  rw [show rt f = .tup [.int f.num, .int f.den] from rfl]
  walk_at "dl"
  rw [rt_negq f]
  refine ⟨a, L, f, rfl, ⟨pk.1.w, pk.2.w, dl.1.w, dl.2.w, fw⟩, a1.1.w, a2.1.w, ?_⟩
  refine ⟨b, C, -f, rfl, ⟨pe.1.w, pe.2.w, dc.1.w, dc.2.w, fn⟩, b1.1.w, b2.1.w, ?_⟩
  exact dn_id q
theorem p__law_segment (ds : List D) (G : Gp) (Q : DK) (E : DX) (h : sp__law_segment ds G Q E) : ds.length = 4 ∧ r__law_segment (fEnds Q E) (dstart 11 ds) G := by
  obtain ⟨ps, js, k, cyc, rfl, ok, hk, ht, q⟩ := h
  refine ⟨rfl, ?_⟩
  have ek := js_get hk
  unfold r__law_segment r__law_segment_0t
  walk_at "dl"
  rw [js_at ek]
  unfold segP at q
  generalize js.getD k .line = j at ek q
  cases j with
  | line =>
    rw [show jnd .line = .str "line" from rfl]
    walk_at "dl"
    refine ⟨eqok_str _, eqok_str _, ?_⟩
    rw [show deq (.str ("line" : Str)) (.str ("line" : Str)) = true by decide +kernel]
    walk_at "dl"
    exact dn_id q
  | curve p q' =>
    rw [show jnd (.curve p q') = .tup [.str "curve", rp p, rp q'] from rfl]
    walk_at "dl"
    have e2 : EqN 3 (.tup [.str ("curve" : Str), rp p, rp q']) := eqn_tup fun d h => by
      simp only [List.mem_cons, List.not_mem_nil, or_false] at h
      rcases h with rfl | rfl | rfl
      · exact (eqn_str _).mono (by decide)
      · exact eqn_rp _
      · exact eqn_rp _
    refine ⟨e2.ok, eqok_str _, ?_⟩
    rw [show deq (.tup [.str ("curve" : Str), rp p, rp q']) (.str ("line" : Str)) = false from rfl]
    unfold r__law_segment_1 r__law_segment_1t
    walk_at "dl"
    rw [js_at ek, show jnd (.curve p q') = .tup [.str "curve", rp p, rp q'] from rfl]
    walk_at "dl"
    refine ⟨eqok_str _, eqok_str _, ?_⟩
    rw [cs_4]
    walk_at "dl"
    try rw [js_at ek, show jnd (.curve p q') = .tup [.str "curve", rp p, rp q'] from rfl]
    try walk_at "dl"
    exact dn_id q
  | smooth t =>
    obtain ⟨hp, hj, n0, n1, hl⟩ := id ok
    have kn : k < ps.length := by split at hl <;> omega
    have nxl : (k + 1) % ps.length < ps.length := Nat.mod_lt _ n0
    have pk := pb_at hp kn
    have pe := pb_at hp nxl
    rw [show jnd (.smooth t) = .tup [.str "smooth", rt t] from rfl]
    walk_at "dl"
    have e2 : EqN 2 (.tup [.str ("smooth" : Str), rt t]) := eqn_tup fun d h => by
      simp only [List.mem_cons, List.not_mem_nil, or_false] at h
      rcases h with rfl | rfl
      · exact (eqn_str _).mono (by decide)
      · exact eqn_rt _
    refine ⟨e2.ok, eqok_str _, ?_⟩
    rw [show deq (.tup [.str ("smooth" : Str), rt t]) (.str ("line" : Str)) = false from rfl]
    unfold r__law_segment_1
    walk_at "dl"
    rw [js_at ek, show jnd (.smooth t) = .tup [.str "smooth", rt t] from rfl]
    walk_at "dl"
    refine ⟨eqok_str _, eqok_str _, ?_⟩
    rw [cs_5]
    unfold r__law_segment_2 r__law_segment_3 r__law_segment_4
    walk_at "dl"
    rw [ps_at kn, List.length_map]
    walk_at "dl"
    refine ⟨by omega, ?_⟩
    rw [next_mod, ps_at nxl]
    refine ⟨ps, js, k, cyc, rfl, ok, kn, ?_⟩
    have tk := ht t (List.mem_of_getElem? ek)
    have q' : Q (segd (some (segL ps js cyc k t))) G := by
      rw [seg_eq ok ek]
      exact q
    unfold segL at q'
    dsimp only at q'
    have dbL : ∀ i p, dirL ps js cyc i = some p → DB p := fun i p e => by
      unfold dirL at e
      rw [Option.ite_none_left_eq_some, Option.ite_none_right_eq_some] at e
      obtain ⟨_, _, e⟩ := e
      cases e
      exact db_half (pb_at hp (Nat.mod_lt _ n0)) (pb_at hp (Nat.mod_lt _ n0))
    have dch := db_sub pe pk
    have e7 : (if cyc = true then ((k + 1) % ps.length : Nat) else k + 1) < ps.length := by
      split
      · exact nxl
      · rename_i hc
        rw [if_neg hc] at hl
        omega
    have go : r__law_segment_7 (fEnds Q E) [some (.lst (ps.map rp)), some (.lst (js.map jnd)), some (.int k), some (.bl cyc), some (rp (ps.getD k (0, 0))), some (rp (ps.getD ((k + 1) % ps.length) (0, 0))), some (prd (dirL ps js cyc k)),
        some (.int ((if cyc = true then ((k + 1) % ps.length : Nat) else k + 1 : Nat) : Int)), none, none, none] G := by
      unfold r__law_segment_7 r__law_segment_8 r__law_segment_8t
      walk_at "dl"
      refine ⟨ps, js, _, cyc, rfl, ok, e7, ?_⟩
      generalize hL : dirL ps js cyc k = oL at q'
      generalize hC : dirL ps js cyc (if cyc = true then ((k + 1) % ps.length : Nat) else k + 1) = oC at q'
      unfold r__law_segment_9 r__law_segment_9t
      cases oL with
      | none =>
        rw [show prd none = .non from rfl]
        walk_at "dl"
        refine ⟨_, _, rfl, pe, pk, ?_⟩
        cases oC with
        | none =>
          rw [show prd none = .non from rfl]
          walk_at "dl"
          exact ⟨_, _, rfl, pe, pk, lawseg_10 ek tk pk pe dch dch q'⟩
        | some c =>
          rw [show prd (some c) = .tup [rt c.1, rt c.2] from rfl]
          walk_at "dl"
          exact lawseg_10 ek tk pk pe dch (dbL _ _ hC) q'
      | some l =>
        rw [show prd (some l) = .tup [rt l.1, rt l.2] from rfl]
        walk_at "dl"
        cases oC with
        | none =>
          rw [show prd none = .non from rfl]
          walk_at "dl"
          exact ⟨_, _, rfl, pe, pk, lawseg_10 ek tk pk pe (dbL _ _ hL) dch q'⟩
        | some c =>
          rw [show prd (some c) = .tup [rt c.1, rt c.2] from rfl]
          walk_at "dl"
          exact lawseg_10 ek tk pk pe (dbL _ _ hL) (dbL _ _ hC) q'
    unfold r__law_segment_5 r__law_segment_6 r__law_segment_6t
    walk_at "dl"
    cases cyc with
    | true =>
      walk_at "dl"
      rw [List.length_map]
      refine ⟨by omega, ?_⟩
      rw [next_mod]
      exact go
    | false =>
      try walk_at "dl"
      exact go
def sp__law_joins : DSp := fun ds G Q _ => ∃ m : Int, ds = [.strm, .int m] ∧ 0 ≤ m ∧ m ≤ 1000 ∧ ∀ js : List Jn, (js.length : Int) = m → (∀ j ∈ js, JG j) → ∀ p, G p = none → Q (.ref p) (gupd G p (.lst (js.map jnd)))
def r__law_joins_1b_1t : DTS := dDrop (dBM dmAppend (dVar 2) (dCons (dC (.str "line")) (dNil)))
def r__law_joins_1b_1e_0t_1 : DTS := dDrop (dBM dmAppend (dVar 2) (dCons (dTup (dCons (dC (.str "curve")) (dCons (dVar 5) (dCons (dCall sp__law_point (dCons (dVar 0) (dNil))) (dNil))))) (dNil)))
def r__law_joins_1b_1e_0t : DTS := dSeq (dSet 5 (dCall sp__law_point (dCons (dVar 0) (dNil)))) (r__law_joins_1b_1e_0t_1)
def r__law_joins_1b_1e_0e : DTS := dDrop (dBM dmAppend (dVar 2) (dCons (dTup (dCons (dC (.str "smooth")) (dCons (dOp gIx (dLst (dCons (dTup (dCons (dC (.int 1)) (dCons (dC (.int 1)) (dNil)))) (dCons (dCall sp__law_ratio (dCons (dOp gAdd (dCall sp__law_next (dCons (dVar 0) (dCons (dC (.int 14)) (dNil)))) (dC (.int 3))) (dCons (dC (.int 4)) (dNil)))) (dNil)))) (dCall sp__law_next (dCons (dVar 0) (dCons (dC (.int 2)) (dNil))))) (dNil)))) (dNil)))
def r__law_joins_1b_1e : DTS := dIfS (dTest (dOp (gEq false) (dVar 4) (dC (.int 1)))) (r__law_joins_1b_1e_0t) (r__law_joins_1b_1e_0e)
def r__law_joins_1b_1 : DTS := dIfS (dTest (dOp (gEq false) (dVar 4) (dC (.int 0)))) (r__law_joins_1b_1t) (r__law_joins_1b_1e)
def r__law_joins_1b : DTS := dSeq (dSet 4 (dCall sp__law_next (dCons (dVar 0) (dCons (dC (.int 5)) (dNil))))) (r__law_joins_1b_1)
def r__law_joins_2 : DTS := dRet (dVar 2)
def r__law_joins_1 : DTS := dSeq (dFor (dRng1 (dCons (dVar 1) (dNil))) (dgName 3) (r__law_joins_1b)) (r__law_joins_2)
def r__law_joins : DTS := dSeq (dSet 2 (dLstM (dNil))) (r__law_joins_1)
theorem p__law_joins (ds : List D) (G : Gp) (Q : DK) (E : DX) (h : sp__law_joins ds G Q E) : ds.length = 2 ∧ r__law_joins (fEnds Q E) (dstart 6 ds) G := by
  obtain ⟨m, rfl, h0, h1, q⟩ := h
  refine ⟨rfl, ?_⟩
  unfold r__law_joins r__law_joins_1
  walk_at "dl"
  try refine ⟨size_le (by decide), ?_⟩
  intro p hp
  refine ⟨⟨by omega, by omega⟩, ?_⟩
  refine for_rng (fun i s' G' => ∃ (js : List Jn) (x3 x4 x5 : Option D), G' = gupd G p (.lst (js.map jnd)) ∧ s' = [some .strm, some (.int m), some (.ref p), x3, x4, x5] ∧ js.length = i ∧ ∀ j ∈ js, JG j) ⟨[], _, _, _, rfl, rfl, rfl, fun _ h => by cases h⟩ ?_ ?_
  · rintro i s' G' hi ⟨js, x3, x4, x5, rfl, rfl, hl, hJ⟩
    have add : ∀ s : Jn, JG s → ∀ x ∈ js ++ [s], JG x := fun s hs x hx => by
      rcases List.mem_append.mp hx with h | h
      · exact hJ x h
      · cases h with
        | head => exact hs
        | tail _ h => cases h
    have lt : (js.map jnd).length < sizeLine := size_lt (by rw [List.length_map]; omega)
    unfold r__law_joins_1b r__law_joins_1b_1 r__law_joins_1b_1t r__law_joins_1b_1e r__law_joins_1b_1e_0t r__law_joins_1b_1e_0t_1 r__law_joins_1b_1e_0e
    walk_at "dl"
    refine ⟨_, rfl, cdiv_s (by decide) (by decide), fun k _ _ => ?_⟩
    walk_at "dl"
    split
    · exact ⟨lt, js ++ [.line], _, _, _, by rw [List.map_append]; rfl, rfl, by rw [List.length_append, hl]; rfl, add .line trivial⟩
    · try walk_at "dl"
      split
      · refine ⟨rfl, fun f hf => ?_⟩
        try walk_at "dl"
        refine ⟨rfl, fun l hl' => ?_⟩
        try walk_at "dl"
        exact ⟨lt, js ++ [.curve f l], _, _, _, by rw [List.map_append]; rfl, rfl, by rw [List.length_append, hl]; rfl, add (.curve f l) ⟨hf, hl'⟩⟩
      · refine ⟨_, rfl, cdiv_s (by decide) (by decide), fun r r0 r1 => ?_⟩
        walk_at "dl"
        refine ⟨_, _, rfl, by decide, ⟨by omega, by omega⟩, ⟨by omega, by omega⟩, ?_⟩
        walk_at "dl"
        refine ⟨_, rfl, cdiv_s (by decide) (by decide), fun b b0 b1 => ?_⟩
        have hb : b = 0 ∨ b = 1 := by omega
        have g1 : TnOk 1 := ⟨300, by decide +kernel, by decide, by decide⟩
        have g2 : TnOk (Rat.divInt (r + 3) 4) := ⟨(r + 3) * 75, (Rat.divInt_eq_divInt_iff (by decide) (by decide)).mpr (by omega), by omega, by omega⟩
        rcases hb with rfl | rfl
        · walk_at "dl"
          exact ⟨lt, js ++ [.smooth 1], _, _, _, by rw [List.map_append]; rfl, rfl, by rw [List.length_append, hl]; rfl, add (.smooth 1) g1⟩
        · walk_at "dl"
          exact ⟨lt, js ++ [.smooth (Rat.divInt (r + 3) 4)], _, _, _, by rw [List.map_append]; rfl, rfl, by rw [List.length_append, hl]; rfl, add (.smooth _) g2⟩
  · rintro s' G' ⟨js, x3, x4, x5, rfl, rfl, hl, hJ⟩
    unfold r__law_joins_2
    walk_at "dl"
    exact dn_id (q js (by omega) hJ p hp)
def sp__law_refused : DSp := fun ds G Q _ => ∃ ps js cyc, ds = [.lst (ps.map rp), .lst (js.map jnd), .bl cyc] ∧ JsOk ps js cyc ∧ (24 < ps.length ∨ ∃ t, Jn.smooth t ∈ js ∧ Low t) ∧ Q (.bl true) G
def r__law_refused_0y : DTS := dDrop (dCallK sp_join_points 2 1 (dCons (dVar 0) (dCons (dVar 1) (dNil))) (dCons (dVar 2) (dNil)))
def r__law_refused_0h0 (e : Exn) (a : Addr) : DTS := dRet (dAndV (dOp gGt (dCB (g1 gLen) (dCons (dVar 0) (dNil))) (dC (.int 24))) (dCB (g2 (gIsE kitm e a)) (dCons (dVar 3) (dCons (dC (.glo "FontError")) (dNil)))))
def r__law_refused_0h1 (e : Exn) (a : Addr) : DTS := dRet (dAndV (dOp gLe (dCB (g1 gLen) (dCons (dVar 0) (dNil))) (dC (.int 24))) (dCB (g2 (gIsE kitm e a)) (dCons (dVar 3) (dCons (dC (.glo "FontError")) (dNil)))))
def r__law_refused_1 : DTS := dRet (dC (.bl false))
def r__law_refused : DTS := dSeq (dTryN [(3, m_TooMany, fun e a => (r__law_refused_0h0 e a)), (3, m_OutOfRange, fun e a => (r__law_refused_0h1 e a))] (r__law_refused_0y)) (r__law_refused_1)
theorem p__law_refused (ds : List D) (G : Gp) (Q : DK) (E : DX) (h : sp__law_refused ds G Q E) : ds.length = 3 ∧ r__law_refused (fEnds Q E) (dstart 4 ds) G := by
  obtain ⟨ps, js, cyc, rfl, ok, bad, q⟩ := h
  refine ⟨rfl, ?_⟩
  unfold r__law_refused r__law_refused_0y r__law_refused_0h0 r__law_refused_0h1
  walk_at "dl"
  refine ⟨ps, js, cyc, rfl, ok, fun h => ?_, fun h h2 => ?_, fun h h2 => ?_⟩
  · walk_at "dl"
    intro a ha
    rw [List.length_map]
    rw [if_pos (by omega)]
    try walk_at "dl"
    exact dn_id q
  · walk_at "dl"
    intro a ha
    rw [List.length_map]
    rw [if_pos (by omega)]
    try walk_at "dl"
    exact dn_id q
  · rcases bad with b | ⟨t, ht, hl⟩
    · omega
    · exact absurd hl (h2 t ht)
def r_law_2t : DTS := dSet 2 (dOp gAdd (dCall sp__law_next (dCons (dVar 1) (dCons (dC (.int 8)) (dNil)))) (dC (.int 20)))
def r_law_7t_1 : DTS := dSet 7 (dC (.bl true))
def r_law_7t : DTS := dSeq (dAsg (dTup (dCons (dC (.str "smooth")) (dCons (dOp gIx (dLst (dCons (dTup (dCons (dC (.int 2)) (dCons (dC (.int 3)) (dNil)))) (dCons (dTup (dCons (dC (.int 0)) (dCons (dC (.int 1)) (dNil)))) (dCons (dTup (dCons (dNeg (dC (.int 1))) (dCons (dC (.int 1)) (dNil)))) (dCons (dTup (dCons (dC (.int 37)) (dCons (dC (.int 50)) (dNil)))) (dNil)))))) (dCall sp__law_next (dCons (dVar 1) (dCons (dC (.int 4)) (dNil))))) (dNil)))) (dgSub (dVar 6) (dCall sp__law_next (dCons (dVar 1) (dCons (dCB (g1 gLen) (dCons (dVar 6) (dNil))) (dNil)))))) (r_law_7t_1)
def r_law_8t : DTS := dRet (dCall sp__law_refused (dCons (dCB (g1 gListOf) (dCons (dVar 4) (dNil))) (dCons (dCB (g1 gListOf) (dCons (dVar 6) (dNil))) (dCons (dVar 3) (dNil)))))
def r_law_11t : DTS := dSet 10 (dCallK sp_join_points 2 1 (dCons (dOp gIx (dVar 9) (dC (.int 0))) (dCons (dOp gIx (dVar 9) (dC (.int 1))) (dNil))) (dCons (dVar 3) (dNil)))
def r_law_11e : DTS := dSet 10 (dCallD sp_join_points [.bl false] (dCons (dOp gIx (dVar 9) (dC (.int 0))) (dCons (dOp gIx (dVar 9) (dC (.int 1))) (dNil))))
def r_law_12t : DTS := dRet (dC (.bl false))
def r_law_13 : DTS := dRet (dAndV (dCB (g2 gIsi) (dCons (dOp gIx (dVar 10) (dC (.int 2))) (dCons (dC (.ty "bool")) (dNil)))) (dOp (gEq false) (dVar 9) (dTup (dCons (dVar 4) (dCons (dVar 6) (dNil))))))
def r_law_12 : DTS := dSeq (dIfS (dOr (dNot (dTru (dCB (g2 gIsi) (dCons (dVar 10) (dCons (dC (.ty "tuple")) (dNil)))))) (dTest (dOp (gEq true) (dVar 10) (dTup (dCons (dCB (g1 gTupOf) (dCons (dVar 4) (dNil))) (dCons (dVar 8) (dCons (dVar 3) (dNil)))))))) (r_law_12t) (dNext)) (r_law_13)
def r_law_11 : DTS := dSeq (dIfS (dOr (dTru (dVar 3)) (dTest (dOp (gEq false) (dCall sp__law_next (dCons (dVar 1) (dCons (dC (.int 2)) (dNil)))) (dC (.int 0))))) (r_law_11t) (r_law_11e)) (r_law_12)
def r_law_10 : DTS := dSeq (dSet 9 (dTup (dCons (dCB (g1 gListOf) (dCons (dVar 4) (dNil))) (dCons (dCB (g1 gListOf) (dCons (dVar 6) (dNil))) (dNil))))) (r_law_11)
def r_law_9 : DTS := dSeq (dFrzV 6 (dSet 8 (dCB (g1 gTupOf) (dCons (dLc (dRng1 (dCons (dCB (g1 gLen) (dCons (dVar 6) (dNil))) (dNil))) (dgName 5) (dYes) (dCall sp__law_segment (dCons (dVar 4) (dCons (dVar 6) (dCons (dVar 5) (dCons (dVar 3) (dNil)))))) [5]) (dNil))))) (r_law_10)
def r_law_8 : DTS := dSeq (dIfS (dOr (dTru (dVar 7)) (dTest (dOp gGt (dVar 2) (dC (.int 24))))) (r_law_8t) (dNext)) (r_law_9)
def r_law_7 : DTS := dSeq (dIfS (dAnd (dTest (dOp (gEq false) (dCall sp__law_next (dCons (dVar 1) (dCons (dC (.int 6)) (dNil)))) (dC (.int 0)))) (dTest (dOp gGt (dCB (g1 gLen) (dCons (dVar 6) (dNil))) (dC (.int 0))))) (r_law_7t) (dNext)) (r_law_8)
def r_law_6 : DTS := dSeq (dSet 7 (dC (.bl false))) (r_law_7)
def r_law_5 : DTS := dSeq (dSet 6 (dCall sp__law_joins (dCons (dCall sp__law_stream (dCons (dCall sp__law_cell (dCons (dVar 0) (dCons (dC (.int 1)) (dNil)))) (dNil))) (dCons (dOp gAdd (dOp gSub (dVar 2) (dC (.int 1))) (dCB (g1 gInt) (dCons (dVar 3) (dNil)))) (dNil))))) (r_law_6)
def r_law_4 : DTS := dSeq (dSet 4 (dLc (dRng1 (dCons (dVar 2) (dNil))) (dgName 5) (dYes) (dCall sp__law_point (dCons (dVar 1) (dNil))) [5])) (r_law_5)
def r_law_3 : DTS := dSeq (dSet 3 (dOp (gEq false) (dCall sp__law_next (dCons (dVar 1) (dCons (dC (.int 2)) (dNil)))) (dC (.int 0)))) (r_law_4)
def r_law_2 : DTS := dSeq (dIfS (dTest (dOp (gEq false) (dCall sp__law_next (dCons (dVar 1) (dCons (dC (.int 8)) (dNil)))) (dC (.int 0)))) (r_law_2t) (dNext)) (r_law_3)
def r_law_1 : DTS := dSeq (dSet 2 (dOp gAdd (dCall sp__law_next (dCons (dVar 1) (dCons (dC (.int 6)) (dNil)))) (dC (.int 1)))) (r_law_2)
def r_law : DTS := dSeq (dSet 1 (dCall sp__law_stream (dCons (dCall sp__law_cell (dCons (dVar 0) (dCons (dC (.int 0)) (dNil)))) (dNil)))) (r_law_1)
theorem law_12 {Q : DK} {E : DX} {G : Gp} {s0 s1 s2 s5 s7 : Option D} {ps : List (Rat × Rat)} {js : List Jn} {cyc : Bool} (q : ∀ G' : Gp, Q (.bl true) G') :
    r_law_12 (fEnds Q E) [s0, s1, s2, some (.bl cyc), some (.lst (ps.map rp)), s5, some (.lst (js.map jnd)), s7, some (.tup ((List.range js.length).map fun k => segd (segP ps js cyc k))), some (.tup [.lst (ps.map rp), .lst (js.map jnd)]), some (pathd ⟨ps, (List.range js.length).map (segP ps js cyc), cyc⟩)] G := by
  have e := eqn_path ⟨ps, (List.range js.length).map (segP ps js cyc), cyc⟩
  rw [show pathd ⟨ps, (List.range js.length).map (segP ps js cyc), cyc⟩ = .tup [.tup (ps.map rp), .tup ((List.range js.length).map fun k => segd (segP ps js cyc k)), .bl cyc] by
    unfold pathd
    dsimp only
    rw [List.map_map]
    rfl] at e ⊢
  unfold r_law_12 r_law_12t
  walk_at "dl"
  refine self_ne e (by decide) ?_
  unfold r_law_13
  walk_at "dl"
  exact self_q (eqn_handed ps js) (by decide) (dn_id (q _))
theorem law_9 {Q : DK} {E : DX} {G : Gp} {a : Addr} {s0 s2 s5 s7 : Option D} {ps : List (Rat × Rat)} {js : List Jn} {cyc : Bool} (ok : JsOk ps js cyc) (h24 : ps.length ≤ 24) (tn : ∀ t, Jn.smooth t ∈ js → TnOk t) (q : ∀ G' : Gp, Q (.bl true) G') :
    r_law_9 (fEnds Q E) [s0, some .strm, s2, some (.bl cyc), some (.lst (ps.map rp)), s5, some (.ref a), s7, none, none, none] (gupd G a (.lst (js.map jnd))) := by
  have jl : js.length ≤ 1000 := by
    obtain ⟨_, _, n0, n1, hl⟩ := ok
    split at hl <;> omega
  unfold r_law_9
  walk_at "dl"
  rw [List.length_map]
  refine ⟨⟨by omega, by omega⟩, ?_⟩
  intro p hp
  refine lc_rng (fun i acc => acc = (List.range i).map fun k => segd (segP ps js cyc k)) rfl ?_ ?_
  · rintro i acc hi hl' rfl
    walk_at "dl"
    refine ⟨ps, js, i, cyc, by rw [Int.zero_add], ok, by omega, tn, lc_push hl' (by omega) ?_⟩
    rw [List.range_succ, List.map_append]
    rfl
  · rintro acc hl' rfl
    rw [gdel_gupd hp]
    generalize gdel (gupd G a (.lst (js.map jnd))) a = G1
    unfold r_law_10 r_law_11 r_law_11t r_law_11e
    walk_at "dl"
    have js_e : (js.length : Int).toNat = js.length := by omega
    cases cyc with
    | true =>
      walk_at "dl"
      refine ⟨ps, js, true, rfl, ok, fun h => by omega, fun _ ⟨t, h, hl⟩ => absurd hl (tn t h).notLow, fun _ _ => ?_⟩
      first
        | exact law_12 q
        | (rw [js_e]; exact law_12 q)
        | (rw [Int.sub_zero, js_e]; exact law_12 q)
    | false =>
      walk_at "dl"
      refine ⟨_, rfl, cdiv_s (by decide) (by decide), fun k _ _ => ?_⟩
      walk_at "dl"
      split
      · refine ⟨ps, js, false, rfl, ok, fun h => by omega, fun _ ⟨t, h, hl⟩ => absurd hl (tn t h).notLow, fun _ _ => ?_⟩
        first
          | exact law_12 q
          | (rw [js_e]; exact law_12 q)
          | (rw [Int.sub_zero, js_e]; exact law_12 q)
      · refine ⟨ps, js, false, rfl, ok, fun h => by omega, fun _ ⟨t, h, hl⟩ => absurd hl (tn t h).notLow, fun _ _ => ?_⟩
        first
          | exact law_12 q
          | (rw [js_e]; exact law_12 q)
          | (rw [Int.sub_zero, js_e]; exact law_12 q)
theorem law_8 {Q : DK} {E : DX} {G : Gp} {a : Addr} {s0 s5 : Option D} {ps : List (Rat × Rat)} {js : List Jn} {cyc bad : Bool} (ok : JsOk ps js cyc) (hb : bad = true → ∃ t, Jn.smooth t ∈ js ∧ Low t) (hg : bad = false → ∀ t, Jn.smooth t ∈ js → TnOk t) (q : ∀ G' : Gp, Q (.bl true) G') :
    r_law_8 (fEnds Q E) [s0, some .strm, some (.int ps.length), some (.bl cyc), some (.lst (ps.map rp)), s5, some (.ref a), some (.bl bad), none, none, none] (gupd G a (.lst (js.map jnd))) := by
  unfold r_law_8 r_law_8t
  cases bad with
  | true =>
    walk_at "dl"
    exact ⟨ps, js, cyc, rfl, ok, .inr (hb rfl), dn_id (q _)⟩
  | false =>
    walk_at "dl"
    by_cases h24 : 24 < ps.length
    · rw [if_pos (by omega)]
      exact ⟨ps, js, cyc, rfl, ok, .inl h24, dn_id (q _)⟩
    · rw [if_neg (by omega)]
      exact law_9 ok (by omega) (hg rfl) q
theorem law_3 {Q : DK} {E : DX} {G : Gp} {ns : List Int} {c : Nat} (c0 : 0 < c) (c1 : c ≤ 1000) (q : ∀ G' : Gp, Q (.bl true) G') :
    r_law_3 (fEnds Q E) [some (.scr ns), some .strm, some (.int c), none, none, none, none, none, none, none, none] G := by
  unfold r_law_3
  walk_at "dl"
  refine ⟨_, rfl, cdiv_s (by decide) (by decide), fun k _ _ => ?_⟩
  try walk_at "dl"
  generalize hcyc : decide (k = 0) = cyc
  unfold r_law_4
  walk_at "dl"
  refine ⟨⟨by omega, by omega⟩, ?_⟩
  intro p hp
  refine lc_rng (fun i acc => ∃ qs : List (Rat × Rat), acc = qs.map rp ∧ qs.length = i ∧ ∀ x ∈ qs, PB x) ⟨[], rfl, rfl, fun _ h => by cases h⟩ ?_ ?_
  · rintro i acc hi hl ⟨qs, rfl, hq, hB⟩
    have hi' : i < c := by omega
    walk_at "dl"
    refine ⟨rfl, fun x hx => lc_push (by rw [List.length_map]; omega) (by omega) ⟨qs ++ [x], by rw [List.map_append]; rfl, by rw [List.length_append, hq]; rfl, fun y hy => ?_⟩⟩
    rcases List.mem_append.mp hy with hy | hy
    · exact hB y hy
    · cases hy with
      | head => exact hx
      | tail _ h => cases h
  · rintro acc hl ⟨ps, rfl, hq, hB⟩
    have hq' : ps.length = c := by omega
    subst hq'
    rw [gdel_gupd hp]
    unfold r_law_5
    walk_at "dl"
    refine ⟨ns, 1, rfl, by decide, fun c1' => ⟨c1', rfl, ?_⟩⟩
    refine ⟨_, rfl, by split <;> omega, by split <;> omega, fun js hjl hJ a ha => ?_⟩
    have jl : js.length = if cyc = true then ps.length else ps.length - 1 := by
      cases cyc with
      | true =>
        rw [if_pos rfl] at hjl ⊢
        omega
      | false =>
        rw [if_neg (by decide)] at hjl ⊢
        omega
    have ok : ∀ js' : List Jn, js'.length = js.length → (∀ j ∈ js', JB j) → JsOk ps js' cyc := fun js' h1 h2 => ⟨hB, h2, c0, c1, h1.trans jl⟩
    unfold r_law_6 r_law_7 r_law_7t r_law_7t_1
    walk_at "dl"
    refine ⟨_, rfl, cdiv_s (by decide) (by decide), fun k6 _ _ => ?_⟩
    walk_at "dl"
    have plain := law_8 (Q := Q) (E := E) (G := G) (a := a) (s0 := some (.scr ns)) (s5 := none) (bad := false) (ok js rfl fun j h => (hJ j h).jb) (fun h => by cases h) (fun _ t h => hJ _ h) q
    split
    · rw [List.length_map]
      by_cases hz : 0 < js.length
      · rw [if_pos (by omega)]
        have jl9 : js.length ≤ 1000 := by split at jl <;> omega
        refine ⟨_, rfl, cdiv_s (by decide) (by decide), fun b b0 b1 => ?_⟩
        have setb : ∀ t : Rat, RB 300 1200 t → Low t → ∀ i : Int, 0 ≤ i → i < js.length → r_law_8 (fEnds Q E) [some (.scr ns), some .strm, some (.int ps.length), some (.bl cyc), some (.lst (ps.map rp)), none, some (.ref a), some (.bl true), none, none, none] (gupd G a (.lst ((js.map jnd).set i.toNat (jnd (.smooth t))))) := fun t tb tl i i0 i1 => by
          rw [← List.map_set]
          refine law_8 (ok _ (List.length_set ..) fun j h => ?_) (fun _ => ⟨t, List.mem_iff_getElem.mpr ⟨i.toNat, by rw [List.length_set]; omega, List.getElem_set_self ..⟩, tl⟩) (fun h => by cases h) q
          rcases List.mem_or_eq_of_mem_set h with h | h
          · exact (hJ j h).jb
          · subst h
            exact tb
        have hb : b = 0 ∨ b = 1 ∨ b = 2 ∨ b = 3 := by omega
        rcases hb with rfl | rfl | rfl | rfl
        · walk_at "dl"
          rw [List.length_map]
          refine ⟨_, rfl, cdiv_s (by omega) (by omega), fun i i0 i1 => ?_⟩
          walk_at "dl"
          rw [List.length_map, show ixN js.length i = some i.toNat by unfold ixN; rw [if_pos i0, if_pos i1]]
          exact setb (Rat.divInt 2 3) ⟨by decide, 200, by decide +kernel, by decide, by decide⟩ (by unfold Low; decide +kernel) i i0 i1
        · walk_at "dl"
          rw [List.length_map]
          refine ⟨_, rfl, cdiv_s (by omega) (by omega), fun i i0 i1 => ?_⟩
          walk_at "dl"
          rw [List.length_map, show ixN js.length i = some i.toNat by unfold ixN; rw [if_pos i0, if_pos i1]]
          exact setb 0 ⟨by decide, 0, by decide +kernel, by decide, by decide⟩ (by unfold Low; decide +kernel) i i0 i1
        · walk_at "dl"
          rw [List.length_map]
          refine ⟨_, rfl, cdiv_s (by omega) (by omega), fun i i0 i1 => ?_⟩
          walk_at "dl"
          rw [List.length_map, show ixN js.length i = some i.toNat by unfold ixN; rw [if_pos i0, if_pos i1]]
          exact setb (-1) ⟨by decide, -300, by decide +kernel, by decide, by decide⟩ (by unfold Low; decide +kernel) i i0 i1
        · walk_at "dl"
          rw [List.length_map]
          refine ⟨_, rfl, cdiv_s (by omega) (by omega), fun i i0 i1 => ?_⟩
          walk_at "dl"
          rw [List.length_map, show ixN js.length i = some i.toNat by unfold ixN; rw [if_pos i0, if_pos i1]]
          exact setb (Rat.divInt 37 50) ⟨by decide, 222, by decide +kernel, by decide, by decide⟩ (by unfold Low; decide +kernel) i i0 i1
      · rw [if_neg (by omega)]
        exact plain
    · exact plain
theorem p_law (ds : List D) (G : Gp) (Q : DK) (E : DX) (h : spLaw ds G Q E) : ds.length = 1 ∧ r_law (fEnds Q E) (dstart 11 ds) G := by
  obtain ⟨ns, rfl, hlen, hbits, q⟩ := h
  refine ⟨rfl, ?_⟩
  unfold r_law r_law_1 r_law_2 r_law_2t
  walk_at "dl"
  refine ⟨ns, 0, rfl, by decide, fun c0 => ⟨c0, rfl, _, rfl, cdiv_s (by decide) (by decide), fun r r0 r1 => ⟨_, rfl, cdiv_s (by decide) (by decide), fun k _ _ => ?_⟩⟩⟩
  walk_at "dl"
  split
  · refine ⟨_, rfl, cdiv_s (by decide) (by decide), fun n n0 n1 => ?_⟩
    have z := law_3 (Q := Q) (E := E) (G := G) (ns := ns) (c := (n + 20).toNat) (by omega) (by omega) q
    rw [Int.toNat_of_nonneg (by omega)] at z
    exact z
  · have z := law_3 (Q := Q) (E := E) (G := G) (ns := ns) (c := (r + 1).toNat) (by omega) (by omega) q
    rw [Int.toNat_of_nonneg (by omega)] at z
    exact z

end Lk16
set_option Elab.async false
set_option linter.all false
set_option maxRecDepth 100000
set_option maxHeartbeats 4000000
open PySem PySem.Spec PyProof.Rows L2 Dl
namespace Lk16
set_option autoImplicit false
def topS (i : Nat) : Stmt := PySem.Challenge.pw_fontwinding_k16_joined_points.main.body.getD i (.Pass ⟨0, 0, 0, 0⟩)
def N_ratio : List Str := ["n", "d", "common"]
abbrev s_ratio : Stmt := topS 9
theorem sc_ratio : FnScope ["n", "d", "common"] ["n", "d"] (defScope s_ratio) := ⟨rfl, rfl, rfl, by decide +kernel, rfl, by decide +kernel, by decide +kernel⟩
def N_add : List Str := ["a", "b"]
abbrev s_add : Stmt := topS 10
theorem sc_add : FnScope ["a", "b"] ["a", "b"] (defScope s_add) := ⟨rfl, rfl, rfl, by decide +kernel, rfl, by decide +kernel, by decide +kernel⟩
def N_subtract : List Str := ["a", "b"]
abbrev s_subtract : Stmt := topS 11
theorem sc_subtract : FnScope ["a", "b"] ["a", "b"] (defScope s_subtract) := ⟨rfl, rfl, rfl, by decide +kernel, rfl, by decide +kernel, by decide +kernel⟩
def N_multiply : List Str := ["a", "b"]
abbrev s_multiply : Stmt := topS 12
theorem sc_multiply : FnScope ["a", "b"] ["a", "b"] (defScope s_multiply) := ⟨rfl, rfl, rfl, by decide +kernel, rfl, by decide +kernel, by decide +kernel⟩
def N_divide : List Str := ["a", "b"]
abbrev s_divide : Stmt := topS 13
theorem sc_divide : FnScope ["a", "b"] ["a", "b"] (defScope s_divide) := ⟨rfl, rfl, rfl, by decide +kernel, rfl, by decide +kernel, by decide +kernel⟩
def N_compare : List Str := ["a", "b", "left", "right"]
abbrev s_compare : Stmt := topS 14
theorem sc_compare : FnScope ["a", "b", "left", "right"] ["a", "b"] (defScope s_compare) := ⟨rfl, rfl, rfl, by decide +kernel, rfl, by decide +kernel, by decide +kernel⟩
def N_difference : List Str := ["p", "q"]
abbrev s_difference : Stmt := topS 18
theorem sc_difference : FnScope ["p", "q"] ["p", "q"] (defScope s_difference) := ⟨rfl, rfl, rfl, by decide +kernel, rfl, by decide +kernel, by decide +kernel⟩
def N_scaled : List Str := ["p", "number"]
abbrev s_scaled : Stmt := topS 19
theorem sc_scaled : FnScope ["p", "number"] ["p", "number"] (defScope s_scaled) := ⟨rfl, rfl, rfl, by decide +kernel, rfl, by decide +kernel, by decide +kernel⟩
def N_is_smooth : List Str := ["join"]
abbrev s_is_smooth : Stmt := topS 20
theorem sc_is_smooth : FnScope ["join"] ["join"] (defScope s_is_smooth) := ⟨rfl, rfl, rfl, by decide +kernel, rfl, by decide +kernel, by decide +kernel⟩
def N_direction : List Str := ["points", "joins", "index", "other", "chord", "before", "after"]
abbrev s_direction : Stmt := topS 21
theorem sc_direction : FnScope ["points", "joins", "index", "other", "chord", "before", "after"] ["points", "joins", "index", "other", "chord"] (defScope s_direction) := ⟨rfl, rfl, rfl, by decide +kernel, rfl, by decide +kernel, by decide +kernel⟩
def N_smooth_segment : List Str := ["points", "joins", "index", "cycle", "count", "start", "end", "a", "b", "chord", "before", "after", "leaving", "coming", "factor", "step", "first", "second"]
abbrev s_smooth_segment : Stmt := topS 22
theorem sc_smooth_segment : FnScope ["points", "joins", "index", "cycle", "count", "start", "end", "a", "b", "chord", "before", "after", "leaving", "coming", "factor", "step", "first", "second"] ["points", "joins", "index", "cycle"] (defScope s_smooth_segment) := ⟨rfl, rfl, rfl, by decide +kernel, rfl, by decide +kernel, by decide +kernel⟩
def N_join_segment : List Str := ["points", "joins", "index", "cycle"]
abbrev s_join_segment : Stmt := topS 23
theorem sc_join_segment : FnScope ["points", "joins", "index", "cycle"] ["points", "joins", "index", "cycle"] (defScope s_join_segment) := ⟨rfl, rfl, rfl, by decide +kernel, rfl, by decide +kernel, by decide +kernel⟩
def N_join_points : List Str := ["points", "joins", "cycle", "join", "segments", "index"]
abbrev s_join_points : Stmt := topS 24
theorem sc_join_points : FnScope ["points", "joins", "cycle", "join", "segments", "index"] ["points", "joins", "cycle"] (defScope s_join_points) := ⟨rfl, rfl, rfl, by decide +kernel, rfl, by decide +kernel, by decide +kernel⟩
def N__law_cell : List Str := ["_law_script", "_law_k"]
abbrev s__law_cell : Stmt := topS 26
theorem sc__law_cell : FnScope ["_law_script", "_law_k"] ["_law_script", "_law_k"] (defScope s__law_cell) := ⟨rfl, rfl, rfl, by decide +kernel, rfl, by decide +kernel, by decide +kernel⟩
def N__law_stream : List Str := ["_law_cell_here"]
abbrev s__law_stream : Stmt := topS 27
theorem sc__law_stream : FnScope ["_law_cell_here"] ["_law_cell_here"] (defScope s__law_stream) := ⟨rfl, rfl, rfl, by decide +kernel, rfl, by decide +kernel, by decide +kernel⟩
def N__law_next : List Str := ["_law_stream_here", "_law_size", "_law_drawn", "_law_mixed"]
abbrev s__law_next : Stmt := topS 28
theorem sc__law_next : FnScope ["_law_stream_here", "_law_size", "_law_drawn", "_law_mixed"] ["_law_stream_here", "_law_size"] (defScope s__law_next) := ⟨rfl, rfl, rfl, by decide +kernel, rfl, by decide +kernel, by decide +kernel⟩
def N__law_is_integer : List Str := ["_law_actual"]
abbrev s__law_is_integer : Stmt := topS 29
theorem sc__law_is_integer : FnScope ["_law_actual"] ["_law_actual"] (defScope s__law_is_integer) := ⟨rfl, rfl, rfl, by decide +kernel, rfl, by decide +kernel, by decide +kernel⟩
def N__law_ratio : List Str := ["_law_n", "_law_d", "_law_a", "_law_b", "_law_k"]
abbrev s__law_ratio : Stmt := topS 30
theorem sc__law_ratio : FnScope ["_law_n", "_law_d", "_law_a", "_law_b", "_law_k"] ["_law_n", "_law_d"] (defScope s__law_ratio) := ⟨rfl, rfl, rfl, by decide +kernel, rfl, by decide +kernel, by decide +kernel⟩
def N__law_is_number : List Str := ["_law_actual"]
abbrev s__law_is_number : Stmt := topS 31
theorem sc__law_is_number : FnScope ["_law_actual"] ["_law_actual"] (defScope s__law_is_number) := ⟨rfl, rfl, rfl, by decide +kernel, rfl, by decide +kernel, by decide +kernel⟩
def N__law_sum : List Str := ["_law_a", "_law_b"]
abbrev s__law_sum : Stmt := topS 32
theorem sc__law_sum : FnScope ["_law_a", "_law_b"] ["_law_a", "_law_b"] (defScope s__law_sum) := ⟨rfl, rfl, rfl, by decide +kernel, rfl, by decide +kernel, by decide +kernel⟩
def N__law_difference : List Str := ["_law_a", "_law_b"]
abbrev s__law_difference : Stmt := topS 33
theorem sc__law_difference : FnScope ["_law_a", "_law_b"] ["_law_a", "_law_b"] (defScope s__law_difference) := ⟨rfl, rfl, rfl, by decide +kernel, rfl, by decide +kernel, by decide +kernel⟩
def N__law_product : List Str := ["_law_a", "_law_b"]
abbrev s__law_product : Stmt := topS 34
theorem sc__law_product : FnScope ["_law_a", "_law_b"] ["_law_a", "_law_b"] (defScope s__law_product) := ⟨rfl, rfl, rfl, by decide +kernel, rfl, by decide +kernel, by decide +kernel⟩
def N__law_applied : List Str := ["_law_transform", "_law_point_here", "_law_tx", "_law_ty", "_law_xx", "_law_xy", "_law_yx", "_law_yy", "_law_x", "_law_y", "_law_new_x"]
abbrev s__law_applied : Stmt := topS 35
theorem sc__law_applied : FnScope ["_law_transform", "_law_point_here", "_law_tx", "_law_ty", "_law_xx", "_law_xy", "_law_yx", "_law_yy", "_law_x", "_law_y", "_law_new_x"] ["_law_transform", "_law_point_here"] (defScope s__law_applied) := ⟨rfl, rfl, rfl, by decide +kernel, rfl, by decide +kernel, by decide +kernel⟩
def N__law_small : List Str := ["_law_stream_here"]
abbrev s__law_small : Stmt := topS 36
theorem sc__law_small : FnScope ["_law_stream_here"] ["_law_stream_here"] (defScope s__law_small) := ⟨rfl, rfl, rfl, by decide +kernel, rfl, by decide +kernel, by decide +kernel⟩
def N__law_point : List Str := ["_law_stream_here", "_law_x"]
abbrev s__law_point : Stmt := topS 37
theorem sc__law_point : FnScope ["_law_stream_here", "_law_x"] ["_law_stream_here"] (defScope s__law_point) := ⟨rfl, rfl, rfl, by decide +kernel, rfl, by decide +kernel, by decide +kernel⟩
def N__law_is_point : List Str := ["_law_actual"]
abbrev s__law_is_point : Stmt := topS 38
theorem sc__law_is_point : FnScope ["_law_actual"] ["_law_actual"] (defScope s__law_is_point) := ⟨rfl, rfl, rfl, by decide +kernel, rfl, by decide +kernel, by decide +kernel⟩
def N__law_minus : List Str := ["_law_p", "_law_q"]
abbrev s__law_minus : Stmt := topS 39
theorem sc__law_minus : FnScope ["_law_p", "_law_q"] ["_law_p", "_law_q"] (defScope s__law_minus) := ⟨rfl, rfl, rfl, by decide +kernel, rfl, by decide +kernel, by decide +kernel⟩
def N__law_moved : List Str := ["_law_p", "_law_q", "_law_number"]
abbrev s__law_moved : Stmt := topS 40
theorem sc__law_moved : FnScope ["_law_p", "_law_q", "_law_number"] ["_law_p", "_law_q", "_law_number"] (defScope s__law_moved) := ⟨rfl, rfl, rfl, by decide +kernel, rfl, by decide +kernel, by decide +kernel⟩
def N__law_direction : List Str := ["_law_points", "_law_joins_here", "_law_at", "_law_is_cycle", "_law_count", "_law_before", "_law_double"]
abbrev s__law_direction : Stmt := topS 41
theorem sc__law_direction : FnScope ["_law_points", "_law_joins_here", "_law_at", "_law_is_cycle", "_law_count", "_law_before", "_law_double"] ["_law_points", "_law_joins_here", "_law_at", "_law_is_cycle"] (defScope s__law_direction) := ⟨rfl, rfl, rfl, by decide +kernel, rfl, by decide +kernel, by decide +kernel⟩
def N__law_segment : List Str := ["_law_points", "_law_joins_here", "_law_k", "_law_is_cycle", "_law_a", "_law_b", "_law_leaving", "_law_end", "_law_coming", "_law_tension", "_law_factor"]
abbrev s__law_segment : Stmt := topS 42
theorem sc__law_segment : FnScope ["_law_points", "_law_joins_here", "_law_k", "_law_is_cycle", "_law_a", "_law_b", "_law_leaving", "_law_end", "_law_coming", "_law_tension", "_law_factor"] ["_law_points", "_law_joins_here", "_law_k", "_law_is_cycle"] (defScope s__law_segment) := ⟨rfl, rfl, rfl, by decide +kernel, rfl, by decide +kernel, by decide +kernel⟩
def N__law_joins : List Str := ["_law_stream_here", "_law_many", "_law_joins_here", "_law_k", "_law_kind", "_law_first"]
abbrev s__law_joins : Stmt := topS 43
theorem sc__law_joins : FnScope ["_law_stream_here", "_law_many", "_law_joins_here", "_law_k", "_law_kind", "_law_first"] ["_law_stream_here", "_law_many"] (defScope s__law_joins) := ⟨rfl, rfl, rfl, by decide +kernel, rfl, by decide +kernel, by decide +kernel⟩
def N__law_refused : List Str := ["_law_points", "_law_joins_here", "_law_is_cycle", "e"]
abbrev s__law_refused : Stmt := topS 44
theorem sc__law_refused : FnScope ["_law_points", "_law_joins_here", "_law_is_cycle", "e"] ["_law_points", "_law_joins_here", "_law_is_cycle"] (defScope s__law_refused) := ⟨rfl, rfl, rfl, by decide +kernel, rfl, by decide +kernel, by decide +kernel⟩
def N_law : List Str := ["_law_script", "_law_stream_here", "_law_count", "_law_is_cycle", "_law_points", "_law_k", "_law_joins_here", "_law_bad", "_law_segments", "_law_handed", "_law_actual"]
abbrev s_law : Stmt := topS 45
theorem sc_law : FnScope ["_law_script", "_law_stream_here", "_law_count", "_law_is_cycle", "_law_points", "_law_k", "_law_joins_here", "_law_bad", "_law_segments", "_law_handed", "_law_actual"] ["_law_script"] (defScope s_law) := ⟨rfl, rfl, rfl, by decide +kernel, rfl, by decide +kernel, by decide +kernel⟩
def fas : List Fc := [
  .he (.free "abs"),
  .he (.free "bool"),
  .he (.free "int"),
  .he (.free "isinstance"),
  .he (.free "len"),
  .he (.free "list"),
  .he (.free "range"),
  .he (.free "tuple"),
  .bfun "gcd" "math.gcd",
  .con "KNOT_LIMIT" (.int 24),
  .con "LEAST_TENSION" (.tup [.int 3, .int 4]),
  .con "LIMIT" (.int 1000000000000000000),
  .he (.glo "DivisionByZero"),
  .he (.exc "DivisionByZero"),
  .he (.glo "OutOfRange"),
  .he (.exc "OutOfRange"),
  .he (.glo "TooGreat"),
  .he (.exc "TooGreat"),
  .he (.glo "TooMany"),
  .he (.exc "TooMany"),
  .he (.glo "OutOfRange"),
  .catch_ "OutOfRange" [("DivisionByZero", false), ("OutOfRange", true), ("TooGreat", false), ("TooMany", false)],
  .he (.glo "TooMany"),
  .catch_ "TooMany" [("DivisionByZero", false), ("OutOfRange", false), ("TooGreat", false), ("TooMany", true)],
  .con "FontError" (.glo "FontError"),
  .kits [(("DivisionByZero", .inl "FontError"), true), (("OutOfRange", .inl "FontError"), true), (("TooGreat", .inl "FontError"), true), (("TooMany", .inl "FontError"), true)],
  .he (.glo "ratio"),
  .he (.glo "add"),
  .he (.glo "subtract"),
  .he (.glo "multiply"),
  .he (.glo "divide"),
  .he (.glo "compare"),
  .he (.glo "difference"),
  .he (.glo "scaled"),
  .he (.glo "is_smooth"),
  .he (.glo "direction"),
  .he (.glo "smooth_segment"),
  .he (.glo "join_segment"),
  .he (.glo "join_points"),
  .he (.glo "_law_cell"),
  .he (.glo "_law_stream"),
  .he (.glo "_law_next"),
  .he (.glo "_law_is_integer"),
  .he (.glo "_law_ratio"),
  .he (.glo "_law_is_number"),
  .he (.glo "_law_sum"),
  .he (.glo "_law_difference"),
  .he (.glo "_law_product"),
  .he (.glo "_law_applied"),
  .he (.glo "_law_small"),
  .he (.glo "_law_point"),
  .he (.glo "_law_is_point"),
  .he (.glo "_law_minus"),
  .he (.glo "_law_moved"),
  .he (.glo "_law_direction"),
  .he (.glo "_law_segment"),
  .he (.glo "_law_joins"),
  .he (.glo "_law_refused"),
  .he (.glo "law")]
def fns : List He.DefD := [
  ⟨("ratio", none), "ratio", "ratio", defArgs s_ratio, defBody s_ratio, defScope s_ratio, [], []⟩,
  ⟨("add", none), "add", "add", defArgs s_add, defBody s_add, defScope s_add, [], []⟩,
  ⟨("subtract", none), "subtract", "subtract", defArgs s_subtract, defBody s_subtract, defScope s_subtract, [], []⟩,
  ⟨("multiply", none), "multiply", "multiply", defArgs s_multiply, defBody s_multiply, defScope s_multiply, [], []⟩,
  ⟨("divide", none), "divide", "divide", defArgs s_divide, defBody s_divide, defScope s_divide, [], []⟩,
  ⟨("compare", none), "compare", "compare", defArgs s_compare, defBody s_compare, defScope s_compare, [], []⟩,
  ⟨("difference", none), "difference", "difference", defArgs s_difference, defBody s_difference, defScope s_difference, [], []⟩,
  ⟨("scaled", none), "scaled", "scaled", defArgs s_scaled, defBody s_scaled, defScope s_scaled, [], []⟩,
  ⟨("is_smooth", none), "is_smooth", "is_smooth", defArgs s_is_smooth, defBody s_is_smooth, defScope s_is_smooth, [], []⟩,
  ⟨("direction", none), "direction", "direction", defArgs s_direction, defBody s_direction, defScope s_direction, [], []⟩,
  ⟨("smooth_segment", none), "smooth_segment", "smooth_segment", defArgs s_smooth_segment, defBody s_smooth_segment, defScope s_smooth_segment, [], []⟩,
  ⟨("join_segment", none), "join_segment", "join_segment", defArgs s_join_segment, defBody s_join_segment, defScope s_join_segment, [], []⟩,
  ⟨("join_points", none), "join_points", "join_points", defArgs s_join_points, defBody s_join_points, defScope s_join_points, [], [("cycle", .bl false)]⟩,
  ⟨("_law_cell", none), "_law_cell", "_law_cell", defArgs s__law_cell, defBody s__law_cell, defScope s__law_cell, [], []⟩,
  ⟨("_law_stream", none), "_law_stream", "_law_stream", defArgs s__law_stream, defBody s__law_stream, defScope s__law_stream, [], []⟩,
  ⟨("_law_next", none), "_law_next", "_law_next", defArgs s__law_next, defBody s__law_next, defScope s__law_next, [], []⟩,
  ⟨("_law_is_integer", none), "_law_is_integer", "_law_is_integer", defArgs s__law_is_integer, defBody s__law_is_integer, defScope s__law_is_integer, [], []⟩,
  ⟨("_law_ratio", none), "_law_ratio", "_law_ratio", defArgs s__law_ratio, defBody s__law_ratio, defScope s__law_ratio, [], []⟩,
  ⟨("_law_is_number", none), "_law_is_number", "_law_is_number", defArgs s__law_is_number, defBody s__law_is_number, defScope s__law_is_number, [], []⟩,
  ⟨("_law_sum", none), "_law_sum", "_law_sum", defArgs s__law_sum, defBody s__law_sum, defScope s__law_sum, [], []⟩,
  ⟨("_law_difference", none), "_law_difference", "_law_difference", defArgs s__law_difference, defBody s__law_difference, defScope s__law_difference, [], []⟩,
  ⟨("_law_product", none), "_law_product", "_law_product", defArgs s__law_product, defBody s__law_product, defScope s__law_product, [], []⟩,
  ⟨("_law_applied", none), "_law_applied", "_law_applied", defArgs s__law_applied, defBody s__law_applied, defScope s__law_applied, [], []⟩,
  ⟨("_law_small", none), "_law_small", "_law_small", defArgs s__law_small, defBody s__law_small, defScope s__law_small, [], []⟩,
  ⟨("_law_point", none), "_law_point", "_law_point", defArgs s__law_point, defBody s__law_point, defScope s__law_point, [], []⟩,
  ⟨("_law_is_point", none), "_law_is_point", "_law_is_point", defArgs s__law_is_point, defBody s__law_is_point, defScope s__law_is_point, [], []⟩,
  ⟨("_law_minus", none), "_law_minus", "_law_minus", defArgs s__law_minus, defBody s__law_minus, defScope s__law_minus, [], []⟩,
  ⟨("_law_moved", none), "_law_moved", "_law_moved", defArgs s__law_moved, defBody s__law_moved, defScope s__law_moved, [], []⟩,
  ⟨("_law_direction", none), "_law_direction", "_law_direction", defArgs s__law_direction, defBody s__law_direction, defScope s__law_direction, [], []⟩,
  ⟨("_law_segment", none), "_law_segment", "_law_segment", defArgs s__law_segment, defBody s__law_segment, defScope s__law_segment, [], []⟩,
  ⟨("_law_joins", none), "_law_joins", "_law_joins", defArgs s__law_joins, defBody s__law_joins, defScope s__law_joins, [], []⟩,
  ⟨("_law_refused", none), "_law_refused", "_law_refused", defArgs s__law_refused, defBody s__law_refused, defScope s__law_refused, [], []⟩,
  ⟨("law", none), "law", "law", defArgs s_law, defBody s_law, defScope s_law, [], []⟩]
structure Tx (K : PySem.W.Frag) (mg : Str → Option Value) : Prop where
  m_abs : mg "abs" = none
  m_bool : mg "bool" = none
  m_int : mg "int" = none
  m_isinstance : mg "isinstance" = none
  m_len : mg "len" = none
  m_list : mg "list" = none
  m_range : mg "range" = none
  m_tuple : mg "tuple" = none
  b_gcd : mg "gcd" = some (.builtin "math.gcd")
  c_KNOT_LIMIT : ∃ u, mg "KNOT_LIMIT" = some u ∧ GloV K u (.int 24)
  c_LEAST_TENSION : ∃ u, mg "LEAST_TENSION" = some u ∧ GloV K u (.tup [.int 3, .int 4])
  c_LIMIT : ∃ u, mg "LIMIT" = some u ∧ GloV K u (.int 1000000000000000000)
  e_DivisionByZero : ExcF K mg "DivisionByZero"
  e_OutOfRange : ExcF K mg "OutOfRange"
  e_TooGreat : ExcF K mg "TooGreat"
  e_TooMany : ExcF K mg "TooMany"
  k_OutOfRange : mg "OutOfRange" = some (.ref (He.ga K "OutOfRange"))
  x_OutOfRange : Catch K (.ref (He.ga K "OutOfRange")) m_OutOfRange
  k_TooMany : mg "TooMany" = some (.ref (He.ga K "TooMany"))
  x_TooMany : Catch K (.ref (He.ga K "TooMany")) m_TooMany
  v_FontError : ∃ u, mg "FontError" = some u ∧ GloV K u (.glo "FontError")
  kt : KitE K kitm
  F_ratio : ∃ fd, FunD K "ratio" "ratio" (defArgs s_ratio) (defBody s_ratio) (defScope s_ratio) [] [] (He.ga K "ratio") fd
  g_ratio : mg "ratio" = some (.ref (He.ga K "ratio"))
  F_add : ∃ fd, FunD K "add" "add" (defArgs s_add) (defBody s_add) (defScope s_add) [] [] (He.ga K "add") fd
  g_add : mg "add" = some (.ref (He.ga K "add"))
  F_subtract : ∃ fd, FunD K "subtract" "subtract" (defArgs s_subtract) (defBody s_subtract) (defScope s_subtract) [] [] (He.ga K "subtract") fd
  g_subtract : mg "subtract" = some (.ref (He.ga K "subtract"))
  F_multiply : ∃ fd, FunD K "multiply" "multiply" (defArgs s_multiply) (defBody s_multiply) (defScope s_multiply) [] [] (He.ga K "multiply") fd
  g_multiply : mg "multiply" = some (.ref (He.ga K "multiply"))
  F_divide : ∃ fd, FunD K "divide" "divide" (defArgs s_divide) (defBody s_divide) (defScope s_divide) [] [] (He.ga K "divide") fd
  g_divide : mg "divide" = some (.ref (He.ga K "divide"))
  F_compare : ∃ fd, FunD K "compare" "compare" (defArgs s_compare) (defBody s_compare) (defScope s_compare) [] [] (He.ga K "compare") fd
  g_compare : mg "compare" = some (.ref (He.ga K "compare"))
  F_difference : ∃ fd, FunD K "difference" "difference" (defArgs s_difference) (defBody s_difference) (defScope s_difference) [] [] (He.ga K "difference") fd
  g_difference : mg "difference" = some (.ref (He.ga K "difference"))
  F_scaled : ∃ fd, FunD K "scaled" "scaled" (defArgs s_scaled) (defBody s_scaled) (defScope s_scaled) [] [] (He.ga K "scaled") fd
  g_scaled : mg "scaled" = some (.ref (He.ga K "scaled"))
  F_is_smooth : ∃ fd, FunD K "is_smooth" "is_smooth" (defArgs s_is_smooth) (defBody s_is_smooth) (defScope s_is_smooth) [] [] (He.ga K "is_smooth") fd
  g_is_smooth : mg "is_smooth" = some (.ref (He.ga K "is_smooth"))
  F_direction : ∃ fd, FunD K "direction" "direction" (defArgs s_direction) (defBody s_direction) (defScope s_direction) [] [] (He.ga K "direction") fd
  g_direction : mg "direction" = some (.ref (He.ga K "direction"))
  F_smooth_segment : ∃ fd, FunD K "smooth_segment" "smooth_segment" (defArgs s_smooth_segment) (defBody s_smooth_segment) (defScope s_smooth_segment) [] [] (He.ga K "smooth_segment") fd
  g_smooth_segment : mg "smooth_segment" = some (.ref (He.ga K "smooth_segment"))
  F_join_segment : ∃ fd, FunD K "join_segment" "join_segment" (defArgs s_join_segment) (defBody s_join_segment) (defScope s_join_segment) [] [] (He.ga K "join_segment") fd
  g_join_segment : mg "join_segment" = some (.ref (He.ga K "join_segment"))
  F_join_points : ∃ fd, FunD K "join_points" "join_points" (defArgs s_join_points) (defBody s_join_points) (defScope s_join_points) [] [("cycle", .bl false)] (He.ga K "join_points") fd
  g_join_points : mg "join_points" = some (.ref (He.ga K "join_points"))
  F__law_cell : ∃ fd, FunD K "_law_cell" "_law_cell" (defArgs s__law_cell) (defBody s__law_cell) (defScope s__law_cell) [] [] (He.ga K "_law_cell") fd
  g__law_cell : mg "_law_cell" = some (.ref (He.ga K "_law_cell"))
  F__law_stream : ∃ fd, FunD K "_law_stream" "_law_stream" (defArgs s__law_stream) (defBody s__law_stream) (defScope s__law_stream) [] [] (He.ga K "_law_stream") fd
  g__law_stream : mg "_law_stream" = some (.ref (He.ga K "_law_stream"))
  F__law_next : ∃ fd, FunD K "_law_next" "_law_next" (defArgs s__law_next) (defBody s__law_next) (defScope s__law_next) [] [] (He.ga K "_law_next") fd
  g__law_next : mg "_law_next" = some (.ref (He.ga K "_law_next"))
  F__law_is_integer : ∃ fd, FunD K "_law_is_integer" "_law_is_integer" (defArgs s__law_is_integer) (defBody s__law_is_integer) (defScope s__law_is_integer) [] [] (He.ga K "_law_is_integer") fd
  g__law_is_integer : mg "_law_is_integer" = some (.ref (He.ga K "_law_is_integer"))
  F__law_ratio : ∃ fd, FunD K "_law_ratio" "_law_ratio" (defArgs s__law_ratio) (defBody s__law_ratio) (defScope s__law_ratio) [] [] (He.ga K "_law_ratio") fd
  g__law_ratio : mg "_law_ratio" = some (.ref (He.ga K "_law_ratio"))
  F__law_is_number : ∃ fd, FunD K "_law_is_number" "_law_is_number" (defArgs s__law_is_number) (defBody s__law_is_number) (defScope s__law_is_number) [] [] (He.ga K "_law_is_number") fd
  g__law_is_number : mg "_law_is_number" = some (.ref (He.ga K "_law_is_number"))
  F__law_sum : ∃ fd, FunD K "_law_sum" "_law_sum" (defArgs s__law_sum) (defBody s__law_sum) (defScope s__law_sum) [] [] (He.ga K "_law_sum") fd
  g__law_sum : mg "_law_sum" = some (.ref (He.ga K "_law_sum"))
  F__law_difference : ∃ fd, FunD K "_law_difference" "_law_difference" (defArgs s__law_difference) (defBody s__law_difference) (defScope s__law_difference) [] [] (He.ga K "_law_difference") fd
  g__law_difference : mg "_law_difference" = some (.ref (He.ga K "_law_difference"))
  F__law_product : ∃ fd, FunD K "_law_product" "_law_product" (defArgs s__law_product) (defBody s__law_product) (defScope s__law_product) [] [] (He.ga K "_law_product") fd
  g__law_product : mg "_law_product" = some (.ref (He.ga K "_law_product"))
  F__law_applied : ∃ fd, FunD K "_law_applied" "_law_applied" (defArgs s__law_applied) (defBody s__law_applied) (defScope s__law_applied) [] [] (He.ga K "_law_applied") fd
  g__law_applied : mg "_law_applied" = some (.ref (He.ga K "_law_applied"))
  F__law_small : ∃ fd, FunD K "_law_small" "_law_small" (defArgs s__law_small) (defBody s__law_small) (defScope s__law_small) [] [] (He.ga K "_law_small") fd
  g__law_small : mg "_law_small" = some (.ref (He.ga K "_law_small"))
  F__law_point : ∃ fd, FunD K "_law_point" "_law_point" (defArgs s__law_point) (defBody s__law_point) (defScope s__law_point) [] [] (He.ga K "_law_point") fd
  g__law_point : mg "_law_point" = some (.ref (He.ga K "_law_point"))
  F__law_is_point : ∃ fd, FunD K "_law_is_point" "_law_is_point" (defArgs s__law_is_point) (defBody s__law_is_point) (defScope s__law_is_point) [] [] (He.ga K "_law_is_point") fd
  g__law_is_point : mg "_law_is_point" = some (.ref (He.ga K "_law_is_point"))
  F__law_minus : ∃ fd, FunD K "_law_minus" "_law_minus" (defArgs s__law_minus) (defBody s__law_minus) (defScope s__law_minus) [] [] (He.ga K "_law_minus") fd
  g__law_minus : mg "_law_minus" = some (.ref (He.ga K "_law_minus"))
  F__law_moved : ∃ fd, FunD K "_law_moved" "_law_moved" (defArgs s__law_moved) (defBody s__law_moved) (defScope s__law_moved) [] [] (He.ga K "_law_moved") fd
  g__law_moved : mg "_law_moved" = some (.ref (He.ga K "_law_moved"))
  F__law_direction : ∃ fd, FunD K "_law_direction" "_law_direction" (defArgs s__law_direction) (defBody s__law_direction) (defScope s__law_direction) [] [] (He.ga K "_law_direction") fd
  g__law_direction : mg "_law_direction" = some (.ref (He.ga K "_law_direction"))
  F__law_segment : ∃ fd, FunD K "_law_segment" "_law_segment" (defArgs s__law_segment) (defBody s__law_segment) (defScope s__law_segment) [] [] (He.ga K "_law_segment") fd
  g__law_segment : mg "_law_segment" = some (.ref (He.ga K "_law_segment"))
  F__law_joins : ∃ fd, FunD K "_law_joins" "_law_joins" (defArgs s__law_joins) (defBody s__law_joins) (defScope s__law_joins) [] [] (He.ga K "_law_joins") fd
  g__law_joins : mg "_law_joins" = some (.ref (He.ga K "_law_joins"))
  F__law_refused : ∃ fd, FunD K "_law_refused" "_law_refused" (defArgs s__law_refused) (defBody s__law_refused) (defScope s__law_refused) [] [] (He.ga K "_law_refused") fd
  g__law_refused : mg "_law_refused" = some (.ref (He.ga K "_law_refused"))
  F_law : ∃ fd, FunD K "law" "law" (defArgs s_law) (defBody s_law) (defScope s_law) [] [] (He.ga K "law") fd
  g_law : mg "law" = some (.ref (He.ga K "law"))
theorem tx_of {K : PySem.W.Frag} {h : Heap} {mg : Str → Option Value} (X : K.In h) (G : h.Ns mainGlobals mg) (c : SaysM fas fns K) : Tx K mg where
  m_abs := free_ok X G (c.fact 0 (f := .he (.free "abs")) rfl)
  m_bool := free_ok X G (c.fact 1 (f := .he (.free "bool")) rfl)
  m_int := free_ok X G (c.fact 2 (f := .he (.free "int")) rfl)
  m_isinstance := free_ok X G (c.fact 3 (f := .he (.free "isinstance")) rfl)
  m_len := free_ok X G (c.fact 4 (f := .he (.free "len")) rfl)
  m_list := free_ok X G (c.fact 5 (f := .he (.free "list")) rfl)
  m_range := free_ok X G (c.fact 6 (f := .he (.free "range")) rfl)
  m_tuple := free_ok X G (c.fact 7 (f := .he (.free "tuple")) rfl)
  b_gcd := bfun_ok X G (c.fact 8 (f := .bfun "gcd" "math.gcd") rfl)
  c_KNOT_LIMIT := con_ok X G (c.fact 9 (f := .con "KNOT_LIMIT" (.int 24)) rfl)
  c_LEAST_TENSION := con_ok X G (c.fact 10 (f := .con "LEAST_TENSION" (.tup [.int 3, .int 4])) rfl)
  c_LIMIT := con_ok X G (c.fact 11 (f := .con "LIMIT" (.int 1000000000000000000)) rfl)
  e_DivisionByZero := exc_ok X G (c.fact 12 (f := .he (.glo "DivisionByZero")) rfl) (c.fact 13 (f := .he (.exc "DivisionByZero")) rfl)
  e_OutOfRange := exc_ok X G (c.fact 14 (f := .he (.glo "OutOfRange")) rfl) (c.fact 15 (f := .he (.exc "OutOfRange")) rfl)
  e_TooGreat := exc_ok X G (c.fact 16 (f := .he (.glo "TooGreat")) rfl) (c.fact 17 (f := .he (.exc "TooGreat")) rfl)
  e_TooMany := exc_ok X G (c.fact 18 (f := .he (.glo "TooMany")) rfl) (c.fact 19 (f := .he (.exc "TooMany")) rfl)
  k_OutOfRange := glo_ok X G (c.fact 20 (f := .he (.glo "OutOfRange")) rfl)
  x_OutOfRange := catch_of (c.fact 21 (f := .catch_ "OutOfRange" [("DivisionByZero", false), ("OutOfRange", true), ("TooGreat", false), ("TooMany", false)]) rfl)
  k_TooMany := glo_ok X G (c.fact 22 (f := .he (.glo "TooMany")) rfl)
  x_TooMany := catch_of (c.fact 23 (f := .catch_ "TooMany" [("DivisionByZero", false), ("OutOfRange", false), ("TooGreat", false), ("TooMany", true)]) rfl)
  v_FontError := con_ok X G (c.fact 24 (f := .con "FontError" (.glo "FontError")) rfl)
  kt := kits_of (c.fact 25 (f := .kits [(("DivisionByZero", .inl "FontError"), true), (("OutOfRange", .inl "FontError"), true), (("TooGreat", .inl "FontError"), true), (("TooMany", .inl "FontError"), true)]) rfl)
  F_ratio := c.def_ 0 (d := ⟨("ratio", none), "ratio", "ratio", defArgs s_ratio, defBody s_ratio, defScope s_ratio, [], []⟩) rfl
  g_ratio := glo_ok X G (c.fact 26 (f := .he (.glo "ratio")) rfl)
  F_add := c.def_ 1 (d := ⟨("add", none), "add", "add", defArgs s_add, defBody s_add, defScope s_add, [], []⟩) rfl
  g_add := glo_ok X G (c.fact 27 (f := .he (.glo "add")) rfl)
  F_subtract := c.def_ 2 (d := ⟨("subtract", none), "subtract", "subtract", defArgs s_subtract, defBody s_subtract, defScope s_subtract, [], []⟩) rfl
  g_subtract := glo_ok X G (c.fact 28 (f := .he (.glo "subtract")) rfl)
  F_multiply := c.def_ 3 (d := ⟨("multiply", none), "multiply", "multiply", defArgs s_multiply, defBody s_multiply, defScope s_multiply, [], []⟩) rfl
  g_multiply := glo_ok X G (c.fact 29 (f := .he (.glo "multiply")) rfl)
  F_divide := c.def_ 4 (d := ⟨("divide", none), "divide", "divide", defArgs s_divide, defBody s_divide, defScope s_divide, [], []⟩) rfl
  g_divide := glo_ok X G (c.fact 30 (f := .he (.glo "divide")) rfl)
  F_compare := c.def_ 5 (d := ⟨("compare", none), "compare", "compare", defArgs s_compare, defBody s_compare, defScope s_compare, [], []⟩) rfl
  g_compare := glo_ok X G (c.fact 31 (f := .he (.glo "compare")) rfl)
  F_difference := c.def_ 6 (d := ⟨("difference", none), "difference", "difference", defArgs s_difference, defBody s_difference, defScope s_difference, [], []⟩) rfl
  g_difference := glo_ok X G (c.fact 32 (f := .he (.glo "difference")) rfl)
  F_scaled := c.def_ 7 (d := ⟨("scaled", none), "scaled", "scaled", defArgs s_scaled, defBody s_scaled, defScope s_scaled, [], []⟩) rfl
  g_scaled := glo_ok X G (c.fact 33 (f := .he (.glo "scaled")) rfl)
  F_is_smooth := c.def_ 8 (d := ⟨("is_smooth", none), "is_smooth", "is_smooth", defArgs s_is_smooth, defBody s_is_smooth, defScope s_is_smooth, [], []⟩) rfl
  g_is_smooth := glo_ok X G (c.fact 34 (f := .he (.glo "is_smooth")) rfl)
  F_direction := c.def_ 9 (d := ⟨("direction", none), "direction", "direction", defArgs s_direction, defBody s_direction, defScope s_direction, [], []⟩) rfl
  g_direction := glo_ok X G (c.fact 35 (f := .he (.glo "direction")) rfl)
  F_smooth_segment := c.def_ 10 (d := ⟨("smooth_segment", none), "smooth_segment", "smooth_segment", defArgs s_smooth_segment, defBody s_smooth_segment, defScope s_smooth_segment, [], []⟩) rfl
  g_smooth_segment := glo_ok X G (c.fact 36 (f := .he (.glo "smooth_segment")) rfl)
  F_join_segment := c.def_ 11 (d := ⟨("join_segment", none), "join_segment", "join_segment", defArgs s_join_segment, defBody s_join_segment, defScope s_join_segment, [], []⟩) rfl
  g_join_segment := glo_ok X G (c.fact 37 (f := .he (.glo "join_segment")) rfl)
  F_join_points := c.def_ 12 (d := ⟨("join_points", none), "join_points", "join_points", defArgs s_join_points, defBody s_join_points, defScope s_join_points, [], [("cycle", .bl false)]⟩) rfl
  g_join_points := glo_ok X G (c.fact 38 (f := .he (.glo "join_points")) rfl)
  F__law_cell := c.def_ 13 (d := ⟨("_law_cell", none), "_law_cell", "_law_cell", defArgs s__law_cell, defBody s__law_cell, defScope s__law_cell, [], []⟩) rfl
  g__law_cell := glo_ok X G (c.fact 39 (f := .he (.glo "_law_cell")) rfl)
  F__law_stream := c.def_ 14 (d := ⟨("_law_stream", none), "_law_stream", "_law_stream", defArgs s__law_stream, defBody s__law_stream, defScope s__law_stream, [], []⟩) rfl
  g__law_stream := glo_ok X G (c.fact 40 (f := .he (.glo "_law_stream")) rfl)
  F__law_next := c.def_ 15 (d := ⟨("_law_next", none), "_law_next", "_law_next", defArgs s__law_next, defBody s__law_next, defScope s__law_next, [], []⟩) rfl
  g__law_next := glo_ok X G (c.fact 41 (f := .he (.glo "_law_next")) rfl)
  F__law_is_integer := c.def_ 16 (d := ⟨("_law_is_integer", none), "_law_is_integer", "_law_is_integer", defArgs s__law_is_integer, defBody s__law_is_integer, defScope s__law_is_integer, [], []⟩) rfl
  g__law_is_integer := glo_ok X G (c.fact 42 (f := .he (.glo "_law_is_integer")) rfl)
  F__law_ratio := c.def_ 17 (d := ⟨("_law_ratio", none), "_law_ratio", "_law_ratio", defArgs s__law_ratio, defBody s__law_ratio, defScope s__law_ratio, [], []⟩) rfl
  g__law_ratio := glo_ok X G (c.fact 43 (f := .he (.glo "_law_ratio")) rfl)
  F__law_is_number := c.def_ 18 (d := ⟨("_law_is_number", none), "_law_is_number", "_law_is_number", defArgs s__law_is_number, defBody s__law_is_number, defScope s__law_is_number, [], []⟩) rfl
  g__law_is_number := glo_ok X G (c.fact 44 (f := .he (.glo "_law_is_number")) rfl)
  F__law_sum := c.def_ 19 (d := ⟨("_law_sum", none), "_law_sum", "_law_sum", defArgs s__law_sum, defBody s__law_sum, defScope s__law_sum, [], []⟩) rfl
  g__law_sum := glo_ok X G (c.fact 45 (f := .he (.glo "_law_sum")) rfl)
  F__law_difference := c.def_ 20 (d := ⟨("_law_difference", none), "_law_difference", "_law_difference", defArgs s__law_difference, defBody s__law_difference, defScope s__law_difference, [], []⟩) rfl
  g__law_difference := glo_ok X G (c.fact 46 (f := .he (.glo "_law_difference")) rfl)
  F__law_product := c.def_ 21 (d := ⟨("_law_product", none), "_law_product", "_law_product", defArgs s__law_product, defBody s__law_product, defScope s__law_product, [], []⟩) rfl
  g__law_product := glo_ok X G (c.fact 47 (f := .he (.glo "_law_product")) rfl)
  F__law_applied := c.def_ 22 (d := ⟨("_law_applied", none), "_law_applied", "_law_applied", defArgs s__law_applied, defBody s__law_applied, defScope s__law_applied, [], []⟩) rfl
  g__law_applied := glo_ok X G (c.fact 48 (f := .he (.glo "_law_applied")) rfl)
  F__law_small := c.def_ 23 (d := ⟨("_law_small", none), "_law_small", "_law_small", defArgs s__law_small, defBody s__law_small, defScope s__law_small, [], []⟩) rfl
  g__law_small := glo_ok X G (c.fact 49 (f := .he (.glo "_law_small")) rfl)
  F__law_point := c.def_ 24 (d := ⟨("_law_point", none), "_law_point", "_law_point", defArgs s__law_point, defBody s__law_point, defScope s__law_point, [], []⟩) rfl
  g__law_point := glo_ok X G (c.fact 50 (f := .he (.glo "_law_point")) rfl)
  F__law_is_point := c.def_ 25 (d := ⟨("_law_is_point", none), "_law_is_point", "_law_is_point", defArgs s__law_is_point, defBody s__law_is_point, defScope s__law_is_point, [], []⟩) rfl
  g__law_is_point := glo_ok X G (c.fact 51 (f := .he (.glo "_law_is_point")) rfl)
  F__law_minus := c.def_ 26 (d := ⟨("_law_minus", none), "_law_minus", "_law_minus", defArgs s__law_minus, defBody s__law_minus, defScope s__law_minus, [], []⟩) rfl
  g__law_minus := glo_ok X G (c.fact 52 (f := .he (.glo "_law_minus")) rfl)
  F__law_moved := c.def_ 27 (d := ⟨("_law_moved", none), "_law_moved", "_law_moved", defArgs s__law_moved, defBody s__law_moved, defScope s__law_moved, [], []⟩) rfl
  g__law_moved := glo_ok X G (c.fact 53 (f := .he (.glo "_law_moved")) rfl)
  F__law_direction := c.def_ 28 (d := ⟨("_law_direction", none), "_law_direction", "_law_direction", defArgs s__law_direction, defBody s__law_direction, defScope s__law_direction, [], []⟩) rfl
  g__law_direction := glo_ok X G (c.fact 54 (f := .he (.glo "_law_direction")) rfl)
  F__law_segment := c.def_ 29 (d := ⟨("_law_segment", none), "_law_segment", "_law_segment", defArgs s__law_segment, defBody s__law_segment, defScope s__law_segment, [], []⟩) rfl
  g__law_segment := glo_ok X G (c.fact 55 (f := .he (.glo "_law_segment")) rfl)
  F__law_joins := c.def_ 30 (d := ⟨("_law_joins", none), "_law_joins", "_law_joins", defArgs s__law_joins, defBody s__law_joins, defScope s__law_joins, [], []⟩) rfl
  g__law_joins := glo_ok X G (c.fact 56 (f := .he (.glo "_law_joins")) rfl)
  F__law_refused := c.def_ 31 (d := ⟨("_law_refused", none), "_law_refused", "_law_refused", defArgs s__law_refused, defBody s__law_refused, defScope s__law_refused, [], []⟩) rfl
  g__law_refused := glo_ok X G (c.fact 57 (f := .he (.glo "_law_refused")) rfl)
  F_law := c.def_ 32 (d := ⟨("law", none), "law", "law", defArgs s_law, defBody s_law, defScope s_law, [], []⟩) rfl
  g_law := glo_ok X G (c.fact 58 (f := .he (.glo "law")) rfl)
set_option maxHeartbeats 40000000
theorem ok_ratio {P : Program} {w : World} {K : PySem.W.Frag} {mg : Str → Option Value} {base : Heap} (T : Tx K mg) :
    Callee P w K mg base "ratio" 1 ["n", "d"] sp_ratio := by
  obtain ⟨fd, F⟩ := T.F_ratio
  refine ⟨⟨fd, fn_ok F sc_ratio (d := r_ratio) (fun cdv A outer s H E hr tk po => ?_) p_ratio, bindsD F fun _ _ _ _ _ _ us hl => match us, hl with | [_, _], _ => rfl⟩, T.g_ratio, F.kp⟩
  delta r_ratio r_ratio_1 r_ratio_2 r_ratio_3 r_ratio_4 r_ratio_5 r_ratio_6 r_ratio_5t r_ratio_1t r_ratio_1t_1 r_ratio_0t
  exact dss_cons (ds_if (dt_cmp (do_eq hr.units) (dv 1) (de_int)) (dss_one (ds_raise tk T.e_DivisionByZero)) (dss_nil)) (dss_cons (ds_if (dt_cmp do_lt (dv 1) (de_int)) (dss_cons (ds_set 0 sc_ratio.nd (de_neg (dv 0))) (dss_one (ds_set 1 sc_ratio.nd (de_neg (dv 1))))) (dss_nil)) (dss_cons (ds_set 2 sc_ratio.nd (de_callBf dc_gcd T.b_gcd (da_cons (dv 0) (da_cons (dv 1) (da_nil))))) (dss_cons (ds_set 0 sc_ratio.nd (de_op do_div (dv 0) (dv 2))) (dss_cons (ds_set 1 sc_ratio.nd (de_op do_div (dv 1) (dv 2))) (dss_cons (ds_if (DW.dt (dw_or (dt_cmp do_lt (dv 0) (de_neg (de_con T.c_LIMIT))) (dw_or (dt_cmp do_gt (dv 0) (de_con T.c_LIMIT)) (dw_or1 (dt_cmp do_gt (dv 1) (de_con T.c_LIMIT)))))) (dss_one (ds_raise tk T.e_TooGreat)) (dss_nil)) (dss_one (ds_ret (de_tup (da_cons (dv 0) (da_cons (dv 1) (da_nil)))))))))))
theorem ok_add {P : Program} {w : World} {K : PySem.W.Frag} {mg : Str → Option Value} {base : Heap} (T : Tx K mg) (c_ratio : Callee P w K mg base "ratio" 1 ["n", "d"] sp_ratio) :
    Callee P w K mg base "add" 2 ["a", "b"] sp_add := by
  obtain ⟨fd, F⟩ := T.F_add
  refine ⟨⟨fd, fn_ok F sc_add (d := r_add) (fun cdv A outer s H E hr tk po => ?_) p_add, bindsD F fun _ _ _ _ _ _ us hl => match us, hl with | [_, _], _ => rfl⟩, T.g_add, F.kp⟩
  have hrc_ratio := hr.mono (j := 1) (by decide)
  delta r_add
  exact dss_one (ds_ret (de_call c_ratio hrc_ratio tk (da_cons (de_op do_add (de_op do_mul (de_ix (dv 0) (de_int)) (de_ix (dv 1) (de_int))) (de_op do_mul (de_ix (dv 1) (de_int)) (de_ix (dv 0) (de_int)))) (da_cons (de_op do_mul (de_ix (dv 0) (de_int)) (de_ix (dv 1) (de_int))) (da_nil)))))
theorem ok_subtract {P : Program} {w : World} {K : PySem.W.Frag} {mg : Str → Option Value} {base : Heap} (T : Tx K mg) (c_ratio : Callee P w K mg base "ratio" 1 ["n", "d"] sp_ratio) :
    Callee P w K mg base "subtract" 2 ["a", "b"] sp_subtract := by
  obtain ⟨fd, F⟩ := T.F_subtract
  refine ⟨⟨fd, fn_ok F sc_subtract (d := r_subtract) (fun cdv A outer s H E hr tk po => ?_) p_subtract, bindsD F fun _ _ _ _ _ _ us hl => match us, hl with | [_, _], _ => rfl⟩, T.g_subtract, F.kp⟩
  have hrc_ratio := hr.mono (j := 1) (by decide)
  delta r_subtract
  exact dss_one (ds_ret (de_call c_ratio hrc_ratio tk (da_cons (de_op do_sub (de_op do_mul (de_ix (dv 0) (de_int)) (de_ix (dv 1) (de_int))) (de_op do_mul (de_ix (dv 1) (de_int)) (de_ix (dv 0) (de_int)))) (da_cons (de_op do_mul (de_ix (dv 0) (de_int)) (de_ix (dv 1) (de_int))) (da_nil)))))
theorem ok_multiply {P : Program} {w : World} {K : PySem.W.Frag} {mg : Str → Option Value} {base : Heap} (T : Tx K mg) (c_ratio : Callee P w K mg base "ratio" 1 ["n", "d"] sp_ratio) :
    Callee P w K mg base "multiply" 2 ["a", "b"] sp_multiply := by
  obtain ⟨fd, F⟩ := T.F_multiply
  refine ⟨⟨fd, fn_ok F sc_multiply (d := r_multiply) (fun cdv A outer s H E hr tk po => ?_) p_multiply, bindsD F fun _ _ _ _ _ _ us hl => match us, hl with | [_, _], _ => rfl⟩, T.g_multiply, F.kp⟩
  have hrc_ratio := hr.mono (j := 1) (by decide)
  delta r_multiply
  exact dss_one (ds_ret (de_call c_ratio hrc_ratio tk (da_cons (de_op do_mul (de_ix (dv 0) (de_int)) (de_ix (dv 1) (de_int))) (da_cons (de_op do_mul (de_ix (dv 0) (de_int)) (de_ix (dv 1) (de_int))) (da_nil)))))
theorem ok_divide {P : Program} {w : World} {K : PySem.W.Frag} {mg : Str → Option Value} {base : Heap} (T : Tx K mg) (c_ratio : Callee P w K mg base "ratio" 1 ["n", "d"] sp_ratio) :
    Callee P w K mg base "divide" 2 ["a", "b"] sp_divide := by
  obtain ⟨fd, F⟩ := T.F_divide
  refine ⟨⟨fd, fn_ok F sc_divide (d := r_divide) (fun cdv A outer s H E hr tk po => ?_) p_divide, bindsD F fun _ _ _ _ _ _ us hl => match us, hl with | [_, _], _ => rfl⟩, T.g_divide, F.kp⟩
  have hrc_ratio := hr.mono (j := 1) (by decide)
  delta r_divide
  exact dss_one (ds_ret (de_call c_ratio hrc_ratio tk (da_cons (de_op do_mul (de_ix (dv 0) (de_int)) (de_ix (dv 1) (de_int))) (da_cons (de_op do_mul (de_ix (dv 0) (de_int)) (de_ix (dv 1) (de_int))) (da_nil)))))
theorem ok_compare {P : Program} {w : World} {K : PySem.W.Frag} {mg : Str → Option Value} {base : Heap} (T : Tx K mg) :
    Callee P w K mg base "compare" 1 ["a", "b"] sp_compare := by
  obtain ⟨fd, F⟩ := T.F_compare
  refine ⟨⟨fd, fn_ok F sc_compare (d := r_compare) (fun cdv A outer s H E hr tk po => ?_) p_compare, bindsD F fun _ _ _ _ _ _ us hl => match us, hl with | [_, _], _ => rfl⟩, T.g_compare, F.kp⟩
  delta r_compare r_compare_1 r_compare_2 r_compare_3 r_compare_4 r_compare_3t r_compare_2t
  exact dss_cons (ds_set 2 sc_compare.nd (de_op do_mul (de_ix (dv 0) (de_int)) (de_ix (dv 1) (de_int)))) (dss_cons (ds_set 3 sc_compare.nd (de_op do_mul (de_ix (dv 1) (de_int)) (de_ix (dv 0) (de_int)))) (dss_cons (ds_if (dt_cmp do_lt (dv 2) (dv 3)) (dss_one (ds_ret (de_neg (de_int)))) (dss_nil)) (dss_cons (ds_if (dt_cmp do_gt (dv 2) (dv 3)) (dss_one (ds_ret (de_int))) (dss_nil)) (dss_one (ds_ret (de_int))))))
theorem ok_difference {P : Program} {w : World} {K : PySem.W.Frag} {mg : Str → Option Value} {base : Heap} (T : Tx K mg) (c_subtract : Callee P w K mg base "subtract" 2 ["a", "b"] sp_subtract) :
    Callee P w K mg base "difference" 3 ["p", "q"] sp_difference := by
  obtain ⟨fd, F⟩ := T.F_difference
  refine ⟨⟨fd, fn_ok F sc_difference (d := r_difference) (fun cdv A outer s H E hr tk po => ?_) p_difference, bindsD F fun _ _ _ _ _ _ us hl => match us, hl with | [_, _], _ => rfl⟩, T.g_difference, F.kp⟩
  have hrc_subtract := hr.mono (j := 2) (by decide)
  delta r_difference
  exact dss_one (ds_ret (de_tup (da_cons (de_call c_subtract hrc_subtract tk (da_cons (de_ix (dv 0) (de_int)) (da_cons (de_ix (dv 1) (de_int)) (da_nil)))) (da_cons (de_call c_subtract hrc_subtract tk (da_cons (de_ix (dv 0) (de_int)) (da_cons (de_ix (dv 1) (de_int)) (da_nil)))) (da_nil)))))
theorem ok_scaled {P : Program} {w : World} {K : PySem.W.Frag} {mg : Str → Option Value} {base : Heap} (T : Tx K mg) (c_multiply : Callee P w K mg base "multiply" 2 ["a", "b"] sp_multiply) :
    Callee P w K mg base "scaled" 3 ["p", "number"] sp_scaled := by
  obtain ⟨fd, F⟩ := T.F_scaled
  refine ⟨⟨fd, fn_ok F sc_scaled (d := r_scaled) (fun cdv A outer s H E hr tk po => ?_) p_scaled, bindsD F fun _ _ _ _ _ _ us hl => match us, hl with | [_, _], _ => rfl⟩, T.g_scaled, F.kp⟩
  have hrc_multiply := hr.mono (j := 2) (by decide)
  delta r_scaled
  exact dss_one (ds_ret (de_tup (da_cons (de_call c_multiply hrc_multiply tk (da_cons (dv 1) (da_cons (de_ix (dv 0) (de_int)) (da_nil)))) (da_cons (de_call c_multiply hrc_multiply tk (da_cons (dv 1) (da_cons (de_ix (dv 0) (de_int)) (da_nil)))) (da_nil)))))
theorem ok_is_smooth {P : Program} {w : World} {K : PySem.W.Frag} {mg : Str → Option Value} {base : Heap} (T : Tx K mg) :
    Callee P w K mg base "is_smooth" 1 ["join"] sp_is_smooth := by
  obtain ⟨fd, F⟩ := T.F_is_smooth
  refine ⟨⟨fd, fn_ok F sc_is_smooth (d := r_is_smooth) (fun cdv A outer s H E hr tk po => ?_) p_is_smooth, bindsD F fun _ _ _ _ _ _ us hl => match us, hl with | [_], _ => rfl⟩, T.g_is_smooth, F.kp⟩
  delta r_is_smooth
  exact dss_one (ds_ret (de_cmp (do_eq hr.units) (de_ix (dv 0) (de_int)) (de_str)))
theorem ok_direction {P : Program} {w : World} {K : PySem.W.Frag} {mg : Str → Option Value} {base : Heap} (T : Tx K mg) (c_scaled : Callee P w K mg base "scaled" 3 ["p", "number"] sp_scaled) (c_difference : Callee P w K mg base "difference" 3 ["p", "q"] sp_difference) (c_is_smooth : Callee P w K mg base "is_smooth" 1 ["join"] sp_is_smooth) :
    CalleeK P w K mg base "direction" 4 ["points", "joins", "index", "other", "chord"] sp_direction 3 ["other", "chord"] [] := by
  obtain ⟨fd, F⟩ := T.F_direction
  refine ⟨⟨fd, fn_ok F sc_direction (d := r_direction) (fun cdv A outer s H E hr tk po => ?_) p_direction, kb_of F fun _ _ _ _ _ _ us ws h1 h2 => match us, ws, h1, h2 with | [_, _, _], [_, _], _, _ => rfl, fun hd => absurd rfl hd⟩, T.g_direction, F.kp⟩
  have hrc_scaled := hr.mono (j := 3) (by decide)
  have hrc_difference := hr.mono (j := 3) (by decide)
  have hrc_is_smooth := hr.mono (j := 1) (by decide)
  delta r_direction r_direction_1 r_direction_2 r_direction_0t
  exact dss_cons (ds_if (DW.dt (dw_or (dt_isN (dv 2)) (dw_or1 (dt_not (dt_tru (de_call c_is_smooth hrc_is_smooth tk (da_cons (de_ix (dv 1) (dv 2)) (da_nil)))))))) (dss_one (ds_ret (dv 4))) (dss_nil)) (dss_cons (ds_asg (dv 3) (dg_tup rfl (dgs_cons (dg_name 5 sc_direction.nd) (dgs_cons (dg_name 6 sc_direction.nd) (dgs_nil))))) (dss_one (ds_ret (de_call c_scaled hrc_scaled tk (da_cons (de_call c_difference hrc_difference tk (da_cons (de_ix (dv 0) (dv 6)) (da_cons (de_ix (dv 0) (dv 5)) (da_nil)))) (da_cons (de_tup (da_cons (de_int) (da_cons (de_int) (da_nil)))) (da_nil)))))))
theorem ok_smooth_segment {P : Program} {w : World} {K : PySem.W.Frag} {mg : Str → Option Value} {base : Heap} (T : Tx K mg) (c_difference : Callee P w K mg base "difference" 3 ["p", "q"] sp_difference) (c_direction : CalleeK P w K mg base "direction" 4 ["points", "joins", "index", "other", "chord"] sp_direction 3 ["other", "chord"] []) (c_divide : Callee P w K mg base "divide" 2 ["a", "b"] sp_divide) (c_scaled : Callee P w K mg base "scaled" 3 ["p", "number"] sp_scaled) (c_multiply : Callee P w K mg base "multiply" 2 ["a", "b"] sp_multiply) (c_add : Callee P w K mg base "add" 2 ["a", "b"] sp_add) (c_subtract : Callee P w K mg base "subtract" 2 ["a", "b"] sp_subtract) :
    CalleeK P w K mg base "smooth_segment" 5 ["points", "joins", "index", "cycle"] sp_smooth_segment 3 ["cycle"] [] := by
  obtain ⟨fd, F⟩ := T.F_smooth_segment
  refine ⟨⟨fd, fn_ok F sc_smooth_segment (d := r_smooth_segment) (fun cdv A outer s H E hr tk po => ?_) p_smooth_segment, kb_of F fun _ _ _ _ _ _ us ws h1 h2 => match us, ws, h1, h2 with | [_, _, _], [_], _, _ => rfl, fun hd => absurd rfl hd⟩, T.g_smooth_segment, F.kp⟩
  have hrc_difference := hr.mono (j := 3) (by decide)
  have hrc_direction := hr.mono (j := 4) (by decide)
  have hrc_divide := hr.mono (j := 2) (by decide)
  have hrc_scaled := hr.mono (j := 3) (by decide)
  have hrc_multiply := hr.mono (j := 2) (by decide)
  have hrc_add := hr.mono (j := 2) (by decide)
  have hrc_subtract := hr.mono (j := 2) (by decide)
  delta r_smooth_segment r_smooth_segment_1 r_smooth_segment_2 r_smooth_segment_3 r_smooth_segment_4 r_smooth_segment_5 r_smooth_segment_6 r_smooth_segment_7 r_smooth_segment_8 r_smooth_segment_9 r_smooth_segment_10 r_smooth_segment_11 r_smooth_segment_12 r_smooth_segment_13 r_smooth_segment_14 r_smooth_segment_15 r_smooth_segment_16 r_smooth_segment_17 r_smooth_segment_9t r_smooth_segment_8e r_smooth_segment_8e_0t r_smooth_segment_8t r_smooth_segment_8t_1
  exact dss_cons (ds_set 4 sc_smooth_segment.nd (de_callB dc_len T.m_len boot_len (da_cons (dv 0) (da_nil)))) (dss_cons (ds_set 5 sc_smooth_segment.nd (dv 2)) (dss_cons (ds_set 6 sc_smooth_segment.nd (de_op do_mod (de_op do_add (dv 2) (de_int)) (dv 4))) (dss_cons (ds_set 7 sc_smooth_segment.nd (de_ix (dv 0) (dv 5))) (dss_cons (ds_set 8 sc_smooth_segment.nd (de_ix (dv 0) (dv 6))) (dss_cons (ds_set 9 sc_smooth_segment.nd (de_call c_difference hrc_difference tk (da_cons (dv 8) (da_cons (dv 7) (da_nil))))) (dss_cons (ds_set 10 sc_smooth_segment.nd (de_op do_sub (dv 2) (de_int))) (dss_cons (ds_set 11 sc_smooth_segment.nd (de_op do_add (dv 2) (de_int))) (dss_cons (ds_if (dt_tru (dv 3)) (dss_cons (ds_set 10 sc_smooth_segment.nd (de_op do_mod (dv 10) (de_callB dc_len T.m_len boot_len (da_cons (dv 1) (da_nil))))) (dss_one (ds_set 11 sc_smooth_segment.nd (de_op do_mod (dv 11) (de_callB dc_len T.m_len boot_len (da_cons (dv 1) (da_nil))))))) (dss_one (ds_if (dt_cmp do_lt (dv 10) (de_int)) (dss_one (ds_set 10 sc_smooth_segment.nd (de_non))) (dss_nil)))) (dss_cons (ds_if (dt_cmp (do_eq hr.units) (dv 11) (de_callB dc_len T.m_len boot_len (da_cons (dv 1) (da_nil)))) (dss_one (ds_set 11 sc_smooth_segment.nd (de_non))) (dss_nil)) (dss_cons (ds_set 12 sc_smooth_segment.nd (de_callK (ks := ["other", "chord"]) c_direction hrc_direction tk (da_cons (dv 0) (da_cons (dv 1) (da_cons (dv 10) (da_nil)))) (dk_cons (de_tup (da_cons (de_op do_mod (de_op do_sub (dv 5) (de_int)) (dv 4)) (da_cons (dv 6) (da_nil)))) (dk_cons (dv 9) (dk_nil))))) (dss_cons (ds_set 13 sc_smooth_segment.nd (de_callK (ks := ["other", "chord"]) c_direction hrc_direction tk (da_cons (dv 0) (da_cons (dv 1) (da_cons (dv 11) (da_nil)))) (dk_cons (de_tup (da_cons (dv 5) (da_cons (de_op do_mod (de_op do_add (dv 6) (de_int)) (dv 4)) (da_nil)))) (dk_cons (dv 9) (dk_nil))))) (dss_cons (ds_set 14 sc_smooth_segment.nd (de_call c_divide hrc_divide tk (da_cons (de_tup (da_cons (de_int) (da_cons (de_int) (da_nil)))) (da_cons (de_call c_multiply hrc_multiply tk (da_cons (de_tup (da_cons (de_int) (da_cons (de_int) (da_nil)))) (da_cons (de_ix (de_ix (dv 1) (dv 2)) (de_int)) (da_nil)))) (da_nil))))) (dss_cons (ds_set 15 sc_smooth_segment.nd (de_call c_scaled hrc_scaled tk (da_cons (dv 12) (da_cons (dv 14) (da_nil))))) (dss_cons (ds_set 16 sc_smooth_segment.nd (de_tup (da_cons (de_call c_add hrc_add tk (da_cons (de_ix (dv 7) (de_int)) (da_cons (de_ix (dv 15) (de_int)) (da_nil)))) (da_cons (de_call c_add hrc_add tk (da_cons (de_ix (dv 7) (de_int)) (da_cons (de_ix (dv 15) (de_int)) (da_nil)))) (da_nil))))) (dss_cons (ds_set 15 sc_smooth_segment.nd (de_call c_scaled hrc_scaled tk (da_cons (dv 13) (da_cons (dv 14) (da_nil))))) (dss_cons (ds_set 17 sc_smooth_segment.nd (de_tup (da_cons (de_call c_subtract hrc_subtract tk (da_cons (de_ix (dv 8) (de_int)) (da_cons (de_ix (dv 15) (de_int)) (da_nil)))) (da_cons (de_call c_subtract hrc_subtract tk (da_cons (de_ix (dv 8) (de_int)) (da_cons (de_ix (dv 15) (de_int)) (da_nil)))) (da_nil))))) (dss_one (ds_ret (de_tup (da_cons (dv 16) (da_cons (dv 17) (da_nil))))))))))))))))))))))
theorem ok_join_segment {P : Program} {w : World} {K : PySem.W.Frag} {mg : Str → Option Value} {base : Heap} (T : Tx K mg) (c_is_smooth : Callee P w K mg base "is_smooth" 1 ["join"] sp_is_smooth) (c_smooth_segment : CalleeK P w K mg base "smooth_segment" 5 ["points", "joins", "index", "cycle"] sp_smooth_segment 3 ["cycle"] []) :
    CalleeK P w K mg base "join_segment" 6 ["points", "joins", "index", "cycle"] sp_join_segment 3 ["cycle"] [] := by
  obtain ⟨fd, F⟩ := T.F_join_segment
  refine ⟨⟨fd, fn_ok F sc_join_segment (d := r_join_segment) (fun cdv A outer s H E hr tk po => ?_) p_join_segment, kb_of F fun _ _ _ _ _ _ us ws h1 h2 => match us, ws, h1, h2 with | [_, _, _], [_], _, _ => rfl, fun hd => absurd rfl hd⟩, T.g_join_segment, F.kp⟩
  have hrc_is_smooth := hr.mono (j := 1) (by decide)
  have hrc_smooth_segment := hr.mono (j := 5) (by decide)
  delta r_join_segment r_join_segment_1 r_join_segment_2 r_join_segment_1t r_join_segment_0t
  exact dss_cons (ds_if (dt_cmp (do_eq hr.units) (de_ix (de_ix (dv 1) (dv 2)) (de_int)) (de_str)) (dss_one (ds_ret (de_tup (da_cons (de_ix (de_ix (dv 1) (dv 2)) (de_int)) (da_cons (de_ix (de_ix (dv 1) (dv 2)) (de_int)) (da_nil)))))) (dss_nil)) (dss_cons (ds_if (dt_tru (de_call c_is_smooth hrc_is_smooth tk (da_cons (de_ix (dv 1) (dv 2)) (da_nil)))) (dss_one (ds_ret (de_callK (ks := ["cycle"]) c_smooth_segment hrc_smooth_segment tk (da_cons (dv 0) (da_cons (dv 1) (da_cons (dv 2) (da_nil)))) (dk_cons (dv 3) (dk_nil))))) (dss_nil)) (dss_one (ds_ret (de_non))))
theorem ok_join_points {P : Program} {w : World} {K : PySem.W.Frag} {mg : Str → Option Value} {base : Heap} (T : Tx K mg) (c_join_segment : CalleeK P w K mg base "join_segment" 6 ["points", "joins", "index", "cycle"] sp_join_segment 3 ["cycle"] []) (c_is_smooth : Callee P w K mg base "is_smooth" 1 ["join"] sp_is_smooth) (c_compare : Callee P w K mg base "compare" 1 ["a", "b"] sp_compare) :
    CalleeK P w K mg base "join_points" 7 ["points", "joins", "cycle"] sp_join_points 2 ["cycle"] [.bl false] := by
  obtain ⟨fd, F⟩ := T.F_join_points
  refine ⟨⟨fd, fn_ok F sc_join_points (d := r_join_points) (fun cdv A outer s H E hr tk po => ?_) p_join_points, kb_of F fun _ _ _ _ _ _ us ws h1 h2 => match us, ws, h1, h2 with | [_, _], [_], _, _ => rfl, fun _ => FunD.binds0 F 2 (by simp) rfl fun D doc pm an cdv ct us ks h1 h2 => match us, ks, h1, h2 with | [_, _], [_], _, _ => ⟨_, _, _, _, _, _, rfl, rfl, rfl⟩⟩, T.g_join_points, F.kp⟩
  have hrc_join_segment := hr.mono (j := 6) (by decide)
  have hrc_is_smooth := hr.mono (j := 1) (by decide)
  have hrc_compare := hr.mono (j := 1) (by decide)
  delta r_join_points r_join_points_1 r_join_points_2 r_join_points_3 r_join_points_1b r_join_points_1b_0t r_join_points_0t
  exact dss_cons (ds_if (dt_cmp do_gt (de_callB dc_len T.m_len boot_len (da_cons (dv 0) (da_nil))) (de_con T.c_KNOT_LIMIT)) (dss_one (ds_raise tk T.e_TooMany)) (dss_nil)) (dss_cons (ds_for po (di_seq (dv 1)) (dg_name 3 sc_join_points.nd) (dss_one (ds_if (DW.dt (dw_and (dt_tru (de_call c_is_smooth hrc_is_smooth tk (da_cons (dv 3) (da_nil)))) (dw_and1 (dt_cmp do_lt (de_call c_compare hrc_compare tk (da_cons (de_ix (dv 3) (de_int)) (da_cons (de_con T.c_LEAST_TENSION) (da_nil)))) (de_int))))) (dss_one (ds_raise tk T.e_OutOfRange)) (dss_nil)))) (dss_cons (ds_setLc (i := 4) (own := [("index", 5)]) rfl sc_join_points.nd rfl rfl (L2.sw_true rfl rfl rfl (by decide +kernel)) (di_rng1 T.m_range (da_cons (de_callB dc_len T.m_len boot_len (da_cons (dv 1) (da_nil))) (da_nil))) (L2.blkOk_by (N := N_join_points) (sc := defScope s_join_points) (by decide +kernel)) (fun _ _ _ _ _ => dgv_name 5 sc_join_points.nd) (fun _ _ _ _ _ => dts_nil) (fun _ _ _ _ _ => de_callK (ks := ["cycle"]) c_join_segment hrc_join_segment takes0 (da_cons (dv 0) (da_cons (dv 1) (da_cons (dv 5) (da_nil)))) (dk_cons (dv 2) (dk_nil)))) (dss_one (ds_ret (de_tup (da_cons (de_callTy dc_tuple T.m_tuple (by decide +kernel) (da_cons (dv 0) (da_nil))) (da_cons (de_callTy dc_tuple T.m_tuple (by decide +kernel) (da_cons (dv 4) (da_nil))) (da_cons (dv 2) (da_nil)))))))))
theorem ok__law_cell {P : Program} {w : World} {K : PySem.W.Frag} {mg : Str → Option Value} {base : Heap} (T : Tx K mg) :
    Callee P w K mg base "_law_cell" 1 ["_law_script", "_law_k"] sp__law_cell := by
  obtain ⟨fd, F⟩ := T.F__law_cell
  refine ⟨⟨fd, fn_ok F sc__law_cell (d := r__law_cell) (fun cdv A outer s H E hr tk po => ?_) p__law_cell, bindsD F fun _ _ _ _ _ _ us hl => match us, hl with | [_, _], _ => rfl⟩, T.g__law_cell, F.kp⟩
  delta r__law_cell r__law_cell_1 r__law_cell_0t
  exact dss_cons (ds_if (dt_cmp do_lt (dv 1) (de_callB dc_len T.m_len boot_len (da_cons (dv 0) (da_nil)))) (dss_one (ds_ret (de_ix (dv 0) (dv 1)))) (dss_nil)) (dss_one (ds_ret (de_int)))
theorem ok__law_stream {P : Program} {w : World} {K : PySem.W.Frag} {mg : Str → Option Value} {base : Heap} (T : Tx K mg) :
    Callee P w K mg base "_law_stream" 1 ["_law_cell_here"] sp__law_stream := by
  obtain ⟨fd, F⟩ := T.F__law_stream
  refine ⟨⟨fd, fn_ok F sc__law_stream (d := r__law_stream) (fun cdv A outer s H E hr tk po => ?_) p__law_stream, bindsD F fun _ _ _ _ _ _ us hl => match us, hl with | [_], _ => rfl⟩, T.g__law_stream, F.kp⟩
  delta r__law_stream r__law_stream_1 r__law_stream_0t
  exact dss_cons (ds_if (dt_cmp do_ge (dv 0) (de_op do_pow (de_int) (de_int))) (dss_one (ds_ret (de_strm (da_cons (dv 0) (da_cons (de_int) (da_cons (de_op do_mod (de_callTy dc_int T.m_int (by decide +kernel) (da_cons (dv 0) (da_nil))) (de_int)) (da_nil))))))) (dss_nil)) (dss_one (ds_ret (de_strm (da_cons (de_int) (da_cons (de_int) (da_cons (de_op do_mod (de_callTy dc_int T.m_int (by decide +kernel) (da_cons (dv 0) (da_nil))) (de_int)) (da_nil)))))))
theorem ok__law_next {P : Program} {w : World} {K : PySem.W.Frag} {mg : Str → Option Value} {base : Heap} (T : Tx K mg) :
    Callee P w K mg base "_law_next" 1 ["_law_stream_here", "_law_size"] sp__law_next := by
  obtain ⟨fd, F⟩ := T.F__law_next
  refine ⟨⟨fd, fn_ok F sc__law_next (d := r__law_next) (fun cdv A outer s H E hr tk po => ?_) p__law_next, bindsD F fun _ _ _ _ _ _ us hl => match us, hl with | [_, _], _ => rfl⟩, T.g__law_next, F.kp⟩
  delta r__law_next r__law_next_1 r__law_next_2 r__law_next_3 r__law_next_4 r__law_next_5 r__law_next_0t r__law_next_0t_1 r__law_next_0t_2
  exact dss_cons (ds_if (dt_cmp do_gt (de_ix (dv 0) (de_int)) (de_int)) (dss_cons (ds_set 2 sc__law_next.nd (de_op do_mod (de_callTy dc_int T.m_int (by decide +kernel) (da_cons (de_ix (dv 0) (de_int)) (da_nil))) (dv 1))) (dss_cons (ds_asg (de_op do_div (de_ix (dv 0) (de_int)) (dv 1)) (dg_sub (dv 0) (de_int))) (dss_one (ds_ret (dv 2))))) (dss_nil)) (dss_cons (ds_asg (de_op do_add (de_ix (dv 0) (de_int)) (de_int)) (dg_sub (dv 0) (de_int))) (dss_cons (ds_set 3 sc__law_next.nd (de_op do_mod (de_callTy dc_int T.m_int (by decide +kernel) (da_cons (de_op do_add (de_op do_mul (de_ix (dv 0) (de_int)) (de_int)) (de_op do_mul (de_ix (dv 0) (de_int)) (de_int))) (da_nil))) (de_int))) (dss_cons (ds_set 3 sc__law_next.nd (de_op do_mod (de_callTy dc_int T.m_int (by decide +kernel) (da_cons (de_op do_add (de_op do_mul (dv 3) (dv 3)) (de_op do_mul (de_ix (dv 0) (de_int)) (de_int))) (da_nil))) (de_int))) (dss_cons (ds_set 3 sc__law_next.nd (de_op do_mod (de_callTy dc_int T.m_int (by decide +kernel) (da_cons (de_op do_add (de_op do_mul (dv 3) (de_int)) (de_ix (dv 0) (de_int))) (da_nil))) (de_int))) (dss_one (ds_ret (de_op do_mod (de_callTy dc_int T.m_int (by decide +kernel) (da_cons (dv 3) (da_nil))) (dv 1))))))))
theorem ok__law_is_integer {P : Program} {w : World} {K : PySem.W.Frag} {mg : Str → Option Value} {base : Heap} (T : Tx K mg) :
    Callee P w K mg base "_law_is_integer" 1 ["_law_actual"] sp__law_is_integer := by
  obtain ⟨fd, F⟩ := T.F__law_is_integer
  refine ⟨⟨fd, fn_ok F sc__law_is_integer (d := r__law_is_integer) (fun cdv A outer s H E hr tk po => ?_) p__law_is_integer, bindsD F fun _ _ _ _ _ _ us hl => match us, hl with | [_], _ => rfl⟩, T.g__law_is_integer, F.kp⟩
  delta r__law_is_integer
  exact dss_one (ds_ret (de_and (de_callB dc_isi T.m_isinstance (by decide +kernel) (da_cons (dv 0) (da_cons (de_ty (n := "int") T.m_int (by decide +kernel)) (da_nil)))) (de_one (de_not (de_callB dc_isi T.m_isinstance (by decide +kernel) (da_cons (dv 0) (da_cons (de_ty (n := "bool") T.m_bool (by decide +kernel)) (da_nil))))))))
theorem ok__law_ratio {P : Program} {w : World} {K : PySem.W.Frag} {mg : Str → Option Value} {base : Heap} (T : Tx K mg) :
    Callee P w K mg base "_law_ratio" 1 ["_law_n", "_law_d"] sp__law_ratio := by
  obtain ⟨fd, F⟩ := T.F__law_ratio
  refine ⟨⟨fd, fn_ok F sc__law_ratio (d := r__law_ratio) (fun cdv A outer s H E hr tk po => ?_) p__law_ratio, bindsD F fun _ _ _ _ _ _ us hl => match us, hl with | [_, _], _ => rfl⟩, T.g__law_ratio, F.kp⟩
  delta r__law_ratio r__law_ratio_1 r__law_ratio_2 r__law_ratio_3 r__law_ratio_4 r__law_ratio_3t r__law_ratio_2b r__law_ratio_2b_1 r__law_ratio_2b_0t
  exact dss_cons (ds_set 2 sc__law_ratio.nd (de_callB dc_abs T.m_abs (by decide +kernel) (da_cons (dv 0) (da_nil)))) (dss_cons (ds_set 3 sc__law_ratio.nd (de_callB dc_abs T.m_abs (by decide +kernel) (da_cons (dv 1) (da_nil)))) (dss_cons (ds_for po (di_rng1 T.m_range (da_cons (de_int) (da_nil))) (dg_name 4 sc__law_ratio.nd) (dss_cons (ds_if (dt_cmp (do_eq hr.units) (dv 3) (de_int)) (dss_one (ds_break)) (dss_nil)) (dss_one (ds_par (fun _ pa => ps_par (i := 2) (j := 3) rfl sc__law_ratio.nd rfl rfl (by decide) rfl rfl pa (by rfl)) (da_cons (dv 3) (da_cons (de_op do_mod (de_callTy dc_int T.m_int (by decide +kernel) (da_cons (dv 2) (da_nil))) (dv 3)) (da_nil))))))) (dss_cons (ds_if (dt_cmp do_lt (dv 1) (de_int)) (dss_one (ds_set 0 sc__law_ratio.nd (de_op do_sub (de_int) (dv 0)))) (dss_nil)) (dss_one (ds_ret (de_tup (da_cons (de_op do_div (dv 0) (dv 2)) (da_cons (de_op do_div (de_callB dc_abs T.m_abs (by decide +kernel) (da_cons (dv 1) (da_nil))) (dv 2)) (da_nil)))))))))
theorem ok__law_is_number {P : Program} {w : World} {K : PySem.W.Frag} {mg : Str → Option Value} {base : Heap} (T : Tx K mg) (c__law_is_integer : Callee P w K mg base "_law_is_integer" 1 ["_law_actual"] sp__law_is_integer) :
    Callee P w K mg base "_law_is_number" 2 ["_law_actual"] sp__law_is_number := by
  obtain ⟨fd, F⟩ := T.F__law_is_number
  refine ⟨⟨fd, fn_ok F sc__law_is_number (d := r__law_is_number) (fun cdv A outer s H E hr tk po => ?_) p__law_is_number, bindsD F fun _ _ _ _ _ _ us hl => match us, hl with | [_], _ => rfl⟩, T.g__law_is_number, F.kp⟩
  have hrc__law_is_integer := hr.mono (j := 1) (by decide)
  delta r__law_is_number r__law_is_number_1 r__law_is_number_0t
  exact dss_cons (ds_if (DW.dt (dw_or (dt_not (dt_tru (de_callB dc_isi T.m_isinstance (by decide +kernel) (da_cons (dv 0) (da_cons (de_ty (n := "tuple") T.m_tuple (by decide +kernel)) (da_nil)))))) (dw_or1 (dt_cmp (do_ne hr.units) (de_callB dc_len T.m_len boot_len (da_cons (dv 0) (da_nil))) (de_int))))) (dss_one (ds_ret (de_bl))) (dss_nil)) (dss_one (ds_ret (de_and (de_call c__law_is_integer hrc__law_is_integer tk (da_cons (de_ix (dv 0) (de_int)) (da_nil))) (de_one (de_call c__law_is_integer hrc__law_is_integer tk (da_cons (de_ix (dv 0) (de_int)) (da_nil)))))))
theorem ok__law_sum {P : Program} {w : World} {K : PySem.W.Frag} {mg : Str → Option Value} {base : Heap} (T : Tx K mg) (c__law_ratio : Callee P w K mg base "_law_ratio" 1 ["_law_n", "_law_d"] sp__law_ratio) :
    Callee P w K mg base "_law_sum" 2 ["_law_a", "_law_b"] sp__law_sum := by
  obtain ⟨fd, F⟩ := T.F__law_sum
  refine ⟨⟨fd, fn_ok F sc__law_sum (d := r__law_sum) (fun cdv A outer s H E hr tk po => ?_) p__law_sum, bindsD F fun _ _ _ _ _ _ us hl => match us, hl with | [_, _], _ => rfl⟩, T.g__law_sum, F.kp⟩
  have hrc__law_ratio := hr.mono (j := 1) (by decide)
  delta r__law_sum
  exact dss_one (ds_ret (de_call c__law_ratio hrc__law_ratio tk (da_cons (de_op do_add (de_op do_mul (de_ix (dv 0) (de_int)) (de_ix (dv 1) (de_int))) (de_op do_mul (de_ix (dv 1) (de_int)) (de_ix (dv 0) (de_int)))) (da_cons (de_op do_mul (de_ix (dv 0) (de_int)) (de_ix (dv 1) (de_int))) (da_nil)))))
theorem ok__law_difference {P : Program} {w : World} {K : PySem.W.Frag} {mg : Str → Option Value} {base : Heap} (T : Tx K mg) (c__law_ratio : Callee P w K mg base "_law_ratio" 1 ["_law_n", "_law_d"] sp__law_ratio) :
    Callee P w K mg base "_law_difference" 2 ["_law_a", "_law_b"] sp__law_difference := by
  obtain ⟨fd, F⟩ := T.F__law_difference
  refine ⟨⟨fd, fn_ok F sc__law_difference (d := r__law_difference) (fun cdv A outer s H E hr tk po => ?_) p__law_difference, bindsD F fun _ _ _ _ _ _ us hl => match us, hl with | [_, _], _ => rfl⟩, T.g__law_difference, F.kp⟩
  have hrc__law_ratio := hr.mono (j := 1) (by decide)
  delta r__law_difference
  exact dss_one (ds_ret (de_call c__law_ratio hrc__law_ratio tk (da_cons (de_op do_sub (de_op do_mul (de_ix (dv 0) (de_int)) (de_ix (dv 1) (de_int))) (de_op do_mul (de_ix (dv 1) (de_int)) (de_ix (dv 0) (de_int)))) (da_cons (de_op do_mul (de_ix (dv 0) (de_int)) (de_ix (dv 1) (de_int))) (da_nil)))))
theorem ok__law_product {P : Program} {w : World} {K : PySem.W.Frag} {mg : Str → Option Value} {base : Heap} (T : Tx K mg) (c__law_ratio : Callee P w K mg base "_law_ratio" 1 ["_law_n", "_law_d"] sp__law_ratio) :
    Callee P w K mg base "_law_product" 2 ["_law_a", "_law_b"] sp__law_product := by
  obtain ⟨fd, F⟩ := T.F__law_product
  refine ⟨⟨fd, fn_ok F sc__law_product (d := r__law_product) (fun cdv A outer s H E hr tk po => ?_) p__law_product, bindsD F fun _ _ _ _ _ _ us hl => match us, hl with | [_, _], _ => rfl⟩, T.g__law_product, F.kp⟩
  have hrc__law_ratio := hr.mono (j := 1) (by decide)
  delta r__law_product
  exact dss_one (ds_ret (de_call c__law_ratio hrc__law_ratio tk (da_cons (de_op do_mul (de_ix (dv 0) (de_int)) (de_ix (dv 1) (de_int))) (da_cons (de_op do_mul (de_ix (dv 0) (de_int)) (de_ix (dv 1) (de_int))) (da_nil)))))
theorem ok__law_applied {P : Program} {w : World} {K : PySem.W.Frag} {mg : Str → Option Value} {base : Heap} (T : Tx K mg) (c__law_sum : Callee P w K mg base "_law_sum" 2 ["_law_a", "_law_b"] sp__law_sum) (c__law_product : Callee P w K mg base "_law_product" 2 ["_law_a", "_law_b"] sp__law_product) :
    Callee P w K mg base "_law_applied" 3 ["_law_transform", "_law_point_here"] sp__law_applied := by
  obtain ⟨fd, F⟩ := T.F__law_applied
  refine ⟨⟨fd, fn_ok F sc__law_applied (d := r__law_applied) (fun cdv A outer s H E hr tk po => ?_) p__law_applied, bindsD F fun _ _ _ _ _ _ us hl => match us, hl with | [_, _], _ => rfl⟩, T.g__law_applied, F.kp⟩
  have hrc__law_sum := hr.mono (j := 2) (by decide)
  have hrc__law_product := hr.mono (j := 2) (by decide)
  delta r__law_applied r__law_applied_1 r__law_applied_2 r__law_applied_3
  exact dss_cons (ds_asg (dv 0) (dg_tup rfl (dgs_cons (dg_name 2 sc__law_applied.nd) (dgs_cons (dg_name 3 sc__law_applied.nd) (dgs_cons (dg_name 4 sc__law_applied.nd) (dgs_cons (dg_name 5 sc__law_applied.nd) (dgs_cons (dg_name 6 sc__law_applied.nd) (dgs_cons (dg_name 7 sc__law_applied.nd) (dgs_nil))))))))) (dss_cons (ds_asg (dv 1) (dg_tup rfl (dgs_cons (dg_name 8 sc__law_applied.nd) (dgs_cons (dg_name 9 sc__law_applied.nd) (dgs_nil))))) (dss_cons (ds_set 10 sc__law_applied.nd (de_call c__law_sum hrc__law_sum tk (da_cons (dv 2) (da_cons (de_call c__law_sum hrc__law_sum tk (da_cons (de_call c__law_product hrc__law_product tk (da_cons (dv 4) (da_cons (dv 8) (da_nil)))) (da_cons (de_call c__law_product hrc__law_product tk (da_cons (dv 5) (da_cons (dv 9) (da_nil)))) (da_nil)))) (da_nil))))) (dss_one (ds_ret (de_tup (da_cons (dv 10) (da_cons (de_call c__law_sum hrc__law_sum tk (da_cons (dv 3) (da_cons (de_call c__law_sum hrc__law_sum tk (da_cons (de_call c__law_product hrc__law_product tk (da_cons (dv 6) (da_cons (dv 8) (da_nil)))) (da_cons (de_call c__law_product hrc__law_product tk (da_cons (dv 7) (da_cons (dv 9) (da_nil)))) (da_nil)))) (da_nil)))) (da_nil))))))))
theorem ok__law_small {P : Program} {w : World} {K : PySem.W.Frag} {mg : Str → Option Value} {base : Heap} (T : Tx K mg) (c__law_ratio : Callee P w K mg base "_law_ratio" 1 ["_law_n", "_law_d"] sp__law_ratio) (c__law_next : Callee P w K mg base "_law_next" 1 ["_law_stream_here", "_law_size"] sp__law_next) :
    Callee P w K mg base "_law_small" 2 ["_law_stream_here"] sp__law_small := by
  obtain ⟨fd, F⟩ := T.F__law_small
  refine ⟨⟨fd, fn_ok F sc__law_small (d := r__law_small) (fun cdv A outer s H E hr tk po => ?_) p__law_small, bindsD F fun _ _ _ _ _ _ us hl => match us, hl with | [_], _ => rfl⟩, T.g__law_small, F.kp⟩
  have hrc__law_ratio := hr.mono (j := 1) (by decide)
  have hrc__law_next := hr.mono (j := 1) (by decide)
  delta r__law_small r__law_small_1 r__law_small_0t
  exact dss_cons (ds_if (dt_cmp (do_eq hr.units) (de_call c__law_next hrc__law_next tk (da_cons (dv 0) (da_cons (de_int) (da_nil)))) (de_int)) (dss_one (ds_ret (de_tup (da_cons (de_op do_sub (de_call c__law_next hrc__law_next tk (da_cons (dv 0) (da_cons (de_int) (da_nil)))) (de_int)) (da_cons (de_int) (da_nil)))))) (dss_nil)) (dss_one (ds_ret (de_call c__law_ratio hrc__law_ratio tk (da_cons (de_op do_sub (de_call c__law_next hrc__law_next tk (da_cons (dv 0) (da_cons (de_int) (da_nil)))) (de_int)) (da_cons (de_op do_add (de_call c__law_next hrc__law_next tk (da_cons (dv 0) (da_cons (de_int) (da_nil)))) (de_int)) (da_nil))))))
theorem ok__law_point {P : Program} {w : World} {K : PySem.W.Frag} {mg : Str → Option Value} {base : Heap} (T : Tx K mg) (c__law_small : Callee P w K mg base "_law_small" 2 ["_law_stream_here"] sp__law_small) :
    Callee P w K mg base "_law_point" 3 ["_law_stream_here"] sp__law_point := by
  obtain ⟨fd, F⟩ := T.F__law_point
  refine ⟨⟨fd, fn_ok F sc__law_point (d := r__law_point) (fun cdv A outer s H E hr tk po => ?_) p__law_point, bindsD F fun _ _ _ _ _ _ us hl => match us, hl with | [_], _ => rfl⟩, T.g__law_point, F.kp⟩
  have hrc__law_small := hr.mono (j := 2) (by decide)
  delta r__law_point r__law_point_1
  exact dss_cons (ds_set 1 sc__law_point.nd (de_call c__law_small hrc__law_small tk (da_cons (dv 0) (da_nil)))) (dss_one (ds_ret (de_tup (da_cons (dv 1) (da_cons (de_call c__law_small hrc__law_small tk (da_cons (dv 0) (da_nil))) (da_nil))))))
theorem ok__law_is_point {P : Program} {w : World} {K : PySem.W.Frag} {mg : Str → Option Value} {base : Heap} (T : Tx K mg) (c__law_is_number : Callee P w K mg base "_law_is_number" 2 ["_law_actual"] sp__law_is_number) :
    Callee P w K mg base "_law_is_point" 3 ["_law_actual"] sp__law_is_point := by
  obtain ⟨fd, F⟩ := T.F__law_is_point
  refine ⟨⟨fd, fn_ok F sc__law_is_point (d := r__law_is_point) (fun cdv A outer s H E hr tk po => ?_) p__law_is_point, bindsD F fun _ _ _ _ _ _ us hl => match us, hl with | [_], _ => rfl⟩, T.g__law_is_point, F.kp⟩
  have hrc__law_is_number := hr.mono (j := 2) (by decide)
  delta r__law_is_point r__law_is_point_1 r__law_is_point_0t
  exact dss_cons (ds_if (DW.dt (dw_or (dt_not (dt_tru (de_callB dc_isi T.m_isinstance (by decide +kernel) (da_cons (dv 0) (da_cons (de_ty (n := "tuple") T.m_tuple (by decide +kernel)) (da_nil)))))) (dw_or1 (dt_cmp (do_ne hr.units) (de_callB dc_len T.m_len boot_len (da_cons (dv 0) (da_nil))) (de_int))))) (dss_one (ds_ret (de_bl))) (dss_nil)) (dss_one (ds_ret (de_and (de_call c__law_is_number hrc__law_is_number tk (da_cons (de_ix (dv 0) (de_int)) (da_nil))) (de_one (de_call c__law_is_number hrc__law_is_number tk (da_cons (de_ix (dv 0) (de_int)) (da_nil)))))))
theorem ok__law_minus {P : Program} {w : World} {K : PySem.W.Frag} {mg : Str → Option Value} {base : Heap} (T : Tx K mg) (c__law_difference : Callee P w K mg base "_law_difference" 2 ["_law_a", "_law_b"] sp__law_difference) :
    Callee P w K mg base "_law_minus" 3 ["_law_p", "_law_q"] sp__law_minus := by
  obtain ⟨fd, F⟩ := T.F__law_minus
  refine ⟨⟨fd, fn_ok F sc__law_minus (d := r__law_minus) (fun cdv A outer s H E hr tk po => ?_) p__law_minus, bindsD F fun _ _ _ _ _ _ us hl => match us, hl with | [_, _], _ => rfl⟩, T.g__law_minus, F.kp⟩
  have hrc__law_difference := hr.mono (j := 2) (by decide)
  delta r__law_minus
  exact dss_one (ds_ret (de_tup (da_cons (de_call c__law_difference hrc__law_difference tk (da_cons (de_ix (dv 0) (de_int)) (da_cons (de_ix (dv 1) (de_int)) (da_nil)))) (da_cons (de_call c__law_difference hrc__law_difference tk (da_cons (de_ix (dv 0) (de_int)) (da_cons (de_ix (dv 1) (de_int)) (da_nil)))) (da_nil)))))
theorem ok__law_moved {P : Program} {w : World} {K : PySem.W.Frag} {mg : Str → Option Value} {base : Heap} (T : Tx K mg) (c__law_sum : Callee P w K mg base "_law_sum" 2 ["_law_a", "_law_b"] sp__law_sum) (c__law_product : Callee P w K mg base "_law_product" 2 ["_law_a", "_law_b"] sp__law_product) :
    Callee P w K mg base "_law_moved" 3 ["_law_p", "_law_q", "_law_number"] sp__law_moved := by
  obtain ⟨fd, F⟩ := T.F__law_moved
  refine ⟨⟨fd, fn_ok F sc__law_moved (d := r__law_moved) (fun cdv A outer s H E hr tk po => ?_) p__law_moved, bindsD F fun _ _ _ _ _ _ us hl => match us, hl with | [_, _, _], _ => rfl⟩, T.g__law_moved, F.kp⟩
  have hrc__law_sum := hr.mono (j := 2) (by decide)
  have hrc__law_product := hr.mono (j := 2) (by decide)
  delta r__law_moved
  exact dss_one (ds_ret (de_tup (da_cons (de_call c__law_sum hrc__law_sum tk (da_cons (de_ix (dv 0) (de_int)) (da_cons (de_call c__law_product hrc__law_product tk (da_cons (dv 2) (da_cons (de_ix (dv 1) (de_int)) (da_nil)))) (da_nil)))) (da_cons (de_call c__law_sum hrc__law_sum tk (da_cons (de_ix (dv 0) (de_int)) (da_cons (de_call c__law_product hrc__law_product tk (da_cons (dv 2) (da_cons (de_ix (dv 1) (de_int)) (da_nil)))) (da_nil)))) (da_nil)))))
theorem ok__law_direction {P : Program} {w : World} {K : PySem.W.Frag} {mg : Str → Option Value} {base : Heap} (T : Tx K mg) (c__law_minus : Callee P w K mg base "_law_minus" 3 ["_law_p", "_law_q"] sp__law_minus) (c__law_product : Callee P w K mg base "_law_product" 2 ["_law_a", "_law_b"] sp__law_product) :
    Callee P w K mg base "_law_direction" 4 ["_law_points", "_law_joins_here", "_law_at", "_law_is_cycle"] sp__law_direction := by
  obtain ⟨fd, F⟩ := T.F__law_direction
  refine ⟨⟨fd, fn_ok F sc__law_direction (d := r__law_direction) (fun cdv A outer s H E hr tk po => ?_) p__law_direction, bindsD F fun _ _ _ _ _ _ us hl => match us, hl with | [_, _, _, _], _ => rfl⟩, T.g__law_direction, F.kp⟩
  have hrc__law_minus := hr.mono (j := 3) (by decide)
  have hrc__law_product := hr.mono (j := 2) (by decide)
  delta r__law_direction r__law_direction_1 r__law_direction_2 r__law_direction_3 r__law_direction_4 r__law_direction_5 r__law_direction_6 r__law_direction_4t r__law_direction_3t r__law_direction_2t
  exact dss_cons (ds_set 4 sc__law_direction.nd (de_callB dc_len T.m_len boot_len (da_cons (dv 0) (da_nil)))) (dss_cons (ds_set 5 sc__law_direction.nd (de_op do_sub (dv 2) (de_int))) (dss_cons (ds_if (dt_tru (dv 3)) (dss_one (ds_set 5 sc__law_direction.nd (de_op do_mod (de_callTy dc_int T.m_int (by decide +kernel) (da_cons (de_op do_sub (dv 2) (de_int)) (da_nil))) (dv 4)))) (dss_nil)) (dss_cons (ds_if (DW.dt (dw_or (dt_cmp do_lt (dv 5) (de_int)) (dw_or (dt_cmp do_ge (dv 5) (de_callB dc_len T.m_len boot_len (da_cons (dv 1) (da_nil)))) (dw_or1 (dt_cmp do_ge (dv 2) (de_callB dc_len T.m_len boot_len (da_cons (dv 1) (da_nil)))))))) (dss_one (ds_ret (de_non))) (dss_nil)) (dss_cons (ds_if (DW.dt (dw_or (dt_cmp (do_ne hr.units) (de_ix (de_ix (dv 1) (dv 5)) (de_int)) (de_str)) (dw_or1 (dt_cmp (do_ne hr.units) (de_ix (de_ix (dv 1) (dv 2)) (de_int)) (de_str))))) (dss_one (ds_ret (de_non))) (dss_nil)) (dss_cons (ds_set 6 sc__law_direction.nd (de_call c__law_minus hrc__law_minus tk (da_cons (de_ix (dv 0) (de_op do_mod (de_callTy dc_int T.m_int (by decide +kernel) (da_cons (de_op do_add (dv 2) (de_int)) (da_nil))) (dv 4))) (da_cons (de_ix (dv 0) (de_op do_mod (de_callTy dc_int T.m_int (by decide +kernel) (da_cons (de_op do_sub (dv 2) (de_int)) (da_nil))) (dv 4))) (da_nil))))) (dss_one (ds_ret (de_tup (da_cons (de_call c__law_product hrc__law_product tk (da_cons (de_ix (dv 6) (de_int)) (da_cons (de_tup (da_cons (de_int) (da_cons (de_int) (da_nil)))) (da_nil)))) (da_cons (de_call c__law_product hrc__law_product tk (da_cons (de_ix (dv 6) (de_int)) (da_cons (de_tup (da_cons (de_int) (da_cons (de_int) (da_nil)))) (da_nil)))) (da_nil)))))))))))
theorem ok__law_segment {P : Program} {w : World} {K : PySem.W.Frag} {mg : Str → Option Value} {base : Heap} (T : Tx K mg) (c__law_direction : Callee P w K mg base "_law_direction" 4 ["_law_points", "_law_joins_here", "_law_at", "_law_is_cycle"] sp__law_direction) (c__law_ratio : Callee P w K mg base "_law_ratio" 1 ["_law_n", "_law_d"] sp__law_ratio) (c__law_minus : Callee P w K mg base "_law_minus" 3 ["_law_p", "_law_q"] sp__law_minus) (c__law_moved : Callee P w K mg base "_law_moved" 3 ["_law_p", "_law_q", "_law_number"] sp__law_moved) :
    Callee P w K mg base "_law_segment" 5 ["_law_points", "_law_joins_here", "_law_k", "_law_is_cycle"] sp__law_segment := by
  obtain ⟨fd, F⟩ := T.F__law_segment
  refine ⟨⟨fd, fn_ok F sc__law_segment (d := r__law_segment) (fun cdv A outer s H E hr tk po => ?_) p__law_segment, bindsD F fun _ _ _ _ _ _ us hl => match us, hl with | [_, _, _, _], _ => rfl⟩, T.g__law_segment, F.kp⟩
  have hrc__law_direction := hr.mono (j := 4) (by decide)
  have hrc__law_ratio := hr.mono (j := 1) (by decide)
  have hrc__law_minus := hr.mono (j := 3) (by decide)
  have hrc__law_moved := hr.mono (j := 3) (by decide)
  delta r__law_segment r__law_segment_1 r__law_segment_2 r__law_segment_3 r__law_segment_4 r__law_segment_5 r__law_segment_6 r__law_segment_7 r__law_segment_8 r__law_segment_9 r__law_segment_10 r__law_segment_11 r__law_segment_12 r__law_segment_9t r__law_segment_8t r__law_segment_6t r__law_segment_1t r__law_segment_0t
  exact dss_cons (ds_if (dt_cmp (do_eq hr.units) (de_ix (dv 1) (dv 2)) (de_str)) (dss_one (ds_ret (de_non))) (dss_nil)) (dss_cons (ds_if (dt_cmp (do_eq hr.units) (de_ix (de_ix (dv 1) (dv 2)) (de_int)) (de_str)) (dss_one (ds_ret (de_tup (da_cons (de_ix (de_ix (dv 1) (dv 2)) (de_int)) (da_cons (de_ix (de_ix (dv 1) (dv 2)) (de_int)) (da_nil)))))) (dss_nil)) (dss_cons (ds_set 4 sc__law_segment.nd (de_ix (dv 0) (dv 2))) (dss_cons (ds_set 5 sc__law_segment.nd (de_ix (dv 0) (de_op do_mod (de_callTy dc_int T.m_int (by decide +kernel) (da_cons (de_op do_add (dv 2) (de_int)) (da_nil))) (de_callB dc_len T.m_len boot_len (da_cons (dv 0) (da_nil)))))) (dss_cons (ds_set 6 sc__law_segment.nd (de_call c__law_direction hrc__law_direction tk (da_cons (dv 0) (da_cons (dv 1) (da_cons (dv 2) (da_cons (dv 3) (da_nil))))))) (dss_cons (ds_set 7 sc__law_segment.nd (de_op do_add (dv 2) (de_int))) (dss_cons (ds_if (dt_tru (dv 3)) (dss_one (ds_set 7 sc__law_segment.nd (de_op do_mod (de_callTy dc_int T.m_int (by decide +kernel) (da_cons (de_op do_add (dv 2) (de_int)) (da_nil))) (de_callB dc_len T.m_len boot_len (da_cons (dv 0) (da_nil)))))) (dss_nil)) (dss_cons (ds_set 8 sc__law_segment.nd (de_call c__law_direction hrc__law_direction tk (da_cons (dv 0) (da_cons (dv 1) (da_cons (dv 7) (da_cons (dv 3) (da_nil))))))) (dss_cons (ds_if (dt_isN (dv 6)) (dss_one (ds_set 6 sc__law_segment.nd (de_call c__law_minus hrc__law_minus tk (da_cons (dv 5) (da_cons (dv 4) (da_nil)))))) (dss_nil)) (dss_cons (ds_if (dt_isN (dv 8)) (dss_one (ds_set 8 sc__law_segment.nd (de_call c__law_minus hrc__law_minus tk (da_cons (dv 5) (da_cons (dv 4) (da_nil)))))) (dss_nil)) (dss_cons (ds_set 9 sc__law_segment.nd (de_ix (de_ix (dv 1) (dv 2)) (de_int))) (dss_cons (ds_set 10 sc__law_segment.nd (de_call c__law_ratio hrc__law_ratio tk (da_cons (de_ix (dv 9) (de_int)) (da_cons (de_op do_mul (de_int) (de_ix (dv 9) (de_int))) (da_nil))))) (dss_one (ds_ret (de_tup (da_cons (de_call c__law_moved hrc__law_moved tk (da_cons (dv 4) (da_cons (dv 6) (da_cons (dv 10) (da_nil))))) (da_cons (de_call c__law_moved hrc__law_moved tk (da_cons (dv 5) (da_cons (dv 8) (da_cons (de_tup (da_cons (de_op do_sub (de_int) (de_ix (dv 10) (de_int))) (da_cons (de_ix (dv 10) (de_int)) (da_nil)))) (da_nil))))) (da_nil)))))))))))))))))
theorem ok__law_joins {P : Program} {w : World} {K : PySem.W.Frag} {mg : Str → Option Value} {base : Heap} (T : Tx K mg) (c__law_next : Callee P w K mg base "_law_next" 1 ["_law_stream_here", "_law_size"] sp__law_next) (c__law_point : Callee P w K mg base "_law_point" 3 ["_law_stream_here"] sp__law_point) (c__law_ratio : Callee P w K mg base "_law_ratio" 1 ["_law_n", "_law_d"] sp__law_ratio) :
    Callee P w K mg base "_law_joins" 4 ["_law_stream_here", "_law_many"] sp__law_joins := by
  obtain ⟨fd, F⟩ := T.F__law_joins
  refine ⟨⟨fd, fn_ok F sc__law_joins (d := r__law_joins) (fun cdv A outer s H E hr tk po => ?_) p__law_joins, bindsD F fun _ _ _ _ _ _ us hl => match us, hl with | [_, _], _ => rfl⟩, T.g__law_joins, F.kp⟩
  have hrc__law_next := hr.mono (j := 1) (by decide)
  have hrc__law_point := hr.mono (j := 3) (by decide)
  have hrc__law_ratio := hr.mono (j := 1) (by decide)
  delta r__law_joins r__law_joins_1 r__law_joins_2 r__law_joins_1b r__law_joins_1b_1 r__law_joins_1b_1e r__law_joins_1b_1e_0e r__law_joins_1b_1e_0t r__law_joins_1b_1e_0t_1 r__law_joins_1b_1t
  exact dss_cons (ds_set 2 sc__law_joins.nd (de_lstM (da_nil))) (dss_cons (ds_for po (di_rng1 T.m_range (da_cons (dv 1) (da_nil))) (dg_name 3 sc__law_joins.nd) (dss_cons (ds_set 4 sc__law_joins.nd (de_call c__law_next hrc__law_next tk (da_cons (dv 0) (da_cons (de_int) (da_nil))))) (dss_one (ds_if (dt_cmp (do_eq hr.units) (dv 4) (de_int)) (dss_one (ds_expr (de_bm PySem.F.plainAttrs_list PySem.F.slot_list_append PySem.F.type_list_append dm_append (dv 2) (da_cons (de_str) (da_nil))))) (dss_one (ds_if (dt_cmp (do_eq hr.units) (dv 4) (de_int)) (dss_cons (ds_set 5 sc__law_joins.nd (de_call c__law_point hrc__law_point tk (da_cons (dv 0) (da_nil)))) (dss_one (ds_expr (de_bm PySem.F.plainAttrs_list PySem.F.slot_list_append PySem.F.type_list_append dm_append (dv 2) (da_cons (de_tup (da_cons (de_str) (da_cons (dv 5) (da_cons (de_call c__law_point hrc__law_point tk (da_cons (dv 0) (da_nil))) (da_nil))))) (da_nil)))))) (dss_one (ds_expr (de_bm PySem.F.plainAttrs_list PySem.F.slot_list_append PySem.F.type_list_append dm_append (dv 2) (da_cons (de_tup (da_cons (de_str) (da_cons (de_ix (de_lst (da_cons (de_tup (da_cons (de_int) (da_cons (de_int) (da_nil)))) (da_cons (de_call c__law_ratio hrc__law_ratio tk (da_cons (de_op do_add (de_call c__law_next hrc__law_next tk (da_cons (dv 0) (da_cons (de_int) (da_nil)))) (de_int)) (da_cons (de_int) (da_nil)))) (da_nil)))) (de_call c__law_next hrc__law_next tk (da_cons (dv 0) (da_cons (de_int) (da_nil))))) (da_nil)))) (da_nil))))))))))) (dss_one (ds_ret (dv 2))))
theorem ok__law_refused {P : Program} {w : World} {K : PySem.W.Frag} {mg : Str → Option Value} {base : Heap} (T : Tx K mg) (c_join_points : CalleeK P w K mg base "join_points" 7 ["points", "joins", "cycle"] sp_join_points 2 ["cycle"] [.bl false]) :
    Callee P w K mg base "_law_refused" 8 ["_law_points", "_law_joins_here", "_law_is_cycle"] sp__law_refused := by
  obtain ⟨fd, F⟩ := T.F__law_refused
  refine ⟨⟨fd, fn_ok F sc__law_refused (d := r__law_refused) (fun cdv A outer s H E hr tk po => ?_) p__law_refused, bindsD F fun _ _ _ _ _ _ us hl => match us, hl with | [_, _, _], _ => rfl⟩, T.g__law_refused, F.kp⟩
  have hrc_join_points := hr.mono (j := 7) (by decide)
  delta r__law_refused r__law_refused_1 r__law_refused_0h1 r__law_refused_0h0 r__law_refused_0y
  exact dss_cons (ds_tryN rfl rfl sc__law_refused.nd tk (fun W1 pn xe tk po => dss_one (ds_expr (de_callK (ks := ["cycle"]) c_join_points hrc_join_points tk (da_cons (dv 0) (da_cons (dv 1) (da_nil))) (dk_cons (dv 2) (dk_nil))))) (.cons 3 rfl rfl ⟨rfl, by decide, .inl T.k_TooMany⟩ T.x_TooMany (fun a oe e cls d pn hh => dss_one (ds_ret (de_and (de_cmp do_gt (de_callB dc_len T.m_len boot_len (da_cons (dv 0) (da_nil))) (de_int)) (de_one (de_callB (dc_isE T.kt hh) T.m_isinstance (by decide +kernel) (da_cons (dv 3) (da_cons (de_con T.v_FontError) (da_nil)))))))) (.cons 3 rfl rfl ⟨rfl, by decide, .inl T.k_OutOfRange⟩ T.x_OutOfRange (fun a oe e cls d pn hh => dss_one (ds_ret (de_and (de_cmp do_le (de_callB dc_len T.m_len boot_len (da_cons (dv 0) (da_nil))) (de_int)) (de_one (de_callB (dc_isE T.kt hh) T.m_isinstance (by decide +kernel) (da_cons (dv 3) (da_cons (de_con T.v_FontError) (da_nil)))))))) (.nil)))) (dss_one (ds_ret (de_bl)))
theorem ok_law {P : Program} {w : World} {K : PySem.W.Frag} {mg : Str → Option Value} {base : Heap} {fd : FuncData} (T : Tx K mg) (F : FunD K "law" "law" (defArgs s_law) (defBody s_law) (defScope s_law) [] [] (He.ga K "law") fd) (c__law_stream : Callee P w K mg base "_law_stream" 1 ["_law_cell_here"] sp__law_stream) (c__law_joins : Callee P w K mg base "_law_joins" 4 ["_law_stream_here", "_law_many"] sp__law_joins) (c__law_cell : Callee P w K mg base "_law_cell" 1 ["_law_script", "_law_k"] sp__law_cell) (c__law_next : Callee P w K mg base "_law_next" 1 ["_law_stream_here", "_law_size"] sp__law_next) (c__law_point : Callee P w K mg base "_law_point" 3 ["_law_stream_here"] sp__law_point) (c__law_refused : Callee P w K mg base "_law_refused" 8 ["_law_points", "_law_joins_here", "_law_is_cycle"] sp__law_refused) (c_join_points : CalleeK P w K mg base "join_points" 7 ["points", "joins", "cycle"] sp_join_points 2 ["cycle"] [.bl false]) (c__law_segment : Callee P w K mg base "_law_segment" 5 ["_law_points", "_law_joins_here", "_law_k", "_law_is_cycle"] sp__law_segment) :
    DFn P w K mg base 9 (He.ga K "law") fd ["_law_script"] spLaw := by
  refine fn_ok F sc_law (d := r_law) (fun cdv A outer s H E hr tk po => ?_) p_law
  have hrc__law_stream := hr.mono (j := 1) (by decide)
  have hrc__law_joins := hr.mono (j := 4) (by decide)
  have hrc__law_cell := hr.mono (j := 1) (by decide)
  have hrc__law_next := hr.mono (j := 1) (by decide)
  have hrc__law_point := hr.mono (j := 3) (by decide)
  have hrc__law_refused := hr.mono (j := 8) (by decide)
  have hrc_join_points := hr.mono (j := 7) (by decide)
  have hrc__law_segment := hr.mono (j := 5) (by decide)
  delta r_law r_law_1 r_law_2 r_law_3 r_law_4 r_law_5 r_law_6 r_law_7 r_law_8 r_law_9 r_law_10 r_law_11 r_law_12 r_law_13 r_law_12t r_law_11e r_law_11t r_law_8t r_law_7t r_law_7t_1 r_law_2t
  exact dss_cons (ds_set 1 sc_law.nd (de_call c__law_stream hrc__law_stream tk (da_cons (de_call c__law_cell hrc__law_cell tk (da_cons (dv 0) (da_cons (de_int) (da_nil)))) (da_nil)))) (dss_cons (ds_set 2 sc_law.nd (de_op do_add (de_call c__law_next hrc__law_next tk (da_cons (dv 1) (da_cons (de_int) (da_nil)))) (de_int))) (dss_cons (ds_if (dt_cmp (do_eq hr.units) (de_call c__law_next hrc__law_next tk (da_cons (dv 1) (da_cons (de_int) (da_nil)))) (de_int)) (dss_one (ds_set 2 sc_law.nd (de_op do_add (de_call c__law_next hrc__law_next tk (da_cons (dv 1) (da_cons (de_int) (da_nil)))) (de_int)))) (dss_nil)) (dss_cons (ds_set 3 sc_law.nd (de_cmp (do_eq hr.units) (de_call c__law_next hrc__law_next tk (da_cons (dv 1) (da_cons (de_int) (da_nil)))) (de_int))) (dss_cons (ds_set 4 sc_law.nd (de_lc (own := [("_law_k", 5)]) rfl sc_law.nd (di_rng1 T.m_range (da_cons (dv 2) (da_nil))) (L2.blkOk_by (N := N_law) (sc := defScope s_law) (by decide +kernel)) (fun _ _ _ _ _ => dgv_name 5 sc_law.nd) (fun _ _ _ _ _ => dts_nil) (fun _ _ _ _ _ => de_call c__law_point hrc__law_point takes0 (da_cons (dv 1) (da_nil))))) (dss_cons (ds_set 6 sc_law.nd (de_call c__law_joins hrc__law_joins tk (da_cons (de_call c__law_stream hrc__law_stream tk (da_cons (de_call c__law_cell hrc__law_cell tk (da_cons (dv 0) (da_cons (de_int) (da_nil)))) (da_nil))) (da_cons (de_op do_add (de_op do_sub (dv 2) (de_int)) (de_callTy dc_int T.m_int (by decide +kernel) (da_cons (dv 3) (da_nil)))) (da_nil))))) (dss_cons (ds_set 7 sc_law.nd (de_bl)) (dss_cons (ds_if (DW.dt (dw_and (dt_cmp (do_eq hr.units) (de_call c__law_next hrc__law_next tk (da_cons (dv 1) (da_cons (de_int) (da_nil)))) (de_int)) (dw_and1 (dt_cmp do_gt (de_callB dc_len T.m_len boot_len (da_cons (dv 6) (da_nil))) (de_int))))) (dss_cons (ds_asg (de_tup (da_cons (de_str) (da_cons (de_ix (de_lst (da_cons (de_tup (da_cons (de_int) (da_cons (de_int) (da_nil)))) (da_cons (de_tup (da_cons (de_int) (da_cons (de_int) (da_nil)))) (da_cons (de_tup (da_cons (de_neg (de_int)) (da_cons (de_int) (da_nil)))) (da_cons (de_tup (da_cons (de_int) (da_cons (de_int) (da_nil)))) (da_nil)))))) (de_call c__law_next hrc__law_next tk (da_cons (dv 1) (da_cons (de_int) (da_nil))))) (da_nil)))) (dg_sub (dv 6) (de_call c__law_next hrc__law_next takes0 (da_cons (dv 1) (da_cons (de_callB dc_len T.m_len boot_len (da_cons (dv 6) (da_nil))) (da_nil)))))) (dss_one (ds_set 7 sc_law.nd (de_bl)))) (dss_nil)) (dss_cons (ds_if (DW.dt (dw_or (dt_tru (dv 7)) (dw_or1 (dt_cmp do_gt (dv 2) (de_int))))) (dss_one (ds_ret (de_call c__law_refused hrc__law_refused tk (da_cons (de_callTy dc_list T.m_list (by decide +kernel) (da_cons (dv 4) (da_nil))) (da_cons (de_callTy dc_list T.m_list (by decide +kernel) (da_cons (dv 6) (da_nil))) (da_cons (dv 3) (da_nil))))))) (dss_nil)) (dss_cons (ds_frzV 6 (ds_set 8 sc_law.nd (de_callTy dc_tuple T.m_tuple (by decide +kernel) (da_cons (de_lc (own := [("_law_k", 5)]) rfl sc_law.nd (di_rng1 T.m_range (da_cons (de_callB dc_len T.m_len boot_len (da_cons (dv 6) (da_nil))) (da_nil))) (L2.blkOk_by (N := N_law) (sc := defScope s_law) (by decide +kernel)) (fun _ _ _ _ _ => dgv_name 5 sc_law.nd) (fun _ _ _ _ _ => dts_nil) (fun _ _ _ _ _ => de_call c__law_segment hrc__law_segment takes0 (da_cons (dv 4) (da_cons (dv 6) (da_cons (dv 5) (da_cons (dv 3) (da_nil))))))) (da_nil))))) (dss_cons (ds_set 9 sc_law.nd (de_tup (da_cons (de_callTy dc_list T.m_list (by decide +kernel) (da_cons (dv 4) (da_nil))) (da_cons (de_callTy dc_list T.m_list (by decide +kernel) (da_cons (dv 6) (da_nil))) (da_nil))))) (dss_cons (ds_if (DW.dt (dw_or (dt_tru (dv 3)) (dw_or1 (dt_cmp (do_eq hr.units) (de_call c__law_next hrc__law_next tk (da_cons (dv 1) (da_cons (de_int) (da_nil)))) (de_int))))) (dss_one (ds_set 10 sc_law.nd (de_callK (ks := ["cycle"]) c_join_points hrc_join_points tk (da_cons (de_ix (dv 9) (de_int)) (da_cons (de_ix (dv 9) (de_int)) (da_nil))) (dk_cons (dv 3) (dk_nil))))) (dss_one (ds_set 10 sc_law.nd (de_callD c_join_points hrc_join_points tk (da_cons (de_ix (dv 9) (de_int)) (da_cons (de_ix (dv 9) (de_int)) (da_nil))) (by simp) (fun _ => .cons (.bl false) (.nil)))))) (dss_cons (ds_if (DW.dt (dw_or (dt_not (dt_tru (de_callB dc_isi T.m_isinstance (by decide +kernel) (da_cons (dv 10) (da_cons (de_ty (n := "tuple") T.m_tuple (by decide +kernel)) (da_nil)))))) (dw_or1 (dt_cmp (do_ne hr.units) (dv 10) (de_tup (da_cons (de_callTy dc_tuple T.m_tuple (by decide +kernel) (da_cons (dv 4) (da_nil))) (da_cons (dv 8) (da_cons (dv 3) (da_nil))))))))) (dss_one (ds_ret (de_bl))) (dss_nil)) (dss_one (ds_ret (de_and (de_callB dc_isi T.m_isinstance (by decide +kernel) (da_cons (de_ix (dv 10) (de_int)) (da_cons (de_ty (n := "bool") T.m_bool (by decide +kernel)) (da_nil)))) (de_one (de_cmp (do_eq hr.units) (dv 9) (de_tup (da_cons (dv 4) (da_cons (dv 6) (da_nil)))))))))))))))))))))
def looseN : List Str := (["gcd", "FontError", "TooGreat", "DivisionByZero", "OutOfRange", "TooMany", "LIMIT", "ratio", "add", "subtract", "multiply", "divide", "compare", "KNOT_LIMIT", "LEAST_TENSION", "difference", "scaled", "is_smooth", "direction", "smooth_segment"] : List Str) ++ (["join_segment", "join_points", "_law_cell", "_law_stream", "_law_next", "_law_is_integer", "_law_ratio", "_law_is_number", "_law_sum", "_law_difference", "_law_product", "_law_applied", "_law_small", "_law_point", "_law_is_point", "_law_minus", "_law_moved", "_law_direction", "_law_segment", "_law_joins"] : List Str) ++ (["_law_refused"] : List Str)
abbrev R : PySem.W.OpenRow := PySem.W.OpenLaw.row PySem.Challenge.rw_fontwinding_k16_joined_points
abbrev hk : PySem.W.Hook := hookM 4 fas fns
def ob (s : PySem.W.SharedT) : AlM := obsMG 4 fas fns (HandSHeadRun.getT s)
theorem ob_eq (s : PySem.W.SharedT) : ob s = hk.obs s.abs := obsMG_eq (HandSHeadRun.getT_eq s)
theorem run (w : World) : HandSHeadRun.RunEqI R (PySem.W.view R.prog [0, 45]) hk ob 6000 looseN w := by
  unfold HandSHeadRun.RunEqI
  kernel_rfl
theorem law_end {w : World} {mg : Str → Option Value} {h : Heap} {K : PySem.W.Frag} {a : Addr} (X : K.In h) (G : h.Ns mainGlobals mg) (c : SaysM fas fns K) (hmg : mg "law" = some (.ref a)) :
    ∃ fd : FuncData, (∀ (s : Shared) (u : Value), BindsTo s fd ⟨[u], []⟩ [("_law_script", u)]) ∧ ∀ base : Heap, K.In base → base.Ns mainGlobals mg → DFn PySem.Challenge.rw_fontwinding_k16_joined_points.prog w K mg base 9 a fd ["_law_script"] spLaw := by
  have T := tx_of X G c
  have e : a = He.ga K "law" := by
    have z := hmg.symm.trans T.g_law
    cases z
    rfl
  subst e
  obtain ⟨fd, F⟩ := T.F_law
  have b := FunD.bindsA (ps := ["_law_script"]) F fun _ _ _ _ _ _ us hl => match us, hl with | [_], _ => rfl
  refine ⟨fd, fun s v => b s [v] rfl, fun base _ _ => ?_⟩
  have c_ratio := ok_ratio (P := PySem.Challenge.rw_fontwinding_k16_joined_points.prog) (w := w) (base := base) T
  have c_add := ok_add (P := PySem.Challenge.rw_fontwinding_k16_joined_points.prog) (w := w) (base := base) T c_ratio
  have c_subtract := ok_subtract (P := PySem.Challenge.rw_fontwinding_k16_joined_points.prog) (w := w) (base := base) T c_ratio
  have c_multiply := ok_multiply (P := PySem.Challenge.rw_fontwinding_k16_joined_points.prog) (w := w) (base := base) T c_ratio
  have c_divide := ok_divide (P := PySem.Challenge.rw_fontwinding_k16_joined_points.prog) (w := w) (base := base) T c_ratio
  have c_compare := ok_compare (P := PySem.Challenge.rw_fontwinding_k16_joined_points.prog) (w := w) (base := base) T
  have c_difference := ok_difference (P := PySem.Challenge.rw_fontwinding_k16_joined_points.prog) (w := w) (base := base) T c_subtract
  have c_scaled := ok_scaled (P := PySem.Challenge.rw_fontwinding_k16_joined_points.prog) (w := w) (base := base) T c_multiply
  have c_is_smooth := ok_is_smooth (P := PySem.Challenge.rw_fontwinding_k16_joined_points.prog) (w := w) (base := base) T
  have c_direction := ok_direction (P := PySem.Challenge.rw_fontwinding_k16_joined_points.prog) (w := w) (base := base) T c_scaled c_difference c_is_smooth
  have c_smooth_segment := ok_smooth_segment (P := PySem.Challenge.rw_fontwinding_k16_joined_points.prog) (w := w) (base := base) T c_difference c_direction c_divide c_scaled c_multiply c_add c_subtract
  have c_join_segment := ok_join_segment (P := PySem.Challenge.rw_fontwinding_k16_joined_points.prog) (w := w) (base := base) T c_is_smooth c_smooth_segment
  have c_join_points := ok_join_points (P := PySem.Challenge.rw_fontwinding_k16_joined_points.prog) (w := w) (base := base) T c_join_segment c_is_smooth c_compare
  have c__law_cell := ok__law_cell (P := PySem.Challenge.rw_fontwinding_k16_joined_points.prog) (w := w) (base := base) T
  have c__law_stream := ok__law_stream (P := PySem.Challenge.rw_fontwinding_k16_joined_points.prog) (w := w) (base := base) T
  have c__law_next := ok__law_next (P := PySem.Challenge.rw_fontwinding_k16_joined_points.prog) (w := w) (base := base) T
  have c__law_is_integer := ok__law_is_integer (P := PySem.Challenge.rw_fontwinding_k16_joined_points.prog) (w := w) (base := base) T
  have c__law_ratio := ok__law_ratio (P := PySem.Challenge.rw_fontwinding_k16_joined_points.prog) (w := w) (base := base) T
  have c__law_is_number := ok__law_is_number (P := PySem.Challenge.rw_fontwinding_k16_joined_points.prog) (w := w) (base := base) T c__law_is_integer
  have c__law_sum := ok__law_sum (P := PySem.Challenge.rw_fontwinding_k16_joined_points.prog) (w := w) (base := base) T c__law_ratio
  have c__law_difference := ok__law_difference (P := PySem.Challenge.rw_fontwinding_k16_joined_points.prog) (w := w) (base := base) T c__law_ratio
  have c__law_product := ok__law_product (P := PySem.Challenge.rw_fontwinding_k16_joined_points.prog) (w := w) (base := base) T c__law_ratio
  have c__law_applied := ok__law_applied (P := PySem.Challenge.rw_fontwinding_k16_joined_points.prog) (w := w) (base := base) T c__law_sum c__law_product
  have c__law_small := ok__law_small (P := PySem.Challenge.rw_fontwinding_k16_joined_points.prog) (w := w) (base := base) T c__law_ratio c__law_next
  have c__law_point := ok__law_point (P := PySem.Challenge.rw_fontwinding_k16_joined_points.prog) (w := w) (base := base) T c__law_small
  have c__law_is_point := ok__law_is_point (P := PySem.Challenge.rw_fontwinding_k16_joined_points.prog) (w := w) (base := base) T c__law_is_number
  have c__law_minus := ok__law_minus (P := PySem.Challenge.rw_fontwinding_k16_joined_points.prog) (w := w) (base := base) T c__law_difference
  have c__law_moved := ok__law_moved (P := PySem.Challenge.rw_fontwinding_k16_joined_points.prog) (w := w) (base := base) T c__law_sum c__law_product
  have c__law_direction := ok__law_direction (P := PySem.Challenge.rw_fontwinding_k16_joined_points.prog) (w := w) (base := base) T c__law_minus c__law_product
  have c__law_segment := ok__law_segment (P := PySem.Challenge.rw_fontwinding_k16_joined_points.prog) (w := w) (base := base) T c__law_direction c__law_ratio c__law_minus c__law_moved
  have c__law_joins := ok__law_joins (P := PySem.Challenge.rw_fontwinding_k16_joined_points.prog) (w := w) (base := base) T c__law_next c__law_point c__law_ratio
  have c__law_refused := ok__law_refused (P := PySem.Challenge.rw_fontwinding_k16_joined_points.prog) (w := w) (base := base) T c_join_points
  exact ok_law T F c__law_stream c__law_joins c__law_cell c__law_next c__law_point c__law_refused c_join_points c__law_segment
end Lk16
open PySem PySem.W PySem.Calls PyProof.Rows
set_option maxHeartbeats 0 in
theorem PySem.Challenge.cw_fontwinding_k16_joined_points_holds : PySem.Challenge.rw_fontwinding_k16_joined_points.Holds := by
  w_on; o_law
  refine HandSHeadRun.head_imp (r := OpenLaw.row PySem.Challenge.rw_fontwinding_k16_joined_points) (q := view (OpenLaw.row PySem.Challenge.rw_fontwinding_k16_joined_points).prog [0, 45]) (H := Lk16.hk) (ob := Lk16.ob) (M := 6000) (loose := Lk16.looseN) (d := HandSHeadRun.topDef (OpenLaw.row PySem.Challenge.rw_fontwinding_k16_joined_points).prog 45) (kwd := []) Lk16.ob_eq
    Lk16.run (by kernel_rfl) (by kernel_rfl) (by kernel_rfl) (by rfl) (by first | assumption | decide +kernel) (by decide +kernel) ⟨rfl, rfl, rfl, rfl, rfl, by decide +kernel⟩ ?hw ?hc
  case hw => w_witness2
  case hc =>
    refine Dl.walk_dl (l := PySem.Challenge.rw_fontwinding_k16_joined_points) (k := 9) (x := "_law_script") (by kernel_rfl) (by kernel_rfl) ⟨rfl, by decide, by decide⟩ fun w mg h K a KX G c hmg0 => ?_
    have hmg : mg ("law" : PySem.Str) = some (.ref a) := by
      have e : (HandSHeadRun.topDef (OpenLaw.row PySem.Challenge.rw_fontwinding_k16_joined_points).prog 45).name = ("law" : PySem.Str) := by kernel_rfl
      rw [← e]
      exact hmg0
    exact Lk16.law_end KX G c hmg
